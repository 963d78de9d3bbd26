/- Lemmas on the program and its library, part Base. -/
import Derived.Test.YtalgbhjnbgkneaaGreatDoorProg
import Derived.KernelRfl
import Derived.Lib.ItoaNum
import Derived.Test.YtalgbhjnbgkneaaGreatDoorZAx16
set_option linter.unusedVariables false
set_option linter.unusedSimpArgs false
section
namespace Go.Proofs
open Go.Ax
abbrev ti2:TyI:={ size:=1,bytes:=8,agg:=false,kind:=.int .i64,zero:=some [.int .i64 0],flat:=some [.int .i64] }
abbrev ti3:TyI:={ size:=1,bytes:=8,agg:=false,kind:=.int .i64,zero:=some [.int .i64 0],flat:=some [.int .i64] }
abbrev ti4:TyI:={ size:=1,bytes:=1,agg:=false,kind:=.bool,zero:=some [.bool false],flat:=some [.bool] }
abbrev ti5:TyI:={ size:=1,bytes:=1,agg:=false,kind:=.int .u8,zero:=some [.int .u8 0],flat:=some [.int .u8] }
abbrev ti9:TyI:={ size:=1,bytes:=16,agg:=false,kind:=.string,zero:=some [.string ⟨#[]⟩],flat:=some [.string] }
abbrev ti21:TyI:={ size:=1,bytes:=4,agg:=false,kind:=.int .i32,zero:=some [.int .i32 0],flat:=some [.int .i32] }
abbrev ti22:TyI:={ size:=1,bytes:=24,agg:=false,kind:=.slice 67 2,zero:=some [.slice none 0 0],flat:=none }
abbrev ti24:TyI:={ size:=2,bytes:=32,agg:=true,kind:=.struct [(0,1,false),(1,1,false)],zero:=some [.slice none 0 0,.int .i64 0],flat:=none }
abbrev ti25:TyI:={ size:=1,bytes:=24,agg:=false,kind:=.slice 3 1,zero:=some [.slice none 0 0],flat:=none }
abbrev ti26:TyI:={ size:=1,bytes:=24,agg:=false,kind:=.slice 114 2,zero:=some [.slice none 0 0],flat:=none }
abbrev ti29:TyI:={ size:=1,bytes:=8,agg:=false,kind:=.int .i64,zero:=some [.int .i64 0],flat:=some [.int .i64] }
abbrev ti51:TyI:={ size:=3,bytes:=24,agg:=true,kind:=.struct [(0,1,false),(1,1,false),(2,1,false)],zero:=some [.int .i64 0,.int .i64 0,.int .i64 0],flat:=some [.int .i64,.int .i64,.int .i64] }
abbrev ti61:TyI:={ size:=1,bytes:=24,agg:=false,kind:=.slice 111 2,zero:=some [.slice none 0 0],flat:=none }
abbrev ti67:TyI:={ size:=2,bytes:=32,agg:=true,kind:=.struct [(0,1,false),(1,1,false)],zero:=some [.int .i64 0,.slice none 0 0],flat:=none }
abbrev ti79:TyI:={ size:=1,bytes:=8,agg:=false,kind:=.other,zero:=some [.nilFunc],flat:=none }
abbrev ti80:TyI:={ size:=4,bytes:=4,agg:=true,kind:=.array 4 5 1,zero:=some [.int .u8 0,.int .u8 0,.int .u8 0,.int .u8 0],flat:=some [.int .u8,.int .u8,.int .u8,.int .u8] }
abbrev ti87:TyI:={ size:=1,bytes:=8,agg:=false,kind:=.other,zero:=some [.nilFunc],flat:=none }
abbrev ti95:TyI:={ size:=1,bytes:=16,agg:=false,kind:=.string,zero:=some [.string ⟨#[]⟩],flat:=some [.string] }
abbrev ti111:TyI:={ size:=2,bytes:=16,agg:=true,kind:=.array 2 3 1,zero:=some [.int .i64 0,.int .i64 0],flat:=some [.int .i64,.int .i64] }
abbrev ti114:TyI:={ size:=2,bytes:=16,agg:=true,kind:=.struct [(0,1,false),(1,1,false)],zero:=some [.int .i64 0,.int .i64 0],flat:=some [.int .i64,.int .i64] }
abbrev ti116:TyI:={ size:=3,bytes:=56,agg:=true,kind:=.struct [(0,1,false),(1,1,false),(2,1,false)],zero:=some [.slice none 0 0,.slice none 0 0,.int .i64 0],flat:=none }
abbrev ti125:TyI:={ size:=1,bytes:=8,agg:=false,kind:=.other,zero:=some [.pointer none],flat:=none }
abbrev ti127:TyI:={ size:=4,bytes:=80,agg:=true,kind:=.struct [(0,3,true),(3,1,false)],zero:=some [.slice none 0 0,.slice none 0 0,.int .i64 0,.slice none 0 0],flat:=none }
abbrev ti129:TyI:={ size:=1,bytes:=24,agg:=false,kind:=.slice 4 1,zero:=some [.slice none 0 0],flat:=none }
abbrev ti130:TyI:={ size:=1,bytes:=24,agg:=false,kind:=.slice 134 3,zero:=some [.slice none 0 0],flat:=none }
abbrev ti132:TyI:={ size:=10,bytes:=192,agg:=true,kind:=.struct [(0,1,false),(1,1,false),(2,1,false),(3,1,false),(4,1,false),(5,1,false),(6,1,false),(7,1,false),(8,1,false),(9,1,false)],zero:=some [.slice none 0 0,.slice none 0 0,.int .i64 0,.slice none 0 0,.slice none 0 0,.slice none 0 0,.slice none 0 0,.bool false,.slice none 0 0,.int .i64 0],flat:=none }
abbrev ti134:TyI:={ size:=3,bytes:=24,agg:=true,kind:=.struct [(0,1,false),(1,1,false),(2,1,false)],zero:=some [.int .i64 0,.int .i64 0,.int .i64 0],flat:=some [.int .i64,.int .i64,.int .i64] }
abbrev ti140:TyI:={ size:=1,bytes:=8,agg:=false,kind:=.other,zero:=some [.nilFunc],flat:=none }
abbrev ti150:TyI:={ size:=1,bytes:=8,agg:=false,kind:=.other,zero:=some [.nilFunc],flat:=none }
abbrev ti155:TyI:={ size:=2,bytes:=16,agg:=true,kind:=.struct [(0,1,false),(1,1,false)],zero:=some [.int .i64 0,.int .i64 0],flat:=some [.int .i64,.int .i64] }
abbrev ti157:TyI:={ size:=1,bytes:=24,agg:=false,kind:=.slice 247 1,zero:=some [.slice none 0 0],flat:=none }
abbrev ti159:TyI:={ size:=2,bytes:=32,agg:=true,kind:=.struct [(0,1,false),(1,1,false)],zero:=some [.int .i64 0,.slice none 0 0],flat:=none }
abbrev ti161:TyI:={ size:=4,bytes:=64,agg:=true,kind:=.struct [(0,2,true),(2,2,true)],zero:=some [.int .i64 0,.slice none 0 0,.int .i64 0,.slice none 0 0],flat:=none }
abbrev ti170:TyI:={ size:=2,bytes:=32,agg:=true,kind:=.struct [(0,1,false),(1,1,false)],zero:=some [.bool false,.slice none 0 0],flat:=none }
abbrev ti178:TyI:={ size:=1,bytes:=24,agg:=false,kind:=.slice 155 2,zero:=some [.slice none 0 0],flat:=none }
abbrev ti182:TyI:={ size:=1,bytes:=24,agg:=false,kind:=.slice 29 1,zero:=some [.slice none 0 0],flat:=none }
abbrev ti183:TyI:={ size:=256,bytes:=2048,agg:=true,kind:=.array 256 3 1,zero:=some (List.replicate 256 (.int .i64 0)),flat:=some (List.replicate 256 (.int .i64)) }
abbrev ti184:TyI:={ size:=1,bytes:=8,agg:=false,kind:=.other,zero:=some [.pointer none],flat:=none }
abbrev ti196:TyI:={ size:=1,bytes:=8,agg:=false,kind:=.other,zero:=some [.nilFunc],flat:=none }
abbrev ti208:TyI:={ size:=1,bytes:=24,agg:=false,kind:=.slice 212 5,zero:=some [.slice none 0 0],flat:=none }
abbrev ti212:TyI:={ size:=5,bytes:=72,agg:=true,kind:=.struct [(0,4,true),(4,1,false)],zero:=some [.int .i64 0,.slice none 0 0,.int .i64 0,.slice none 0 0,.int .i64 0],flat:=none }
abbrev ti214:TyI:={ size:=1,bytes:=8,agg:=false,kind:=.other,zero:=some [.nilFunc],flat:=none }
abbrev ti226:TyI:={ size:=256,bytes:=2048,agg:=true,kind:=.array 256 3 1,zero:=some (List.replicate 256 (.int .i64 0)),flat:=some (List.replicate 256 (.int .i64)) }
abbrev ti228:TyI:={ size:=1,bytes:=8,agg:=false,kind:=.other,zero:=some [.nilFunc],flat:=none }
abbrev ti231:TyI:={ size:=1,bytes:=8,agg:=false,kind:=.int .u64,zero:=some [.int .u64 0],flat:=some [.int .u64] }
abbrev ti240:TyI:={ size:=1,bytes:=16,agg:=false,kind:=.other,zero:=some [.nilIface],flat:=none }
abbrev ti247:TyI:={ size:=1,bytes:=8,agg:=false,kind:=.int .u64,zero:=some [.int .u64 0],flat:=some [.int .u64] }
abbrev ti248:TyI:={ size:=1,bytes:=24,agg:=false,kind:=.slice 9 1,zero:=some [.slice none 0 0],flat:=none }
abbrev ti253:TyI:={ size:=1,bytes:=8,agg:=false,kind:=.other,zero:=some [.pointer none],flat:=none }
abbrev ti254:TyI:={ size:=1,bytes:=24,agg:=false,kind:=.slice 5 1,zero:=some [.slice none 0 0],flat:=none }
abbrev ti256:TyI:={ size:=2,bytes:=32,agg:=true,kind:=.struct [(0,1,false),(1,1,false)],zero:=some [.pointer none,.slice none 0 0],flat:=none }
abbrev ti267:TyI:={ size:=1,bytes:=8,agg:=false,kind:=.int .i64,zero:=some [.int .i64 0],flat:=some [.int .i64] }
abbrev ti274:TyI:={ size:=1,bytes:=4,agg:=false,kind:=.int .u32,zero:=some [.int .u32 0],flat:=some [.int .u32] }
abbrev ti291:TyI:={ size:=1,bytes:=8,agg:=false,kind:=.other,zero:=some [.pointer none],flat:=none }
abbrev ti298:TyI:={ size:=1,bytes:=8,agg:=false,kind:=.int .u64,zero:=some [.int .u64 0],flat:=some [.int .u64] }
abbrev ti302:TyI:={ size:=1,bytes:=8,agg:=false,kind:=.other,zero:=some [.pointer none],flat:=none }
abbrev ti312:TyI:={ size:=24,bytes:=24,agg:=true,kind:=.array 24 5 1,zero:=some (List.replicate 24 (.int .u8 0)),flat:=some (List.replicate 24 (.int .u8)) }
abbrev ti316:TyI:={ size:=1,bytes:=8,agg:=false,kind:=.other,zero:=some [.pointer none],flat:=none }
abbrev ti327:TyI:={ size:=3,bytes:=48,agg:=true,kind:=.struct [(0,1,false),(1,1,false),(2,1,false)],zero:=some [.string ⟨#[]⟩,.string ⟨#[]⟩,.nilIface],flat:=none }
abbrev ti330:TyI:={ size:=20,bytes:=160,agg:=true,kind:=.array 20 247 1,zero:=some (List.replicate 20 (.int .u64 0)),flat:=some (List.replicate 20 (.int .u64)) }
abbrev ti331:TyI:={ size:=65,bytes:=65,agg:=true,kind:=.array 65 5 1,zero:=some (List.replicate 65 (.int .u8 0)),flat:=some (List.replicate 65 (.int .u8)) }
abbrev ti337:TyI:={ size:=1,bytes:=16,agg:=true,kind:=.struct [(0,1,false)],zero:=some [.string ⟨#[]⟩],flat:=some [.string] }
abbrev ti338:TyI:={ size:=32,bytes:=32,agg:=true,kind:=.array 32 5 1,zero:=some (List.replicate 32 (.int .u8 0)),flat:=some (List.replicate 32 (.int .u8)) }
abbrev ti339:TyI:={ size:=64,bytes:=64,agg:=true,kind:=.array 64 5 1,zero:=some (List.replicate 64 (.int .u8 0)),flat:=some (List.replicate 64 (.int .u8)) }
theorem ty2:tyI Tryz.prog 2=some ti2:=by kernel_rfl
theorem ty3:tyI Tryz.prog 3=some ti3:=by kernel_rfl
theorem ty4:tyI Tryz.prog 4=some ti4:=by kernel_rfl
theorem ty5:tyI Tryz.prog 5=some ti5:=by kernel_rfl
theorem ty9:tyI Tryz.prog 9=some ti9:=by kernel_rfl
theorem ty21:tyI Tryz.prog 21=some ti21:=by kernel_rfl
theorem ty22:tyI Tryz.prog 22=some ti22:=by kernel_rfl
theorem ty24:tyI Tryz.prog 24=some ti24:=by kernel_rfl
theorem ty25:tyI Tryz.prog 25=some ti25:=by kernel_rfl
theorem ty26:tyI Tryz.prog 26=some ti26:=by kernel_rfl
theorem ty29:tyI Tryz.prog 29=some ti29:=by kernel_rfl
theorem ty51:tyI Tryz.prog 51=some ti51:=by kernel_rfl
theorem ty61:tyI Tryz.prog 61=some ti61:=by kernel_rfl
theorem ty67:tyI Tryz.prog 67=some ti67:=by kernel_rfl
theorem ty79:tyI Tryz.prog 79=some ti79:=by kernel_rfl
theorem ty80:tyI Tryz.prog 80=some ti80:=by kernel_rfl
theorem ty87:tyI Tryz.prog 87=some ti87:=by kernel_rfl
theorem ty95:tyI Tryz.prog 95=some ti95:=by kernel_rfl
theorem ty111:tyI Tryz.prog 111=some ti111:=by kernel_rfl
theorem ty114:tyI Tryz.prog 114=some ti114:=by kernel_rfl
theorem ty116:tyI Tryz.prog 116=some ti116:=by kernel_rfl
theorem ty125:tyI Tryz.prog 125=some ti125:=by kernel_rfl
theorem ty127:tyI Tryz.prog 127=some ti127:=by kernel_rfl
theorem ty129:tyI Tryz.prog 129=some ti129:=by kernel_rfl
theorem ty130:tyI Tryz.prog 130=some ti130:=by kernel_rfl
theorem ty132:tyI Tryz.prog 132=some ti132:=by kernel_rfl
theorem ty134:tyI Tryz.prog 134=some ti134:=by kernel_rfl
theorem ty140:tyI Tryz.prog 140=some ti140:=by kernel_rfl
theorem ty150:tyI Tryz.prog 150=some ti150:=by kernel_rfl
theorem ty155:tyI Tryz.prog 155=some ti155:=by kernel_rfl
theorem ty157:tyI Tryz.prog 157=some ti157:=by kernel_rfl
theorem ty159:tyI Tryz.prog 159=some ti159:=by kernel_rfl
theorem ty161:tyI Tryz.prog 161=some ti161:=by kernel_rfl
theorem ty170:tyI Tryz.prog 170=some ti170:=by kernel_rfl
theorem ty178:tyI Tryz.prog 178=some ti178:=by kernel_rfl
theorem ty182:tyI Tryz.prog 182=some ti182:=by kernel_rfl
theorem ty183:tyI Tryz.prog 183=some ti183:=by kernel_rfl
theorem ty184:tyI Tryz.prog 184=some ti184:=by kernel_rfl
theorem ty196:tyI Tryz.prog 196=some ti196:=by kernel_rfl
theorem ty208:tyI Tryz.prog 208=some ti208:=by kernel_rfl
theorem ty212:tyI Tryz.prog 212=some ti212:=by kernel_rfl
theorem ty214:tyI Tryz.prog 214=some ti214:=by kernel_rfl
theorem ty226:tyI Tryz.prog 226=some ti226:=by kernel_rfl
theorem ty228:tyI Tryz.prog 228=some ti228:=by kernel_rfl
theorem ty231:tyI Tryz.prog 231=some ti231:=by kernel_rfl
theorem ty240:tyI Tryz.prog 240=some ti240:=by kernel_rfl
theorem ty247:tyI Tryz.prog 247=some ti247:=by kernel_rfl
theorem ty248:tyI Tryz.prog 248=some ti248:=by kernel_rfl
theorem ty253:tyI Tryz.prog 253=some ti253:=by kernel_rfl
theorem ty254:tyI Tryz.prog 254=some ti254:=by kernel_rfl
theorem ty256:tyI Tryz.prog 256=some ti256:=by kernel_rfl
theorem ty267:tyI Tryz.prog 267=some ti267:=by kernel_rfl
theorem ty274:tyI Tryz.prog 274=some ti274:=by kernel_rfl
theorem ty291:tyI Tryz.prog 291=some ti291:=by kernel_rfl
theorem ty298:tyI Tryz.prog 298=some ti298:=by kernel_rfl
theorem ty302:tyI Tryz.prog 302=some ti302:=by kernel_rfl
theorem ty312:tyI Tryz.prog 312=some ti312:=by kernel_rfl
theorem ty316:tyI Tryz.prog 316=some ti316:=by kernel_rfl
theorem ty327:tyI Tryz.prog 327=some ti327:=by kernel_rfl
theorem ty330:tyI Tryz.prog 330=some ti330:=by kernel_rfl
theorem ty331:tyI Tryz.prog 331=some ti331:=by kernel_rfl
theorem ty337:tyI Tryz.prog 337=some ti337:=by kernel_rfl
theorem ty338:tyI Tryz.prog 338=some ti338:=by kernel_rfl
theorem ty339:tyI Tryz.prog 339=some ti339:=by kernel_rfl
def ttT:TyTree:=(.node (.node (.node (.node (.node (.node (.node .nil 2 ti2 .nil) 3 ti3 .nil) 4 ti4 (.node .nil 5 ti5 .nil)) 9 ti9 (.node (.node .nil 21 ti21 .nil) 22 ti22 (.node .nil 24 ti24 .nil))) 25 ti25 (.node (.node (.node .nil 26 ti26 .nil) 29 ti29 (.node .nil 51 ti51 .nil)) 61 ti61 (.node (.node .nil 67 ti67 .nil) 79 ti79 (.node .nil 80 ti80 .nil)))) 87 ti87 (.node (.node (.node (.node .nil 95 ti95 .nil) 111 ti111 (.node .nil 114 ti114 .nil)) 116 ti116 (.node (.node .nil 125 ti125 .nil) 127 ti127 (.node .nil 129 ti129 .nil))) 130 ti130 (.node (.node (.node .nil 132 ti132 .nil) 134 ti134 (.node .nil 140 ti140 .nil)) 150 ti150 (.node (.node .nil 155 ti155 .nil) 157 ti157 (.node .nil 159 ti159 .nil))))) 161 ti161 (.node (.node (.node (.node (.node .nil 170 ti170 .nil) 178 ti178 (.node .nil 182 ti182 .nil)) 183 ti183 (.node (.node .nil 184 ti184 .nil) 196 ti196 (.node .nil 208 ti208 .nil))) 212 ti212 (.node (.node (.node .nil 214 ti214 .nil) 226 ti226 (.node .nil 228 ti228 .nil)) 231 ti231 (.node (.node .nil 240 ti240 .nil) 247 ti247 (.node .nil 248 ti248 .nil)))) 253 ti253 (.node (.node (.node (.node .nil 254 ti254 .nil) 256 ti256 (.node .nil 267 ti267 .nil)) 274 ti274 (.node (.node .nil 291 ti291 .nil) 298 ti298 (.node .nil 302 ti302 .nil))) 312 ti312 (.node (.node (.node .nil 316 ti316 .nil) 327 ti327 (.node .nil 330 ti330 .nil)) 331 ti331 (.node (.node .nil 337 ti337 .nil) 338 ti338 (.node .nil 339 ti339 .nil))))))
def tt (T:TypeId):Option TyI:=ttT.find T
theorem tt_ok:TtOk Tryz.prog tt:=ttOk_of_tree (t:=ttT) ⟨⟨⟨⟨⟨⟨⟨trivial,ty2,trivial⟩,ty3,trivial⟩,ty4,⟨trivial,ty5,trivial⟩⟩,ty9,⟨⟨trivial,ty21,trivial⟩,ty22,⟨trivial,ty24,trivial⟩⟩⟩,ty25,⟨⟨⟨trivial,ty26,trivial⟩,ty29,⟨trivial,ty51,trivial⟩⟩,ty61,⟨⟨trivial,ty67,trivial⟩,ty79,⟨trivial,ty80,trivial⟩⟩⟩⟩,ty87,⟨⟨⟨⟨trivial,ty95,trivial⟩,ty111,⟨trivial,ty114,trivial⟩⟩,ty116,⟨⟨trivial,ty125,trivial⟩,ty127,⟨trivial,ty129,trivial⟩⟩⟩,ty130,⟨⟨⟨trivial,ty132,trivial⟩,ty134,⟨trivial,ty140,trivial⟩⟩,ty150,⟨⟨trivial,ty155,trivial⟩,ty157,⟨trivial,ty159,trivial⟩⟩⟩⟩⟩,ty161,⟨⟨⟨⟨⟨trivial,ty170,trivial⟩,ty178,⟨trivial,ty182,trivial⟩⟩,ty183,⟨⟨trivial,ty184,trivial⟩,ty196,⟨trivial,ty208,trivial⟩⟩⟩,ty212,⟨⟨⟨trivial,ty214,trivial⟩,ty226,⟨trivial,ty228,trivial⟩⟩,ty231,⟨⟨trivial,ty240,trivial⟩,ty247,⟨trivial,ty248,trivial⟩⟩⟩⟩,ty253,⟨⟨⟨⟨trivial,ty254,trivial⟩,ty256,⟨trivial,ty267,trivial⟩⟩,ty274,⟨⟨trivial,ty291,trivial⟩,ty298,⟨trivial,ty302,trivial⟩⟩⟩,ty312,⟨⟨⟨trivial,ty316,trivial⟩,ty327,⟨trivial,ty330,trivial⟩⟩,ty331,⟨⟨trivial,ty337,trivial⟩,ty338,⟨trivial,ty339,trivial⟩⟩⟩⟩⟩⟩
theorem tt_2:tt 2=some { size:=1,bytes:=8,agg:=false,kind:=.int .i64,zero:=some [.int .i64 0],flat:=some [.int .i64] }:=rfl
theorem tt_3:tt 3=some { size:=1,bytes:=8,agg:=false,kind:=.int .i64,zero:=some [.int .i64 0],flat:=some [.int .i64] }:=rfl
theorem tt_4:tt 4=some { size:=1,bytes:=1,agg:=false,kind:=.bool,zero:=some [.bool false],flat:=some [.bool] }:=rfl
theorem tt_5:tt 5=some { size:=1,bytes:=1,agg:=false,kind:=.int .u8,zero:=some [.int .u8 0],flat:=some [.int .u8] }:=rfl
theorem tt_9:tt 9=some { size:=1,bytes:=16,agg:=false,kind:=.string,zero:=some [.string ⟨#[]⟩],flat:=some [.string] }:=rfl
theorem tt_21:tt 21=some { size:=1,bytes:=4,agg:=false,kind:=.int .i32,zero:=some [.int .i32 0],flat:=some [.int .i32] }:=rfl
theorem tt_22:tt 22=some { size:=1,bytes:=24,agg:=false,kind:=.slice 67 2,zero:=some [.slice none 0 0],flat:=none }:=rfl
theorem tt_24:tt 24=some { size:=2,bytes:=32,agg:=true,kind:=.struct [(0,1,false),(1,1,false)],zero:=some [.slice none 0 0,.int .i64 0],flat:=none }:=rfl
theorem tt_25:tt 25=some { size:=1,bytes:=24,agg:=false,kind:=.slice 3 1,zero:=some [.slice none 0 0],flat:=none }:=rfl
theorem tt_26:tt 26=some { size:=1,bytes:=24,agg:=false,kind:=.slice 114 2,zero:=some [.slice none 0 0],flat:=none }:=rfl
theorem tt_29:tt 29=some { size:=1,bytes:=8,agg:=false,kind:=.int .i64,zero:=some [.int .i64 0],flat:=some [.int .i64] }:=rfl
theorem tt_51:tt 51=some { size:=3,bytes:=24,agg:=true,kind:=.struct [(0,1,false),(1,1,false),(2,1,false)],zero:=some [.int .i64 0,.int .i64 0,.int .i64 0],flat:=some [.int .i64,.int .i64,.int .i64] }:=rfl
theorem tt_61:tt 61=some { size:=1,bytes:=24,agg:=false,kind:=.slice 111 2,zero:=some [.slice none 0 0],flat:=none }:=rfl
theorem tt_67:tt 67=some { size:=2,bytes:=32,agg:=true,kind:=.struct [(0,1,false),(1,1,false)],zero:=some [.int .i64 0,.slice none 0 0],flat:=none }:=rfl
theorem tt_79:tt 79=some { size:=1,bytes:=8,agg:=false,kind:=.other,zero:=some [.nilFunc],flat:=none }:=rfl
theorem tt_80:tt 80=some { size:=4,bytes:=4,agg:=true,kind:=.array 4 5 1,zero:=some [.int .u8 0,.int .u8 0,.int .u8 0,.int .u8 0],flat:=some [.int .u8,.int .u8,.int .u8,.int .u8] }:=rfl
theorem tt_87:tt 87=some { size:=1,bytes:=8,agg:=false,kind:=.other,zero:=some [.nilFunc],flat:=none }:=rfl
theorem tt_95:tt 95=some { size:=1,bytes:=16,agg:=false,kind:=.string,zero:=some [.string ⟨#[]⟩],flat:=some [.string] }:=rfl
theorem tt_111:tt 111=some { size:=2,bytes:=16,agg:=true,kind:=.array 2 3 1,zero:=some [.int .i64 0,.int .i64 0],flat:=some [.int .i64,.int .i64] }:=rfl
theorem tt_114:tt 114=some { size:=2,bytes:=16,agg:=true,kind:=.struct [(0,1,false),(1,1,false)],zero:=some [.int .i64 0,.int .i64 0],flat:=some [.int .i64,.int .i64] }:=rfl
theorem tt_116:tt 116=some { size:=3,bytes:=56,agg:=true,kind:=.struct [(0,1,false),(1,1,false),(2,1,false)],zero:=some [.slice none 0 0,.slice none 0 0,.int .i64 0],flat:=none }:=rfl
theorem tt_125:tt 125=some { size:=1,bytes:=8,agg:=false,kind:=.other,zero:=some [.pointer none],flat:=none }:=rfl
theorem tt_127:tt 127=some { size:=4,bytes:=80,agg:=true,kind:=.struct [(0,3,true),(3,1,false)],zero:=some [.slice none 0 0,.slice none 0 0,.int .i64 0,.slice none 0 0],flat:=none }:=rfl
theorem tt_129:tt 129=some { size:=1,bytes:=24,agg:=false,kind:=.slice 4 1,zero:=some [.slice none 0 0],flat:=none }:=rfl
theorem tt_130:tt 130=some { size:=1,bytes:=24,agg:=false,kind:=.slice 134 3,zero:=some [.slice none 0 0],flat:=none }:=rfl
theorem tt_132:tt 132=some { size:=10,bytes:=192,agg:=true,kind:=.struct [(0,1,false),(1,1,false),(2,1,false),(3,1,false),(4,1,false),(5,1,false),(6,1,false),(7,1,false),(8,1,false),(9,1,false)],zero:=some [.slice none 0 0,.slice none 0 0,.int .i64 0,.slice none 0 0,.slice none 0 0,.slice none 0 0,.slice none 0 0,.bool false,.slice none 0 0,.int .i64 0],flat:=none }:=rfl
theorem tt_134:tt 134=some { size:=3,bytes:=24,agg:=true,kind:=.struct [(0,1,false),(1,1,false),(2,1,false)],zero:=some [.int .i64 0,.int .i64 0,.int .i64 0],flat:=some [.int .i64,.int .i64,.int .i64] }:=rfl
theorem tt_140:tt 140=some { size:=1,bytes:=8,agg:=false,kind:=.other,zero:=some [.nilFunc],flat:=none }:=rfl
theorem tt_150:tt 150=some { size:=1,bytes:=8,agg:=false,kind:=.other,zero:=some [.nilFunc],flat:=none }:=rfl
theorem tt_155:tt 155=some { size:=2,bytes:=16,agg:=true,kind:=.struct [(0,1,false),(1,1,false)],zero:=some [.int .i64 0,.int .i64 0],flat:=some [.int .i64,.int .i64] }:=rfl
theorem tt_157:tt 157=some { size:=1,bytes:=24,agg:=false,kind:=.slice 247 1,zero:=some [.slice none 0 0],flat:=none }:=rfl
theorem tt_159:tt 159=some { size:=2,bytes:=32,agg:=true,kind:=.struct [(0,1,false),(1,1,false)],zero:=some [.int .i64 0,.slice none 0 0],flat:=none }:=rfl
theorem tt_161:tt 161=some { size:=4,bytes:=64,agg:=true,kind:=.struct [(0,2,true),(2,2,true)],zero:=some [.int .i64 0,.slice none 0 0,.int .i64 0,.slice none 0 0],flat:=none }:=rfl
theorem tt_170:tt 170=some { size:=2,bytes:=32,agg:=true,kind:=.struct [(0,1,false),(1,1,false)],zero:=some [.bool false,.slice none 0 0],flat:=none }:=rfl
theorem tt_178:tt 178=some { size:=1,bytes:=24,agg:=false,kind:=.slice 155 2,zero:=some [.slice none 0 0],flat:=none }:=rfl
theorem tt_182:tt 182=some { size:=1,bytes:=24,agg:=false,kind:=.slice 29 1,zero:=some [.slice none 0 0],flat:=none }:=rfl
theorem tt_183:tt 183=some { size:=256,bytes:=2048,agg:=true,kind:=.array 256 3 1,zero:=some (List.replicate 256 (.int .i64 0)),flat:=some (List.replicate 256 (.int .i64)) }:=rfl
theorem tt_184:tt 184=some { size:=1,bytes:=8,agg:=false,kind:=.other,zero:=some [.pointer none],flat:=none }:=rfl
theorem tt_196:tt 196=some { size:=1,bytes:=8,agg:=false,kind:=.other,zero:=some [.nilFunc],flat:=none }:=rfl
theorem tt_208:tt 208=some { size:=1,bytes:=24,agg:=false,kind:=.slice 212 5,zero:=some [.slice none 0 0],flat:=none }:=rfl
theorem tt_212:tt 212=some { size:=5,bytes:=72,agg:=true,kind:=.struct [(0,4,true),(4,1,false)],zero:=some [.int .i64 0,.slice none 0 0,.int .i64 0,.slice none 0 0,.int .i64 0],flat:=none }:=rfl
theorem tt_214:tt 214=some { size:=1,bytes:=8,agg:=false,kind:=.other,zero:=some [.nilFunc],flat:=none }:=rfl
theorem tt_226:tt 226=some { size:=256,bytes:=2048,agg:=true,kind:=.array 256 3 1,zero:=some (List.replicate 256 (.int .i64 0)),flat:=some (List.replicate 256 (.int .i64)) }:=rfl
theorem tt_228:tt 228=some { size:=1,bytes:=8,agg:=false,kind:=.other,zero:=some [.nilFunc],flat:=none }:=rfl
theorem tt_231:tt 231=some { size:=1,bytes:=8,agg:=false,kind:=.int .u64,zero:=some [.int .u64 0],flat:=some [.int .u64] }:=rfl
theorem tt_240:tt 240=some { size:=1,bytes:=16,agg:=false,kind:=.other,zero:=some [.nilIface],flat:=none }:=rfl
theorem tt_247:tt 247=some { size:=1,bytes:=8,agg:=false,kind:=.int .u64,zero:=some [.int .u64 0],flat:=some [.int .u64] }:=rfl
theorem tt_248:tt 248=some { size:=1,bytes:=24,agg:=false,kind:=.slice 9 1,zero:=some [.slice none 0 0],flat:=none }:=rfl
theorem tt_253:tt 253=some { size:=1,bytes:=8,agg:=false,kind:=.other,zero:=some [.pointer none],flat:=none }:=rfl
theorem tt_254:tt 254=some { size:=1,bytes:=24,agg:=false,kind:=.slice 5 1,zero:=some [.slice none 0 0],flat:=none }:=rfl
theorem tt_256:tt 256=some { size:=2,bytes:=32,agg:=true,kind:=.struct [(0,1,false),(1,1,false)],zero:=some [.pointer none,.slice none 0 0],flat:=none }:=rfl
theorem tt_267:tt 267=some { size:=1,bytes:=8,agg:=false,kind:=.int .i64,zero:=some [.int .i64 0],flat:=some [.int .i64] }:=rfl
theorem tt_274:tt 274=some { size:=1,bytes:=4,agg:=false,kind:=.int .u32,zero:=some [.int .u32 0],flat:=some [.int .u32] }:=rfl
theorem tt_291:tt 291=some { size:=1,bytes:=8,agg:=false,kind:=.other,zero:=some [.pointer none],flat:=none }:=rfl
theorem tt_298:tt 298=some { size:=1,bytes:=8,agg:=false,kind:=.int .u64,zero:=some [.int .u64 0],flat:=some [.int .u64] }:=rfl
theorem tt_302:tt 302=some { size:=1,bytes:=8,agg:=false,kind:=.other,zero:=some [.pointer none],flat:=none }:=rfl
theorem tt_312:tt 312=some { size:=24,bytes:=24,agg:=true,kind:=.array 24 5 1,zero:=some (List.replicate 24 (.int .u8 0)),flat:=some (List.replicate 24 (.int .u8)) }:=rfl
theorem tt_316:tt 316=some { size:=1,bytes:=8,agg:=false,kind:=.other,zero:=some [.pointer none],flat:=none }:=rfl
theorem tt_327:tt 327=some { size:=3,bytes:=48,agg:=true,kind:=.struct [(0,1,false),(1,1,false),(2,1,false)],zero:=some [.string ⟨#[]⟩,.string ⟨#[]⟩,.nilIface],flat:=none }:=rfl
theorem tt_330:tt 330=some { size:=20,bytes:=160,agg:=true,kind:=.array 20 247 1,zero:=some (List.replicate 20 (.int .u64 0)),flat:=some (List.replicate 20 (.int .u64)) }:=rfl
theorem tt_331:tt 331=some { size:=65,bytes:=65,agg:=true,kind:=.array 65 5 1,zero:=some (List.replicate 65 (.int .u8 0)),flat:=some (List.replicate 65 (.int .u8)) }:=rfl
theorem tt_337:tt 337=some { size:=1,bytes:=16,agg:=true,kind:=.struct [(0,1,false)],zero:=some [.string ⟨#[]⟩],flat:=some [.string] }:=rfl
theorem tt_338:tt 338=some { size:=32,bytes:=32,agg:=true,kind:=.array 32 5 1,zero:=some (List.replicate 32 (.int .u8 0)),flat:=some (List.replicate 32 (.int .u8)) }:=rfl
theorem tt_339:tt 339=some { size:=64,bytes:=64,agg:=true,kind:=.array 64 5 1,zero:=some (List.replicate 64 (.int .u8 0)),flat:=some (List.replicate 64 (.int .u8)) }:=rfl
theorem mixed:Tryz.prog.follows .mixedOrders=true:=by kernel_rfl
def tab5 (w:World):Option (Array Value):=match (w.heap[5]?:Option Obj) with
  | some (.cells cs _ _)=>some cs
  | _=>none
def G (w:World):Prop:=tab5 w=some (Lib.pow10Tab.map fun z=>Value.int .u64 z).toArray∧8≤w.heap.size
theorem G_below (w w':World) (h:RowKit.Below w.heap.size w w') (g:G w):G w':=
  ⟨by rw [tab5,h.block 5 (Nat.lt_of_lt_of_le (by decide) g.2)];exact g.1,Nat.le_trans g.2 h.size⟩
abbrev I (z:Int):AV:=.agg [.int z]
abbrev F (q:Rat):AV:=.agg [.frac q]
abbrev B (b:Bool):AV:=.one (.v (.bool b))
abbrev N (n:Int):AV:=.one (.v (.int .i64 n))
abbrev U (n:Int):AV:=.one (.v (.int .u64 n))
abbrev S (s:ByteArray):AV:=.one (.v (.string s))
abbrev L (l:List Int):AV:=.one (.ints .u64 l)
end Go.Proofs
end
section
namespace Go.Proofs
open Go.Ax
def OutN (P:Program) (G:World→Prop) (nb0:Nat) (ops:Array Oper) (H:Oper→List Oper→St→List Sh→Prop) (out:Out) (K:St→List Sh→Prop):Prop:=OutK P G nb0 ops H out K
def CondN (x:AV) (T E:Prop):Prop:=CondK x T E
def EndN (out:Option (List Prop×AV)) (r:AV):Prop:=EndK out r
section
variable {P:Program} {G':World→Prop} {nb0:Nat} {ops:Array Oper} {H:Oper→List Oper→St→List Sh→Prop} {out out':Out} {K:St→List Sh→Prop} {x y:AV} {T E:Prop} {eo eo':Option (List Prop×AV)} {r:AV} {st:St}
theorem zoa1 (h:OutN P G' nb0 ops H out' K) (e:Is out out':=by first|(dsimp only [valsOf,ksOk,kOk,eqVs,eqV,partsL,absGo,absGg_none,absGg_some,absGn_some,absGd_b,absGd_u,absRes_val,absRes_ok,absRes_call,absRes_hand,absRes_bad,nthO,absOne,pickAV,sameK,absOp,absCall,onesOf,boxOf,List.all,evAt,AV.leaves,St.step,St.put,St.eff,stOf,slots,slotL,boxes,boxL,slotPairs,boxPairs,sizes,Leaf.size,upd,hupd,noBox,nthA,Eff.sh,constOk,subL,dropL,takeL,setL,mkAV,nilS,Box.put,Bool.not_true,Bool.not_false,Option.bind_some,Option.bind_none,Option.map_some,Option.map_none,List.getElem?_toArray,List.getElem?_cons_zero,List.getElem?_cons_succ,List.map,List.map_cons,List.map_nil,List.cons_append,List.nil_append,List.append_nil,List.all_cons,List.all_nil,List.length_cons,List.length_nil,List.flatMap_nil,resO,oneOr,Value.oneCell',lenA,idxA,binV,intBin,unV,convV,buildL,partOffs,partsOk,rowLeaves,optInt,Leaf.clB,Option.getD_some,Option.getD_none,Bool.and_true,Bool.true_and,Bool.and_self,and,Bool.not_true,Bool.not_false,Nat.reduceAdd,Nat.reduceSub,Nat.reduceMul,Nat.reduceBEq,Nat.reduceLT,reduceIte,Nat.zero_add,Nat.add_zero,Int.reduceToNat,Int.toNat_natCast,Nat.beq,Nat.ble,appOf,sliceOf,St.appG,St.app,St.appI,kill,killL,kills,killBox,frz,frzL,frzL.frzLs,frzs,frzBox,hfrz,ite00,tt_2,tt_3,tt_4,tt_5,tt_9,tt_21,tt_22,tt_24,tt_25,tt_26,tt_29,tt_51,tt_61,tt_67,tt_79,tt_80,tt_87,tt_95,tt_111,tt_114,tt_116,tt_125,tt_127,tt_129,tt_130,tt_132,tt_134,tt_140,tt_150,tt_155,tt_157,tt_159,tt_161,tt_170,tt_178,tt_182,tt_183,tt_184,tt_196,tt_208,tt_212,tt_214,tt_226,tt_228,tt_231,tt_240,tt_247,tt_248,tt_253,tt_254,tt_256,tt_267,tt_274,tt_291,tt_298,tt_302,tt_312,tt_316,tt_327,tt_330,tt_331,tt_337,tt_338,tt_339];with_reducible exact Is.refl _)|exact Is.refl _):OutK P G' nb0 ops H out K:=outK_is e h
theorem zca1 (h:CondN y T E) (e:Is x y:=by first|(dsimp only [valsOf,ksOk,kOk,eqVs,eqV,partsL,absGo,absGg_none,absGg_some,absGn_some,absGd_b,absGd_u,absRes_val,absRes_ok,absRes_call,absRes_hand,absRes_bad,nthO,absOne,pickAV,sameK,absOp,absCall,onesOf,boxOf,List.all,evAt,AV.leaves,St.step,St.put,St.eff,stOf,slots,slotL,boxes,boxL,slotPairs,boxPairs,sizes,Leaf.size,upd,hupd,noBox,nthA,Eff.sh,constOk,subL,dropL,takeL,setL,mkAV,nilS,Box.put,Bool.not_true,Bool.not_false,Option.bind_some,Option.bind_none,Option.map_some,Option.map_none,List.getElem?_toArray,List.getElem?_cons_zero,List.getElem?_cons_succ,List.map,List.map_cons,List.map_nil,List.cons_append,List.nil_append,List.append_nil,List.all_cons,List.all_nil,List.length_cons,List.length_nil,List.flatMap_nil,resO,oneOr,Value.oneCell',lenA,idxA,binV,intBin,unV,convV,buildL,partOffs,partsOk,rowLeaves,optInt,Leaf.clB,Option.getD_some,Option.getD_none,Bool.and_true,Bool.true_and,Bool.and_self,and,Bool.not_true,Bool.not_false,Nat.reduceAdd,Nat.reduceSub,Nat.reduceMul,Nat.reduceBEq,Nat.reduceLT,reduceIte,Nat.zero_add,Nat.add_zero,Int.reduceToNat,Int.toNat_natCast,Nat.beq,Nat.ble,appOf,sliceOf,St.appG,St.app,St.appI,kill,killL,kills,killBox,frz,frzL,frzL.frzLs,frzs,frzBox,hfrz,ite00,tt_2,tt_3,tt_4,tt_5,tt_9,tt_21,tt_22,tt_24,tt_25,tt_26,tt_29,tt_51,tt_61,tt_67,tt_79,tt_80,tt_87,tt_95,tt_111,tt_114,tt_116,tt_125,tt_127,tt_129,tt_130,tt_132,tt_134,tt_140,tt_150,tt_155,tt_157,tt_159,tt_161,tt_170,tt_178,tt_182,tt_183,tt_184,tt_196,tt_208,tt_212,tt_214,tt_226,tt_228,tt_231,tt_240,tt_247,tt_248,tt_253,tt_254,tt_256,tt_267,tt_274,tt_291,tt_298,tt_302,tt_312,tt_316,tt_327,tt_330,tt_331,tt_337,tt_338,tt_339];with_reducible exact Is.refl _)|exact Is.refl _):CondK x T E:=condK_is e h
theorem zea1 (h:EndN eo' r) (e:Is eo eo':=by first|(dsimp only [valsOf,ksOk,kOk,eqVs,eqV,partsL,absGo,absGg_none,absGg_some,absGn_some,absGd_b,absGd_u,absRes_val,absRes_ok,absRes_call,absRes_hand,absRes_bad,nthO,absOne,pickAV,sameK,absOp,absCall,onesOf,boxOf,List.all,evAt,AV.leaves,St.step,St.put,St.eff,stOf,slots,slotL,boxes,boxL,slotPairs,boxPairs,sizes,Leaf.size,upd,hupd,noBox,nthA,Eff.sh,constOk,subL,dropL,takeL,setL,mkAV,nilS,Box.put,Bool.not_true,Bool.not_false,Option.bind_some,Option.bind_none,Option.map_some,Option.map_none,List.getElem?_toArray,List.getElem?_cons_zero,List.getElem?_cons_succ,List.map,List.map_cons,List.map_nil,List.cons_append,List.nil_append,List.append_nil,List.all_cons,List.all_nil,List.length_cons,List.length_nil,List.flatMap_nil,resO,oneOr,Value.oneCell',lenA,idxA,binV,intBin,unV,convV,buildL,partOffs,partsOk,rowLeaves,optInt,Leaf.clB,Option.getD_some,Option.getD_none,Bool.and_true,Bool.true_and,Bool.and_self,and,Bool.not_true,Bool.not_false,Nat.reduceAdd,Nat.reduceSub,Nat.reduceMul,Nat.reduceBEq,Nat.reduceLT,reduceIte,Nat.zero_add,Nat.add_zero,Int.reduceToNat,Int.toNat_natCast,Nat.beq,Nat.ble,appOf,sliceOf,St.appG,St.app,St.appI,kill,killL,kills,killBox,frz,frzL,frzL.frzLs,frzs,frzBox,hfrz,ite00,tt_2,tt_3,tt_4,tt_5,tt_9,tt_21,tt_22,tt_24,tt_25,tt_26,tt_29,tt_51,tt_61,tt_67,tt_79,tt_80,tt_87,tt_95,tt_111,tt_114,tt_116,tt_125,tt_127,tt_129,tt_130,tt_132,tt_134,tt_140,tt_150,tt_155,tt_157,tt_159,tt_161,tt_170,tt_178,tt_182,tt_183,tt_184,tt_196,tt_208,tt_212,tt_214,tt_226,tt_228,tt_231,tt_240,tt_247,tt_248,tt_253,tt_254,tt_256,tt_267,tt_274,tt_291,tt_298,tt_302,tt_312,tt_316,tt_327,tt_330,tt_331,tt_337,tt_338,tt_339];with_reducible exact Is.refl _)|exact Is.refl _):EndK eo r:=endK_is e h
theorem zia1 {α:Type} {x y:α} (e:Is x y:=by first|(dsimp only [valsOf,ksOk,kOk,eqVs,eqV,partsL,absGo,absGg_none,absGg_some,absGn_some,absGd_b,absGd_u,absRes_val,absRes_ok,absRes_call,absRes_hand,absRes_bad,nthO,absOne,pickAV,sameK,absOp,absCall,onesOf,boxOf,List.all,evAt,AV.leaves,St.step,St.put,St.eff,stOf,slots,slotL,boxes,boxL,slotPairs,boxPairs,sizes,Leaf.size,upd,hupd,noBox,nthA,Eff.sh,constOk,subL,dropL,takeL,setL,mkAV,nilS,Box.put,Bool.not_true,Bool.not_false,Option.bind_some,Option.bind_none,Option.map_some,Option.map_none,List.getElem?_toArray,List.getElem?_cons_zero,List.getElem?_cons_succ,List.map,List.map_cons,List.map_nil,List.cons_append,List.nil_append,List.append_nil,List.all_cons,List.all_nil,List.length_cons,List.length_nil,List.flatMap_nil,resO,oneOr,Value.oneCell',lenA,idxA,binV,intBin,unV,convV,buildL,partOffs,partsOk,rowLeaves,optInt,Leaf.clB,Option.getD_some,Option.getD_none,Bool.and_true,Bool.true_and,Bool.and_self,and,Bool.not_true,Bool.not_false,Nat.reduceAdd,Nat.reduceSub,Nat.reduceMul,Nat.reduceBEq,Nat.reduceLT,reduceIte,Nat.zero_add,Nat.add_zero,Int.reduceToNat,Int.toNat_natCast,Nat.beq,Nat.ble,appOf,sliceOf,St.appG,St.app,St.appI,kill,killL,kills,killBox,frz,frzL,frzL.frzLs,frzs,frzBox,hfrz,ite00,tt_2,tt_3,tt_4,tt_5,tt_9,tt_21,tt_22,tt_24,tt_25,tt_26,tt_29,tt_51,tt_61,tt_67,tt_79,tt_80,tt_87,tt_95,tt_111,tt_114,tt_116,tt_125,tt_127,tt_129,tt_130,tt_132,tt_134,tt_140,tt_150,tt_155,tt_157,tt_159,tt_161,tt_170,tt_178,tt_182,tt_183,tt_184,tt_196,tt_208,tt_212,tt_214,tt_226,tt_228,tt_231,tt_240,tt_247,tt_248,tt_253,tt_254,tt_256,tt_267,tt_274,tt_291,tt_298,tt_302,tt_312,tt_316,tt_327,tt_330,tt_331,tt_337,tt_338,tt_339];with_reducible exact Is.refl _)|exact Is.refl _):Is x y:=e
end
section
variable {c:Ctx} {Q:Exit→St→Prop} {st:St}
theorem zrs {id:Nat} {ops:Array Oper} (S:List Nat) (hc:CtxOk c) (hS:(S.all fun i=>!Nat.beq i id)=true) (h:OutK c.P c.G c.ns ops (HandS c ops fun st'=>Q .normal st') (absGo c.tt c.ns ops ops.toList st [] []) fun st' _=>Q .normal st')
    (hnb:Nat.ble c.nb0 st.nb=true:=by kernel_rfl) (hd:seqOk c.N ops=true:=by kernel_rfl):Wp c (.region id ops false) Q st:=Wp_region_seq hc (Nat.le_of_ble_eq_true hnb) hd h
theorem zrm {id:Nat} {ops:Array Oper} (S:List Nat) (hc:CtxOk c) (hm:c.P.follows .mixedOrders=true) (hS:(S.all fun i=>!Nat.beq i id)=true) (h:OutK c.P c.G c.ns ops (fun _ _ _ _=>False) (absGo c.tt c.ns ops ops.toList st [] []) fun st' sh=>boxOk ops st.nb sh=true∧Q .normal st')
    (hnb:Nat.ble c.nb0 st.nb=true:=by kernel_rfl) (hd:drawOk c.N ops=true:=by kernel_rfl):Wp c (.region id ops true) Q st:=Wp_region hc hm (Nat.le_of_ble_eq_true hnb) hd h
theorem zwk {x:Operand} {t e:Code} (h:CondK (evAt st.t x) (Wp c t Q st) (Wp c e Q st)) (hk:constOk x=true:=by kernel_rfl):Wp c (.cond x t e) Q st:=Wp_condK hk h
theorem zbn {id id':Nat} (h:Q (.exit id') st) (hn:Nat.beq id' id=false:=by decide):Blk id Q (.exit id') st:=blk_ne hn h
end
theorem zbo {ops:Array Oper} {nb:Nat} {sh:List Sh} {q:Prop} (h:q) (hb:boxOk ops nb sh=true:=by kernel_rfl):boxOk ops nb sh=true∧q:=⟨hb,h⟩
section
variable {G':World→Prop} {nb0:Nat} {ops:Array Oper} {H:Oper→List Oper→St→List Sh→Prop} {K:St→List Sh→Prop} {ps:List Prop} {rest:List Oper} {st:St} {sh:List Sh}
theorem zoc {f:FuncId} {xs:List AV} {r:AV} {dst:Option Tmp} (hc:Pure Tryz.prog G' f xs r) (hp:AllP ps) (h:OutK Tryz.prog G' nb0 ops H (absGo tt nb0 ops rest (st.step dst { val:=r }) (sh++ [⟨[],none⟩]) []) K):OutN Tryz.prog G' nb0 ops H (.call ps f xs dst rest st sh) K:=outK_call tt_ok hc (SubL.refl _) hp h
end
section
variable {P:Program} {G':World→Prop} {nb0:Nat} {ops:Array Oper} {H:Oper→List Oper→St→List Sh→Prop} {K:St→List Sh→Prop} {ps:List Prop} {rest:List Oper} {st:St} {sh:List Sh} {tt:TypeId→Option TyI} {o:Oper} {d:Nat}
theorem zod (hp:AllP ps) (h:K st sh):OutN P G' nb0 ops H (.done ps st sh) K:=outK_done hp h
theorem zott (htt:TtOk P tt) (hp:AllP ps) (h:OutK P G' nb0 ops H (absOne tt nb0 o rest st sh [] (absGo tt nb0 ops rest)) K):OutN P G' nb0 ops H (.guard ps true true d o rest st sh) K:=outK_tt htt hp h
theorem zoff (htt:TtOk P tt) (hp:AllP ps) (h:OutK P G' nb0 ops H (absOne tt nb0 o rest st sh [] (absGo tt nb0 ops rest)) K):OutN P G' nb0 ops H (.guard ps false false d o rest st sh) K:=outK_ff htt hp h
theorem zotf (htt:TtOk P tt) (hp:AllP ps) (h:OutK P G' nb0 ops H (absGo tt nb0 ops rest (st.put o.dst (.tup [])) (sh++ [⟨[],none⟩]) []) K):OutN P G' nb0 ops H (.guard ps true false d o rest st sh) K:=outK_tf htt hp h
theorem zoft (htt:TtOk P tt) (hp:AllP ps) (h:OutK P G' nb0 ops H (absGo tt nb0 ops rest (st.put o.dst (.tup [])) (sh++ [⟨[],none⟩]) []) K):OutN P G' nb0 ops H (.guard ps false true d o rest st sh) K:=outK_ft htt hp h
theorem zoitd {p:Prop} [Decidable p] (htt:TtOk P tt) (hp:AllP ps) (hy:p→OutK P G' nb0 ops H (absOne tt nb0 o rest { st with t:=upd st.t d (.one (.v (.bool true))) } sh [] (absGo tt nb0 ops rest)) K) (hn:¬p→OutK P G' nb0 ops H (absGo tt nb0 ops rest (({ st with t:=upd st.t d (.one (.v (.bool false))) }:St).put o.dst (.tup [])) (sh++ [⟨[],none⟩]) []) K):OutN P G' nb0 ops H (.guard ps (decide p) true d o rest st sh) K:=outK_ift_dec htt hp hy hn
theorem zoite {x y:Int} (htt:TtOk P tt) (hp:AllP ps) (hy:x=y→OutK P G' nb0 ops H (absOne tt nb0 o rest { st with t:=upd st.t d (.one (.v (.bool true))) } sh [] (absGo tt nb0 ops rest)) K) (hn:¬x=y→OutK P G' nb0 ops H (absGo tt nb0 ops rest (({ st with t:=upd st.t d (.one (.v (.bool false))) }:St).put o.dst (.tup [])) (sh++ [⟨[],none⟩]) []) K):OutN P G' nb0 ops H (.guard ps (x == y) true d o rest st sh) K:=outK_ift_beq htt hp hy hn
theorem zoitn {x y:Int} (htt:TtOk P tt) (hp:AllP ps) (hy:¬x=y→OutK P G' nb0 ops H (absOne tt nb0 o rest { st with t:=upd st.t d (.one (.v (.bool true))) } sh [] (absGo tt nb0 ops rest)) K) (hn:x=y→OutK P G' nb0 ops H (absGo tt nb0 ops rest (({ st with t:=upd st.t d (.one (.v (.bool false))) }:St).put o.dst (.tup [])) (sh++ [⟨[],none⟩]) []) K):OutN P G' nb0 ops H (.guard ps (x != y) true d o rest st sh) K:=outK_ift_bne htt hp hy hn
theorem zoit {b:Bool} (htt:TtOk P tt) (hp:AllP ps) (hy:b=true→OutK P G' nb0 ops H (absOne tt nb0 o rest { st with t:=upd st.t d (.one (.v (.bool true))) } sh [] (absGo tt nb0 ops rest)) K) (hn:b=false→OutK P G' nb0 ops H (absGo tt nb0 ops rest (({ st with t:=upd st.t d (.one (.v (.bool false))) }:St).put o.dst (.tup [])) (sh++ [⟨[],none⟩]) []) K):OutN P G' nb0 ops H (.guard ps b true d o rest st sh) K:=outK_ift htt hp hy hn
theorem zoifd {p:Prop} [Decidable p] (htt:TtOk P tt) (hp:AllP ps) (hy:¬p→OutK P G' nb0 ops H (absOne tt nb0 o rest { st with t:=upd st.t d (.one (.v (.bool false))) } sh [] (absGo tt nb0 ops rest)) K) (hn:p→OutK P G' nb0 ops H (absGo tt nb0 ops rest (({ st with t:=upd st.t d (.one (.v (.bool true))) }:St).put o.dst (.tup [])) (sh++ [⟨[],none⟩]) []) K):OutN P G' nb0 ops H (.guard ps (decide p) false d o rest st sh) K:=outK_iff_dec htt hp hy hn
theorem zoife {x y:Int} (htt:TtOk P tt) (hp:AllP ps) (hy:¬x=y→OutK P G' nb0 ops H (absOne tt nb0 o rest { st with t:=upd st.t d (.one (.v (.bool false))) } sh [] (absGo tt nb0 ops rest)) K) (hn:x=y→OutK P G' nb0 ops H (absGo tt nb0 ops rest (({ st with t:=upd st.t d (.one (.v (.bool true))) }:St).put o.dst (.tup [])) (sh++ [⟨[],none⟩]) []) K):OutN P G' nb0 ops H (.guard ps (x == y) false d o rest st sh) K:=outK_iff_beq htt hp hy hn
theorem zoifn {x y:Int} (htt:TtOk P tt) (hp:AllP ps) (hy:x=y→OutK P G' nb0 ops H (absOne tt nb0 o rest { st with t:=upd st.t d (.one (.v (.bool false))) } sh [] (absGo tt nb0 ops rest)) K) (hn:¬x=y→OutK P G' nb0 ops H (absGo tt nb0 ops rest (({ st with t:=upd st.t d (.one (.v (.bool true))) }:St).put o.dst (.tup [])) (sh++ [⟨[],none⟩]) []) K):OutN P G' nb0 ops H (.guard ps (x != y) false d o rest st sh) K:=outK_iff_bne htt hp hy hn
theorem zoif {b:Bool} (htt:TtOk P tt) (hp:AllP ps) (hy:b=false→OutK P G' nb0 ops H (absOne tt nb0 o rest { st with t:=upd st.t d (.one (.v (.bool false))) } sh [] (absGo tt nb0 ops rest)) K) (hn:b=true→OutK P G' nb0 ops H (absGo tt nb0 ops rest (({ st with t:=upd st.t d (.one (.v (.bool true))) }:St).put o.dst (.tup [])) (sh++ [⟨[],none⟩]) []) K):OutN P G' nb0 ops H (.guard ps b false d o rest st sh) K:=outK_iff htt hp hy hn
end
section
variable {T E:Prop}
theorem zct (h:T):CondN (.one (.v (.bool true))) T E:=condK_t h
theorem zcf (h:E):CondN (.one (.v (.bool false))) T E:=condK_f h
theorem zcd {p:Prop} [Decidable p] (h1:p→T) (h2:¬p→E):CondN (.one (.v (.bool (decide p)))) T E:=condK_dec h1 h2
theorem zce {a b:Int} (h1:a=b→T) (h2:¬a=b→E):CondN (.one (.v (.bool (a == b)))) T E:=condK_beq h1 h2
theorem zcn {a b:Int} (h1:¬a=b→T) (h2:a=b→E):CondN (.one (.v (.bool (a != b)))) T E:=condK_bne h1 h2
theorem zci {b:Bool} (h1:b=true→T) (h2:b=false→E):CondN (.one (.v (.bool b))) T E:=condK_if h1 h2
theorem zes {ps:List Prop} {x r:AV} (hp:AllP ps) (h:Ax.Sub x r):EndN (some (ps,x)) r:=endK_some hp h
end
section
variable {c:Ctx} {st:St}
theorem zagr {ops:Array Oper} {K:St→Prop} {ps:List Prop} {o:Oper} {rest:List Oper} {sh:List Sh} (hc:CtxOk c) {b n cc:Nat} {k:IntKind} {ls:List Int} {d:Int} {x y:Operand} {T:TypeId} {bytes:Nat} {zs:List Value} {g':Nat→List Leaf} {ro:Bool}
    (ho:Is (appOf o) (some (x,y,T))) (ht:Is (sliceOf c.tt T) (some (1,bytes,zs))) (hx:Is (evAt st.t x) (.one (.gr b 1 n cc))) (hy:Is (evAt st.t y) (.one (.row 1 1 g'))) (hg:Is (g' 0) [.v (.int k d)])
    (hbox:Is (st.h b) (some ⟨1,cc,rowG k ls,ro⟩)) (hb:Is (Nat.ble c.nb0 b) true) (hp:AllP ps) (hs:AllP [ls.length=n,n≤cc,n≤1000000000000,bytes≤100])
    (h:AppK fun c'=>n+1≤c'→OutK c.P c.G c.ns ops (HandS c ops K) (absGo c.tt c.ns ops rest (st.appI o.dst b (n+1) c' k (ls++ [d])) [] []) fun st' _=>K st'):OutN c.P c.G c.ns ops (HandS c ops K) (.hand ps o rest st sh) fun st' _=>K st':=outK_app_gr hc ho ht hx hy hg hbox hb hp hs h
theorem zanil {ops:Array Oper} {K:St→Prop} {ps:List Prop} {o:Oper} {rest:List Oper} {sh:List Sh} (hc:CtxOk c) {k:IntKind} {d:Int} {x y:Operand} {T:TypeId} {bytes:Nat} {zs:List Value} {g':Nat→List Leaf}
    (ho:Is (appOf o) (some (x,y,T))) (ht:Is (sliceOf c.tt T) (some (1,bytes,zs))) (hx:Is (evAt st.t x) (.one (.v (.slice none 0 0)))) (hy:Is (evAt st.t y) (.one (.row 1 1 g'))) (hg:Is (g' 0) [.v (.int k d)])
    (hb:Is (Nat.ble c.nb0 st.nb) true) (hp:AllP ps) (hs:AllP [bytes≤100])
    (h:AppK fun c'=>1≤c'→OutK c.P c.G c.ns ops (HandS c ops K) (absGo c.tt c.ns ops rest (st.appI o.dst st.nb 1 c' k [d]) [] []) fun st' _=>K st'):OutN c.P c.G c.ns ops (HandS c ops K) (.hand ps o rest st sh) fun st' _=>K st':=outK_app_nil hc ho ht hx hy hg hb hp hs h
end
end Go.Proofs
end
