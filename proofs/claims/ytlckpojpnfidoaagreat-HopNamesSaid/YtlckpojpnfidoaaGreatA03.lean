/- Part 4 of the rules and of the walks that the proofs of this seat rest on; no condition. -/
import Derived.Test.YtlckpojpnfidoaaGreatA02
import Derived.Test.YtlckpojpnfidoaaGreatProg
import Derived.KernelRfl
import Derived.Lib.Bytealg
set_option linter.unusedVariables false
set_option linter.unusedSimpArgs false
namespace Go.Dr
open Go.Proofs
instance:TyR Tryz.prog 1 rVal:=⟨by kernel_rfl⟩
instance:Und Tryz.prog 2 (.int .i64):=⟨Tryz.underlying2⟩
instance:Zero Tryz.prog 2 (.int .i64 0):=⟨by kernel_rfl⟩
instance:Byt Tryz.prog 2 8:=⟨by kernel_rfl⟩
instance:TyR Tryz.prog 2 rI64:=⟨by kernel_rfl⟩
instance:Und Tryz.prog 3 (.int .i64):=⟨Tryz.underlying3⟩
instance:Zero Tryz.prog 3 (.int .i64 0):=⟨by kernel_rfl⟩
instance:Byt Tryz.prog 3 8:=⟨by kernel_rfl⟩
instance:TyR Tryz.prog 3 rI64:=⟨by kernel_rfl⟩
instance:Und Tryz.prog 4 (.bool):=⟨Tryz.underlying4⟩
instance:Zero Tryz.prog 4 (.bool false):=⟨by kernel_rfl⟩
instance:Byt Tryz.prog 4 1:=⟨by kernel_rfl⟩
instance:TyR Tryz.prog 4 rBool:=⟨by kernel_rfl⟩
instance:Und Tryz.prog 5 (.int .u8):=⟨Tryz.underlying5⟩
instance:Zero Tryz.prog 5 (.int .u8 0):=⟨by kernel_rfl⟩
instance:Byt Tryz.prog 5 1:=⟨by kernel_rfl⟩
instance:TyR Tryz.prog 5 (rInt .u8):=⟨by kernel_rfl⟩
instance:Und Tryz.prog 6 (.int .u8):=⟨Tryz.underlying6⟩
instance:Zero Tryz.prog 6 (.int .u8 0):=⟨by kernel_rfl⟩
instance:Byt Tryz.prog 6 1:=⟨by kernel_rfl⟩
instance:TyR Tryz.prog 6 (rInt .u8):=⟨by kernel_rfl⟩
instance:Zero Tryz.prog 7 (.agg #[.int .i64 0,.int .i64 0,.bool false,.int .u8 0]):=⟨by kernel_rfl⟩
instance:Zero Tryz.prog 8 (.agg #[.int .i64 0,.int .i64 0,.bool false,.int .u8 0]):=⟨by kernel_rfl⟩
instance:Und Tryz.prog 9 (.string):=⟨Tryz.underlying9⟩
instance:Zero Tryz.prog 9 (.string ⟨#[]⟩):=⟨by kernel_rfl⟩
instance:Byt Tryz.prog 9 16:=⟨by kernel_rfl⟩
instance:TyR Tryz.prog 9 rStr:=⟨by kernel_rfl⟩
instance:Und Tryz.prog 10 (.string):=⟨Tryz.underlying10⟩
instance:Zero Tryz.prog 10 (.string ⟨#[]⟩):=⟨by kernel_rfl⟩
instance:Byt Tryz.prog 10 16:=⟨by kernel_rfl⟩
instance:TyR Tryz.prog 10 rStr:=⟨by kernel_rfl⟩
instance:Und Tryz.prog 11 (.string):=⟨Tryz.underlying11⟩
instance:Zero Tryz.prog 11 (.string ⟨#[]⟩):=⟨by kernel_rfl⟩
instance:Byt Tryz.prog 11 16:=⟨by kernel_rfl⟩
instance:TyR Tryz.prog 11 rStr:=⟨by kernel_rfl⟩
instance:Und Tryz.prog 12 (.int .u64):=⟨Tryz.underlying12⟩
instance:Zero Tryz.prog 12 (.int .u64 0):=⟨by kernel_rfl⟩
instance:Byt Tryz.prog 12 8:=⟨by kernel_rfl⟩
instance:TyR Tryz.prog 12 (rInt .u64):=⟨by kernel_rfl⟩
instance:Zero Tryz.prog 13 (.agg #[.string ⟨#[]⟩,.int .u64 0]):=⟨by kernel_rfl⟩
instance:Zero Tryz.prog 14 (.agg #[.string ⟨#[]⟩,.int .u64 0]):=⟨by kernel_rfl⟩
instance:Und Tryz.prog 15 (.pointer 371):=⟨Tryz.underlying15⟩
instance:Zero Tryz.prog 15 (.pointer none):=⟨by kernel_rfl⟩
instance:Byt Tryz.prog 15 8:=⟨by kernel_rfl⟩
instance:TyR Tryz.prog 15 rVal:=⟨by kernel_rfl⟩
instance:Und Tryz.prog 16 (.pointer 374):=⟨Tryz.underlying16⟩
instance:Zero Tryz.prog 16 (.pointer none):=⟨by kernel_rfl⟩
instance:Byt Tryz.prog 16 8:=⟨by kernel_rfl⟩
instance:TyR Tryz.prog 16 rVal:=⟨by kernel_rfl⟩
instance:Und Tryz.prog 17 (.pointer 382):=⟨Tryz.underlying17⟩
instance:Zero Tryz.prog 17 (.pointer none):=⟨by kernel_rfl⟩
instance:Byt Tryz.prog 17 8:=⟨by kernel_rfl⟩
instance:TyR Tryz.prog 17 rVal:=⟨by kernel_rfl⟩
instance:Zero Tryz.prog 18 (.agg #[.pointer none]):=⟨by kernel_rfl⟩
instance:Zero Tryz.prog 19 (.agg #[.pointer none]):=⟨by kernel_rfl⟩
instance:TyR Tryz.prog 20 rVal:=⟨by kernel_rfl⟩
instance:Und Tryz.prog 21 (.int .i32):=⟨Tryz.underlying21⟩
instance:Zero Tryz.prog 21 (.int .i32 0):=⟨by kernel_rfl⟩
instance:Byt Tryz.prog 21 4:=⟨by kernel_rfl⟩
instance:TyR Tryz.prog 21 (rInt .i32):=⟨by kernel_rfl⟩
instance:Und Tryz.prog 22 (.slice 94):=⟨Tryz.underlying22⟩
instance:Zero Tryz.prog 22 (.slice none 0 0):=⟨by kernel_rfl⟩
instance:Byt Tryz.prog 22 24:=⟨by kernel_rfl⟩
instance:TyR Tryz.prog 22 (rSlice 112 rNode):=⟨by kernel_rfl⟩
instance:Und Tryz.prog 23 (.slice 127):=⟨Tryz.underlying23⟩
instance:Zero Tryz.prog 23 (.slice none 0 0):=⟨by kernel_rfl⟩
instance:Byt Tryz.prog 23 24:=⟨by kernel_rfl⟩
instance:TyR Tryz.prog 23 (rSlice 240 rPod):=⟨by kernel_rfl⟩
instance:Und Tryz.prog 24 (.slice 147):=⟨Tryz.underlying24⟩
instance:Zero Tryz.prog 24 (.slice none 0 0):=⟨by kernel_rfl⟩
instance:Byt Tryz.prog 24 24:=⟨by kernel_rfl⟩
instance:TyR Tryz.prog 24 (rSlice 56 rOwner):=⟨by kernel_rfl⟩
instance:FOff Tryz.prog 25 0 0:=⟨by kernel_rfl⟩
instance:FOff Tryz.prog 25 1 1:=⟨by kernel_rfl⟩
instance:FOff Tryz.prog 25 2 2:=⟨by kernel_rfl⟩
instance:Zero Tryz.prog 25 (.agg #[.slice none 0 0,.slice none 0 0,.slice none 0 0]):=⟨by kernel_rfl⟩
instance:ZF Tryz.prog 25 [.slice none 0 0,.slice none 0 0,.slice none 0 0]:=⟨by kernel_rfl,by kernel_rfl⟩
instance:Byt Tryz.prog 25 72:=⟨by kernel_rfl⟩
instance:FOff Tryz.prog 26 0 0:=⟨by kernel_rfl⟩
instance:FOff Tryz.prog 26 1 1:=⟨by kernel_rfl⟩
instance:FOff Tryz.prog 26 2 2:=⟨by kernel_rfl⟩
instance:Zero Tryz.prog 26 (.agg #[.slice none 0 0,.slice none 0 0,.slice none 0 0]):=⟨by kernel_rfl⟩
instance:ZF Tryz.prog 26 [.slice none 0 0,.slice none 0 0,.slice none 0 0]:=⟨by kernel_rfl,by kernel_rfl⟩
instance:Conc Tryz.prog 26:=⟨by kernel_rfl⟩
instance:Byt Tryz.prog 26 72:=⟨by kernel_rfl⟩
instance:TyR Tryz.prog 26 rSnap:=⟨by kernel_rfl⟩
instance:Und Tryz.prog 27 (.slice 3):=⟨Tryz.underlying27⟩
instance:Zero Tryz.prog 27 (.slice none 0 0):=⟨by kernel_rfl⟩
instance:Byt Tryz.prog 27 24:=⟨by kernel_rfl⟩
instance:TyR Tryz.prog 27 (rSlice 8 rI64):=⟨by kernel_rfl⟩
instance:TyR Tryz.prog 28 rVal:=⟨by kernel_rfl⟩
instance:TyR Tryz.prog 29 rVal:=⟨by kernel_rfl⟩
instance:TyR Tryz.prog 30 rVal:=⟨by kernel_rfl⟩
instance:Und Tryz.prog 31 (.int .i64):=⟨Tryz.underlying31⟩
instance:Zero Tryz.prog 31 (.int .i64 0):=⟨by kernel_rfl⟩
instance:Conc Tryz.prog 31:=⟨by kernel_rfl⟩
instance:Byt Tryz.prog 31 8:=⟨by kernel_rfl⟩
instance:TyR Tryz.prog 31 rI64:=⟨by kernel_rfl⟩
instance:TyR Tryz.prog 33 rVal:=⟨by kernel_rfl⟩
instance:TyR Tryz.prog 34 rVal:=⟨by kernel_rfl⟩
instance:Und Tryz.prog 35 (.slice 41):=⟨Tryz.underlying35⟩
instance:Zero Tryz.prog 35 (.slice none 0 0):=⟨by kernel_rfl⟩
instance:Byt Tryz.prog 35 24:=⟨by kernel_rfl⟩
instance:TyR Tryz.prog 35 (rSlice 32 rClause):=⟨by kernel_rfl⟩
instance:TyR Tryz.prog 37 rVal:=⟨by kernel_rfl⟩
instance:TyR Tryz.prog 38 rVal:=⟨by kernel_rfl⟩
instance:TyR Tryz.prog 39 rVal:=⟨by kernel_rfl⟩
instance:FOff Tryz.prog 40 0 0:=⟨by kernel_rfl⟩
instance:FOff Tryz.prog 40 1 1:=⟨by kernel_rfl⟩
instance:FOff Tryz.prog 40 2 2:=⟨by kernel_rfl⟩
instance:FOff Tryz.prog 40 3 3:=⟨by kernel_rfl⟩
instance:Zero Tryz.prog 40 (.agg #[.int .i64 0,.int .i64 0,.int .i64 0,.int .i64 0]):=⟨by kernel_rfl⟩
instance:ZF Tryz.prog 40 [.int .i64 0,.int .i64 0,.int .i64 0,.int .i64 0]:=⟨by kernel_rfl,by kernel_rfl⟩
instance:FlatS Tryz.prog 40 [.int,.int,.int,.int]:=⟨by kernel_rfl,by kernel_rfl,by kernel_rfl⟩
instance:Byt Tryz.prog 40 32:=⟨by kernel_rfl⟩
instance:FOff Tryz.prog 41 0 0:=⟨by kernel_rfl⟩
instance:FOff Tryz.prog 41 1 1:=⟨by kernel_rfl⟩
instance:FOff Tryz.prog 41 2 2:=⟨by kernel_rfl⟩
instance:FOff Tryz.prog 41 3 3:=⟨by kernel_rfl⟩
instance:Zero Tryz.prog 41 (.agg #[.int .i64 0,.int .i64 0,.int .i64 0,.int .i64 0]):=⟨by kernel_rfl⟩
instance:ZF Tryz.prog 41 [.int .i64 0,.int .i64 0,.int .i64 0,.int .i64 0]:=⟨by kernel_rfl,by kernel_rfl⟩
instance:FlatS Tryz.prog 41 [.int,.int,.int,.int]:=⟨by kernel_rfl,by kernel_rfl,by kernel_rfl⟩
instance:Conc Tryz.prog 41:=⟨by kernel_rfl⟩
instance:Byt Tryz.prog 41 32:=⟨by kernel_rfl⟩
instance:TyR Tryz.prog 41 rClause:=⟨by kernel_rfl⟩
instance:TyR Tryz.prog 43 rVal:=⟨by kernel_rfl⟩
instance:FOff Tryz.prog 44 0 0:=⟨by kernel_rfl⟩
instance:FOff Tryz.prog 44 1 1:=⟨by kernel_rfl⟩
instance:FOff Tryz.prog 44 2 2:=⟨by kernel_rfl⟩
instance:Zero Tryz.prog 44 (.agg #[.int .i64 0,.int .i64 0,.int .i64 0]):=⟨by kernel_rfl⟩
instance:ZF Tryz.prog 44 [.int .i64 0,.int .i64 0,.int .i64 0]:=⟨by kernel_rfl,by kernel_rfl⟩
instance:FlatS Tryz.prog 44 [.int,.int,.int]:=⟨by kernel_rfl,by kernel_rfl,by kernel_rfl⟩
instance:Byt Tryz.prog 44 24:=⟨by kernel_rfl⟩
instance:FOff Tryz.prog 45 0 0:=⟨by kernel_rfl⟩
instance:FOff Tryz.prog 45 1 1:=⟨by kernel_rfl⟩
instance:FOff Tryz.prog 45 2 2:=⟨by kernel_rfl⟩
instance:Zero Tryz.prog 45 (.agg #[.int .i64 0,.int .i64 0,.int .i64 0]):=⟨by kernel_rfl⟩
instance:ZF Tryz.prog 45 [.int .i64 0,.int .i64 0,.int .i64 0]:=⟨by kernel_rfl,by kernel_rfl⟩
instance:FlatS Tryz.prog 45 [.int,.int,.int]:=⟨by kernel_rfl,by kernel_rfl,by kernel_rfl⟩
instance:Conc Tryz.prog 45:=⟨by kernel_rfl⟩
instance:Byt Tryz.prog 45 24:=⟨by kernel_rfl⟩
instance:TyR Tryz.prog 45 rStep:=⟨by kernel_rfl⟩
instance:TyR Tryz.prog 46 rVal:=⟨by kernel_rfl⟩
instance:TyR Tryz.prog 47 rVal:=⟨by kernel_rfl⟩
instance:FOff Tryz.prog 48 0 0:=⟨by kernel_rfl⟩
instance:FOff Tryz.prog 48 1 1:=⟨by kernel_rfl⟩
instance:Zero Tryz.prog 48 (.agg #[.slice none 0 0,.bool false]):=⟨by kernel_rfl⟩
instance:ZF Tryz.prog 48 [.slice none 0 0,.bool false]:=⟨by kernel_rfl,by kernel_rfl⟩
instance:Byt Tryz.prog 48 32:=⟨by kernel_rfl⟩
instance:FOff Tryz.prog 49 0 0:=⟨by kernel_rfl⟩
instance:FOff Tryz.prog 49 1 1:=⟨by kernel_rfl⟩
instance:Zero Tryz.prog 49 (.agg #[.slice none 0 0,.bool false]):=⟨by kernel_rfl⟩
instance:ZF Tryz.prog 49 [.slice none 0 0,.bool false]:=⟨by kernel_rfl,by kernel_rfl⟩
instance:Conc Tryz.prog 49:=⟨by kernel_rfl⟩
instance:Byt Tryz.prog 49 32:=⟨by kernel_rfl⟩
instance:TyR Tryz.prog 49 rAsk:=⟨by kernel_rfl⟩
instance:Und Tryz.prog 50 (.array 2 3):=⟨Tryz.underlying50⟩
instance:Zero Tryz.prog 50 (.agg #[.int .i64 0,.int .i64 0]):=⟨by kernel_rfl⟩
instance:ZA Tryz.prog 50 2 3 1 (.int .i64 0):=⟨Tryz.underlying50,by kernel_rfl,rfl,by kernel_rfl⟩
instance:Byt Tryz.prog 50 16:=⟨by kernel_rfl⟩
instance:Und Tryz.prog 51 (.slice 9):=⟨Tryz.underlying51⟩
instance:Zero Tryz.prog 51 (.slice none 0 0):=⟨by kernel_rfl⟩
instance:Byt Tryz.prog 51 24:=⟨by kernel_rfl⟩
instance:TyR Tryz.prog 51 (rSlice 16 rStr):=⟨by kernel_rfl⟩
instance:FOff Tryz.prog 52 0 0:=⟨by kernel_rfl⟩
instance:FOff Tryz.prog 52 1 2:=⟨by kernel_rfl⟩
instance:FOff Tryz.prog 52 2 4:=⟨by kernel_rfl⟩
instance:FOff Tryz.prog 52 3 5:=⟨by kernel_rfl⟩
instance:FOff Tryz.prog 52 4 6:=⟨by kernel_rfl⟩
instance:FOff Tryz.prog 52 5 7:=⟨by kernel_rfl⟩
instance:FOff Tryz.prog 52 6 8:=⟨by kernel_rfl⟩
instance:Zero Tryz.prog 52 (.agg #[.int .i64 0,.int .i64 0,.int .i64 0,.int .i64 0,.int .i64 0,.slice none 0 0,.int .i64 0,.int .i64 0,.bool false]):=⟨by kernel_rfl⟩
instance:ZF Tryz.prog 52 [.agg #[.int .i64 0,.int .i64 0],.agg #[.int .i64 0,.int .i64 0],.int .i64 0,.slice none 0 0,.int .i64 0,.int .i64 0,.bool false]:=⟨by kernel_rfl,by kernel_rfl⟩
instance:Byt Tryz.prog 52 88:=⟨by kernel_rfl⟩
instance:FOff Tryz.prog 53 0 0:=⟨by kernel_rfl⟩
instance:FOff Tryz.prog 53 1 2:=⟨by kernel_rfl⟩
instance:FOff Tryz.prog 53 2 4:=⟨by kernel_rfl⟩
instance:FOff Tryz.prog 53 3 5:=⟨by kernel_rfl⟩
instance:FOff Tryz.prog 53 4 6:=⟨by kernel_rfl⟩
instance:FOff Tryz.prog 53 5 7:=⟨by kernel_rfl⟩
instance:FOff Tryz.prog 53 6 8:=⟨by kernel_rfl⟩
instance:Zero Tryz.prog 53 (.agg #[.int .i64 0,.int .i64 0,.int .i64 0,.int .i64 0,.int .i64 0,.slice none 0 0,.int .i64 0,.int .i64 0,.bool false]):=⟨by kernel_rfl⟩
instance:ZF Tryz.prog 53 [.agg #[.int .i64 0,.int .i64 0],.agg #[.int .i64 0,.int .i64 0],.int .i64 0,.slice none 0 0,.int .i64 0,.int .i64 0,.bool false]:=⟨by kernel_rfl,by kernel_rfl⟩
instance:Conc Tryz.prog 53:=⟨by kernel_rfl⟩
instance:Byt Tryz.prog 53 88:=⟨by kernel_rfl⟩
instance:TyR Tryz.prog 53 rPol:=⟨by kernel_rfl⟩
instance:TyR Tryz.prog 54 rVal:=⟨by kernel_rfl⟩
instance:TyR Tryz.prog 55 rVal:=⟨by kernel_rfl⟩
instance:Und Tryz.prog 56 (.slice 60):=⟨Tryz.underlying56⟩
instance:Zero Tryz.prog 56 (.slice none 0 0):=⟨by kernel_rfl⟩
instance:Byt Tryz.prog 56 24:=⟨by kernel_rfl⟩
instance:TyR Tryz.prog 56 (rSlice 24 rWrong):=⟨by kernel_rfl⟩
instance:TyR Tryz.prog 57 rVal:=⟨by kernel_rfl⟩
instance:TyR Tryz.prog 58 rVal:=⟨by kernel_rfl⟩
instance:FOff Tryz.prog 59 0 0:=⟨by kernel_rfl⟩
instance:FOff Tryz.prog 59 1 1:=⟨by kernel_rfl⟩
instance:FOff Tryz.prog 59 2 2:=⟨by kernel_rfl⟩
instance:Zero Tryz.prog 59 (.agg #[.int .i64 0,.int .i64 0,.int .i64 0]):=⟨by kernel_rfl⟩
instance:ZF Tryz.prog 59 [.int .i64 0,.int .i64 0,.int .i64 0]:=⟨by kernel_rfl,by kernel_rfl⟩
instance:FlatS Tryz.prog 59 [.int,.int,.int]:=⟨by kernel_rfl,by kernel_rfl,by kernel_rfl⟩
instance:Byt Tryz.prog 59 24:=⟨by kernel_rfl⟩
instance:FOff Tryz.prog 60 0 0:=⟨by kernel_rfl⟩
instance:FOff Tryz.prog 60 1 1:=⟨by kernel_rfl⟩
instance:FOff Tryz.prog 60 2 2:=⟨by kernel_rfl⟩
instance:Zero Tryz.prog 60 (.agg #[.int .i64 0,.int .i64 0,.int .i64 0]):=⟨by kernel_rfl⟩
instance:ZF Tryz.prog 60 [.int .i64 0,.int .i64 0,.int .i64 0]:=⟨by kernel_rfl,by kernel_rfl⟩
instance:FlatS Tryz.prog 60 [.int,.int,.int]:=⟨by kernel_rfl,by kernel_rfl,by kernel_rfl⟩
instance:Conc Tryz.prog 60:=⟨by kernel_rfl⟩
instance:Byt Tryz.prog 60 24:=⟨by kernel_rfl⟩
instance:TyR Tryz.prog 60 rWrong:=⟨by kernel_rfl⟩
instance:TyR Tryz.prog 61 rVal:=⟨by kernel_rfl⟩
instance:TyR Tryz.prog 62 rVal:=⟨by kernel_rfl⟩
instance:TyR Tryz.prog 63 rVal:=⟨by kernel_rfl⟩
instance:TyR Tryz.prog 64 rVal:=⟨by kernel_rfl⟩
instance:TyR Tryz.prog 65 rVal:=⟨by kernel_rfl⟩
instance:TyR Tryz.prog 67 rVal:=⟨by kernel_rfl⟩
instance:TyR Tryz.prog 68 rVal:=⟨by kernel_rfl⟩
instance:TyR Tryz.prog 69 rVal:=⟨by kernel_rfl⟩
instance:TyR Tryz.prog 70 rVal:=⟨by kernel_rfl⟩
instance:TyR Tryz.prog 72 rVal:=⟨by kernel_rfl⟩
instance:Und Tryz.prog 73 (.slice 4):=⟨Tryz.underlying73⟩
instance:Zero Tryz.prog 73 (.slice none 0 0):=⟨by kernel_rfl⟩
instance:Byt Tryz.prog 73 24:=⟨by kernel_rfl⟩
instance:TyR Tryz.prog 73 (rSlice 1 rBool):=⟨by kernel_rfl⟩
instance:TyR Tryz.prog 74 rVal:=⟨by kernel_rfl⟩
instance:Und Tryz.prog 75 (.array 64 4):=⟨Tryz.underlying75⟩
instance:Zero Tryz.prog 75 (.agg #[.bool false,.bool false,.bool false,.bool false,.bool false,.bool false,.bool false,.bool false,.bool false,.bool false,.bool false,.bool false,.bool false,.bool false,.bool false,.bool false,.bool false,.bool false,.bool false,.bool false,.bool false,.bool false,.bool false,.bool false,.bool false,.bool false,.bool false,.bool false,.bool false,.bool false,.bool false,.bool false,.bool false,.bool false,.bool false,.bool false,.bool false,.bool false,.bool false,.bool false,.bool false,.bool false,.bool false,.bool false,.bool false,.bool false,.bool false,.bool false,.bool false,.bool false,.bool false,.bool false,.bool false,.bool false,.bool false,.bool false,.bool false,.bool false,.bool false,.bool false,.bool false,.bool false,.bool false,.bool false]):=⟨by kernel_rfl⟩
instance:ZA Tryz.prog 75 64 4 1 (.bool false):=⟨Tryz.underlying75,by kernel_rfl,rfl,by kernel_rfl⟩
instance:Byt Tryz.prog 75 64:=⟨by kernel_rfl⟩
instance:TyR Tryz.prog 76 rVal:=⟨by kernel_rfl⟩
instance:FOff Tryz.prog 77 0 0:=⟨by kernel_rfl⟩
instance:FOff Tryz.prog 77 1 1:=⟨by kernel_rfl⟩
instance:Zero Tryz.prog 77 (.agg #[.int .i64 0,.int .i64 0]):=⟨by kernel_rfl⟩
instance:ZF Tryz.prog 77 [.int .i64 0,.int .i64 0]:=⟨by kernel_rfl,by kernel_rfl⟩
instance:FlatS Tryz.prog 77 [.int,.int]:=⟨by kernel_rfl,by kernel_rfl,by kernel_rfl⟩
instance:Byt Tryz.prog 77 16:=⟨by kernel_rfl⟩
instance:FOff Tryz.prog 78 0 0:=⟨by kernel_rfl⟩
instance:FOff Tryz.prog 78 1 1:=⟨by kernel_rfl⟩
instance:Zero Tryz.prog 78 (.agg #[.int .i64 0,.int .i64 0]):=⟨by kernel_rfl⟩
instance:ZF Tryz.prog 78 [.int .i64 0,.int .i64 0]:=⟨by kernel_rfl,by kernel_rfl⟩
instance:FlatS Tryz.prog 78 [.int,.int]:=⟨by kernel_rfl,by kernel_rfl,by kernel_rfl⟩
instance:Conc Tryz.prog 78:=⟨by kernel_rfl⟩
instance:Byt Tryz.prog 78 16:=⟨by kernel_rfl⟩
instance:TyR Tryz.prog 78 rMove:=⟨by kernel_rfl⟩
instance:Und Tryz.prog 79 (.slice 45):=⟨Tryz.underlying79⟩
instance:Zero Tryz.prog 79 (.slice none 0 0):=⟨by kernel_rfl⟩
instance:Byt Tryz.prog 79 24:=⟨by kernel_rfl⟩
instance:TyR Tryz.prog 79 (rSlice 24 rStep):=⟨by kernel_rfl⟩
instance:TyR Tryz.prog 81 rVal:=⟨by kernel_rfl⟩
instance:TyR Tryz.prog 82 rVal:=⟨by kernel_rfl⟩
instance:TyR Tryz.prog 83 rVal:=⟨by kernel_rfl⟩
instance:Und Tryz.prog 84 (.slice 78):=⟨Tryz.underlying84⟩
instance:Zero Tryz.prog 84 (.slice none 0 0):=⟨by kernel_rfl⟩
instance:Byt Tryz.prog 84 24:=⟨by kernel_rfl⟩
instance:TyR Tryz.prog 84 (rSlice 16 rMove):=⟨by kernel_rfl⟩
instance:TyR Tryz.prog 85 rVal:=⟨by kernel_rfl⟩
instance:TyR Tryz.prog 87 rVal:=⟨by kernel_rfl⟩
instance:TyR Tryz.prog 88 rVal:=⟨by kernel_rfl⟩
instance:TyR Tryz.prog 89 rVal:=⟨by kernel_rfl⟩
instance:Und Tryz.prog 90 (.array 5 3):=⟨Tryz.underlying90⟩
instance:Zero Tryz.prog 90 (.agg #[.int .i64 0,.int .i64 0,.int .i64 0,.int .i64 0,.int .i64 0]):=⟨by kernel_rfl⟩
instance:ZA Tryz.prog 90 5 3 1 (.int .i64 0):=⟨Tryz.underlying90,by kernel_rfl,rfl,by kernel_rfl⟩
instance:Byt Tryz.prog 90 40:=⟨by kernel_rfl⟩
instance:Und Tryz.prog 91 (.array 5 3):=⟨Tryz.underlying91⟩
instance:Zero Tryz.prog 91 (.agg #[.int .i64 0,.int .i64 0,.int .i64 0,.int .i64 0,.int .i64 0]):=⟨by kernel_rfl⟩
instance:ZA Tryz.prog 91 5 3 1 (.int .i64 0):=⟨Tryz.underlying91,by kernel_rfl,rfl,by kernel_rfl⟩
instance:Conc Tryz.prog 91:=⟨by kernel_rfl⟩
instance:Byt Tryz.prog 91 40:=⟨by kernel_rfl⟩
instance:TyR Tryz.prog 91 (rArr 5):=⟨by kernel_rfl⟩
instance:Und Tryz.prog 92 (.slice 213):=⟨Tryz.underlying92⟩
instance:Zero Tryz.prog 92 (.slice none 0 0):=⟨by kernel_rfl⟩
instance:Byt Tryz.prog 92 24:=⟨by kernel_rfl⟩
instance:TyR Tryz.prog 92 (rSlice 32 rLabel):=⟨by kernel_rfl⟩
instance:FOff Tryz.prog 93 0 0:=⟨by kernel_rfl⟩
instance:FOff Tryz.prog 93 1 1:=⟨by kernel_rfl⟩
instance:FOff Tryz.prog 93 2 6:=⟨by kernel_rfl⟩
instance:FOff Tryz.prog 93 3 7:=⟨by kernel_rfl⟩
instance:FOff Tryz.prog 93 4 8:=⟨by kernel_rfl⟩
instance:FOff Tryz.prog 93 5 9:=⟨by kernel_rfl⟩
instance:Zero Tryz.prog 93 (.agg #[.string ⟨#[]⟩,.int .i64 0,.int .i64 0,.int .i64 0,.int .i64 0,.int .i64 0,.slice none 0 0,.slice none 0 0,.bool false,.bool false]):=⟨by kernel_rfl⟩
instance:ZF Tryz.prog 93 [.string ⟨#[]⟩,.agg #[.int .i64 0,.int .i64 0,.int .i64 0,.int .i64 0,.int .i64 0],.slice none 0 0,.slice none 0 0,.bool false,.bool false]:=⟨by kernel_rfl,by kernel_rfl⟩
instance:Byt Tryz.prog 93 112:=⟨by kernel_rfl⟩
instance:FOff Tryz.prog 94 0 0:=⟨by kernel_rfl⟩
instance:FOff Tryz.prog 94 1 1:=⟨by kernel_rfl⟩
instance:FOff Tryz.prog 94 2 6:=⟨by kernel_rfl⟩
instance:FOff Tryz.prog 94 3 7:=⟨by kernel_rfl⟩
instance:FOff Tryz.prog 94 4 8:=⟨by kernel_rfl⟩
instance:FOff Tryz.prog 94 5 9:=⟨by kernel_rfl⟩
instance:Zero Tryz.prog 94 (.agg #[.string ⟨#[]⟩,.int .i64 0,.int .i64 0,.int .i64 0,.int .i64 0,.int .i64 0,.slice none 0 0,.slice none 0 0,.bool false,.bool false]):=⟨by kernel_rfl⟩
instance:ZF Tryz.prog 94 [.string ⟨#[]⟩,.agg #[.int .i64 0,.int .i64 0,.int .i64 0,.int .i64 0,.int .i64 0],.slice none 0 0,.slice none 0 0,.bool false,.bool false]:=⟨by kernel_rfl,by kernel_rfl⟩
instance:Conc Tryz.prog 94:=⟨by kernel_rfl⟩
instance:Byt Tryz.prog 94 112:=⟨by kernel_rfl⟩
instance:TyR Tryz.prog 94 rNode:=⟨by kernel_rfl⟩
instance:TyR Tryz.prog 96 rVal:=⟨by kernel_rfl⟩
instance:TyR Tryz.prog 98 rVal:=⟨by kernel_rfl⟩
instance:TyR Tryz.prog 99 rVal:=⟨by kernel_rfl⟩
instance:TyR Tryz.prog 100 rVal:=⟨by kernel_rfl⟩
instance:TyR Tryz.prog 101 rVal:=⟨by kernel_rfl⟩
instance:TyR Tryz.prog 102 rVal:=⟨by kernel_rfl⟩
instance:TyR Tryz.prog 103 rVal:=⟨by kernel_rfl⟩
instance:TyR Tryz.prog 104 rVal:=⟨by kernel_rfl⟩
instance:Und Tryz.prog 105 (.map 110 3):=⟨Tryz.underlying105⟩
instance:Zero Tryz.prog 105 (.map none):=⟨by kernel_rfl⟩
instance:Byt Tryz.prog 105 8:=⟨by kernel_rfl⟩
instance:TyR Tryz.prog 105 rVal:=⟨by kernel_rfl⟩
instance:Und Tryz.prog 106 (.map 110 3):=⟨Tryz.underlying106⟩
instance:Zero Tryz.prog 106 (.map none):=⟨by kernel_rfl⟩
instance:Conc Tryz.prog 106:=⟨by kernel_rfl⟩
instance:Byt Tryz.prog 106 8:=⟨by kernel_rfl⟩
instance:TyR Tryz.prog 106 rVal:=⟨by kernel_rfl⟩
instance:TyR Tryz.prog 108 rVal:=⟨by kernel_rfl⟩
instance:FOff Tryz.prog 109 0 0:=⟨by kernel_rfl⟩
instance:FOff Tryz.prog 109 1 1:=⟨by kernel_rfl⟩
instance:FOff Tryz.prog 109 2 2:=⟨by kernel_rfl⟩
instance:Zero Tryz.prog 109 (.agg #[.int .i64 0,.int .i64 0,.int .i64 0]):=⟨by kernel_rfl⟩
instance:ZF Tryz.prog 109 [.int .i64 0,.int .i64 0,.int .i64 0]:=⟨by kernel_rfl,by kernel_rfl⟩
instance:FlatS Tryz.prog 109 [.int,.int,.int]:=⟨by kernel_rfl,by kernel_rfl,by kernel_rfl⟩
instance:Byt Tryz.prog 109 24:=⟨by kernel_rfl⟩
instance:FOff Tryz.prog 110 0 0:=⟨by kernel_rfl⟩
instance:FOff Tryz.prog 110 1 1:=⟨by kernel_rfl⟩
instance:FOff Tryz.prog 110 2 2:=⟨by kernel_rfl⟩
instance:Zero Tryz.prog 110 (.agg #[.int .i64 0,.int .i64 0,.int .i64 0]):=⟨by kernel_rfl⟩
instance:ZF Tryz.prog 110 [.int .i64 0,.int .i64 0,.int .i64 0]:=⟨by kernel_rfl,by kernel_rfl⟩
instance:FlatS Tryz.prog 110 [.int,.int,.int]:=⟨by kernel_rfl,by kernel_rfl,by kernel_rfl⟩
instance:Conc Tryz.prog 110:=⟨by kernel_rfl⟩
instance:Byt Tryz.prog 110 24:=⟨by kernel_rfl⟩
instance:TyR Tryz.prog 111 rVal:=⟨by kernel_rfl⟩
instance:TyR Tryz.prog 112 rVal:=⟨by kernel_rfl⟩
instance:FOff Tryz.prog 113 0 0:=⟨by kernel_rfl⟩
instance:FOff Tryz.prog 113 1 3:=⟨by kernel_rfl⟩
instance:Zero Tryz.prog 113 (.agg #[.slice none 0 0,.slice none 0 0,.slice none 0 0,.int .i64 0,.int .i64 0,.int .i64 0,.int .i64 0,.int .i64 0]):=⟨by kernel_rfl⟩
instance:ZF Tryz.prog 113 [.agg #[.slice none 0 0,.slice none 0 0,.slice none 0 0],.agg #[.int .i64 0,.int .i64 0,.int .i64 0,.int .i64 0,.int .i64 0]]:=⟨by kernel_rfl,by kernel_rfl⟩
instance:Byt Tryz.prog 113 112:=⟨by kernel_rfl⟩
instance:FOff Tryz.prog 114 0 0:=⟨by kernel_rfl⟩
instance:FOff Tryz.prog 114 1 3:=⟨by kernel_rfl⟩
instance:Zero Tryz.prog 114 (.agg #[.slice none 0 0,.slice none 0 0,.slice none 0 0,.int .i64 0,.int .i64 0,.int .i64 0,.int .i64 0,.int .i64 0]):=⟨by kernel_rfl⟩
instance:ZF Tryz.prog 114 [.agg #[.slice none 0 0,.slice none 0 0,.slice none 0 0],.agg #[.int .i64 0,.int .i64 0,.int .i64 0,.int .i64 0,.int .i64 0]]:=⟨by kernel_rfl,by kernel_rfl⟩
instance:Conc Tryz.prog 114:=⟨by kernel_rfl⟩
instance:Byt Tryz.prog 114 112:=⟨by kernel_rfl⟩
instance:TyR Tryz.prog 115 rVal:=⟨by kernel_rfl⟩
instance:TyR Tryz.prog 116 rVal:=⟨by kernel_rfl⟩
instance:TyR Tryz.prog 117 rVal:=⟨by kernel_rfl⟩
instance:TyR Tryz.prog 118 rVal:=⟨by kernel_rfl⟩
instance:Byt Tryz.prog 119 16:=⟨by kernel_rfl⟩
instance:TyR Tryz.prog 119 rVal:=⟨by kernel_rfl⟩
instance:TyR Tryz.prog 121 rVal:=⟨by kernel_rfl⟩
instance:Und Tryz.prog 123 (.slice 215):=⟨Tryz.underlying123⟩
instance:Zero Tryz.prog 123 (.slice none 0 0):=⟨by kernel_rfl⟩
instance:Byt Tryz.prog 123 24:=⟨by kernel_rfl⟩
instance:TyR Tryz.prog 123 (rSlice 40 rTerm):=⟨by kernel_rfl⟩
instance:FOff Tryz.prog 124 0 0:=⟨by kernel_rfl⟩
instance:FOff Tryz.prog 124 1 1:=⟨by kernel_rfl⟩
instance:Zero Tryz.prog 124 (.agg #[.string ⟨#[]⟩,.slice none 0 0]):=⟨by kernel_rfl⟩
instance:ZF Tryz.prog 124 [.string ⟨#[]⟩,.slice none 0 0]:=⟨by kernel_rfl,by kernel_rfl⟩
instance:Byt Tryz.prog 124 40:=⟨by kernel_rfl⟩
instance:FOff Tryz.prog 125 0 0:=⟨by kernel_rfl⟩
instance:FOff Tryz.prog 125 1 1:=⟨by kernel_rfl⟩
instance:Zero Tryz.prog 125 (.agg #[.string ⟨#[]⟩,.slice none 0 0]):=⟨by kernel_rfl⟩
instance:ZF Tryz.prog 125 [.string ⟨#[]⟩,.slice none 0 0]:=⟨by kernel_rfl,by kernel_rfl⟩
instance:Conc Tryz.prog 125:=⟨by kernel_rfl⟩
instance:Byt Tryz.prog 125 40:=⟨by kernel_rfl⟩
instance:TyR Tryz.prog 125 rNear:=⟨by kernel_rfl⟩
instance:FOff Tryz.prog 126 0 0:=⟨by kernel_rfl⟩
instance:FOff Tryz.prog 126 1 1:=⟨by kernel_rfl⟩
instance:FOff Tryz.prog 126 2 2:=⟨by kernel_rfl⟩
instance:FOff Tryz.prog 126 3 7:=⟨by kernel_rfl⟩
instance:FOff Tryz.prog 126 4 8:=⟨by kernel_rfl⟩
instance:FOff Tryz.prog 126 5 9:=⟨by kernel_rfl⟩
instance:FOff Tryz.prog 126 6 10:=⟨by kernel_rfl⟩
instance:FOff Tryz.prog 126 7 12:=⟨by kernel_rfl⟩
instance:FOff Tryz.prog 126 8 14:=⟨by kernel_rfl⟩
instance:Zero Tryz.prog 126 (.agg #[.string ⟨#[]⟩,.string ⟨#[]⟩,.int .i64 0,.int .i64 0,.int .i64 0,.int .i64 0,.int .i64 0,.slice none 0 0,.slice none 0 0,.slice none 0 0,.string ⟨#[]⟩,.slice none 0 0,.string ⟨#[]⟩,.slice none 0 0,.string ⟨#[]⟩]):=⟨by kernel_rfl⟩
instance:ZF Tryz.prog 126 [.string ⟨#[]⟩,.string ⟨#[]⟩,.agg #[.int .i64 0,.int .i64 0,.int .i64 0,.int .i64 0,.int .i64 0],.slice none 0 0,.slice none 0 0,.slice none 0 0,.agg #[.string ⟨#[]⟩,.slice none 0 0],.agg #[.string ⟨#[]⟩,.slice none 0 0],.string ⟨#[]⟩]:=⟨by kernel_rfl,by kernel_rfl⟩
instance:Byt Tryz.prog 126 240:=⟨by kernel_rfl⟩
instance:FOff Tryz.prog 127 0 0:=⟨by kernel_rfl⟩
instance:FOff Tryz.prog 127 1 1:=⟨by kernel_rfl⟩
instance:FOff Tryz.prog 127 2 2:=⟨by kernel_rfl⟩
instance:FOff Tryz.prog 127 3 7:=⟨by kernel_rfl⟩
instance:FOff Tryz.prog 127 4 8:=⟨by kernel_rfl⟩
instance:FOff Tryz.prog 127 5 9:=⟨by kernel_rfl⟩
instance:FOff Tryz.prog 127 6 10:=⟨by kernel_rfl⟩
instance:FOff Tryz.prog 127 7 12:=⟨by kernel_rfl⟩
instance:FOff Tryz.prog 127 8 14:=⟨by kernel_rfl⟩
instance:Zero Tryz.prog 127 (.agg #[.string ⟨#[]⟩,.string ⟨#[]⟩,.int .i64 0,.int .i64 0,.int .i64 0,.int .i64 0,.int .i64 0,.slice none 0 0,.slice none 0 0,.slice none 0 0,.string ⟨#[]⟩,.slice none 0 0,.string ⟨#[]⟩,.slice none 0 0,.string ⟨#[]⟩]):=⟨by kernel_rfl⟩
instance:ZF Tryz.prog 127 [.string ⟨#[]⟩,.string ⟨#[]⟩,.agg #[.int .i64 0,.int .i64 0,.int .i64 0,.int .i64 0,.int .i64 0],.slice none 0 0,.slice none 0 0,.slice none 0 0,.agg #[.string ⟨#[]⟩,.slice none 0 0],.agg #[.string ⟨#[]⟩,.slice none 0 0],.string ⟨#[]⟩]:=⟨by kernel_rfl,by kernel_rfl⟩
instance:Conc Tryz.prog 127:=⟨by kernel_rfl⟩
instance:Byt Tryz.prog 127 240:=⟨by kernel_rfl⟩
instance:TyR Tryz.prog 127 rPod:=⟨by kernel_rfl⟩
instance:TyR Tryz.prog 128 rVal:=⟨by kernel_rfl⟩
instance:TyR Tryz.prog 129 rVal:=⟨by kernel_rfl⟩
instance:TyR Tryz.prog 130 rVal:=⟨by kernel_rfl⟩
instance:Und Tryz.prog 131 (.pointer 200):=⟨Tryz.underlying131⟩
instance:Zero Tryz.prog 131 (.pointer none):=⟨by kernel_rfl⟩
instance:Byt Tryz.prog 131 8:=⟨by kernel_rfl⟩
instance:TyR Tryz.prog 131 rVal:=⟨by kernel_rfl⟩
instance:TyR Tryz.prog 133 rVal:=⟨by kernel_rfl⟩
instance:TyR Tryz.prog 134 rVal:=⟨by kernel_rfl⟩
instance:TyR Tryz.prog 135 rVal:=⟨by kernel_rfl⟩
instance:TyR Tryz.prog 136 rVal:=⟨by kernel_rfl⟩
instance:TyR Tryz.prog 137 rVal:=⟨by kernel_rfl⟩
instance:Und Tryz.prog 138 (.array 5 4):=⟨Tryz.underlying138⟩
instance:Zero Tryz.prog 138 (.agg #[.bool false,.bool false,.bool false,.bool false,.bool false]):=⟨by kernel_rfl⟩
instance:ZA Tryz.prog 138 5 4 1 (.bool false):=⟨Tryz.underlying138,by kernel_rfl,rfl,by kernel_rfl⟩
instance:Byt Tryz.prog 138 5:=⟨by kernel_rfl⟩
instance:TyR Tryz.prog 139 rVal:=⟨by kernel_rfl⟩
instance:TyR Tryz.prog 140 rVal:=⟨by kernel_rfl⟩
instance:TyR Tryz.prog 141 rVal:=⟨by kernel_rfl⟩
instance:TyR Tryz.prog 142 rVal:=⟨by kernel_rfl⟩
instance:TyR Tryz.prog 143 rVal:=⟨by kernel_rfl⟩
instance:TyR Tryz.prog 144 rVal:=⟨by kernel_rfl⟩
instance:TyR Tryz.prog 145 rVal:=⟨by kernel_rfl⟩
instance:FOff Tryz.prog 146 0 0:=⟨by kernel_rfl⟩
instance:FOff Tryz.prog 146 1 1:=⟨by kernel_rfl⟩
instance:FOff Tryz.prog 146 2 2:=⟨by kernel_rfl⟩
instance:FOff Tryz.prog 146 3 3:=⟨by kernel_rfl⟩
instance:FOff Tryz.prog 146 4 4:=⟨by kernel_rfl⟩
instance:Zero Tryz.prog 146 (.agg #[.string ⟨#[]⟩,.int .i64 0,.string ⟨#[]⟩,.int .i64 0,.bool false]):=⟨by kernel_rfl⟩
instance:ZF Tryz.prog 146 [.string ⟨#[]⟩,.int .i64 0,.string ⟨#[]⟩,.int .i64 0,.bool false]:=⟨by kernel_rfl,by kernel_rfl⟩
instance:FlatS Tryz.prog 146 [.str,.int,.str,.int,.bool]:=⟨by kernel_rfl,by kernel_rfl,by kernel_rfl⟩
instance:Byt Tryz.prog 146 56:=⟨by kernel_rfl⟩
instance:FOff Tryz.prog 147 0 0:=⟨by kernel_rfl⟩
instance:FOff Tryz.prog 147 1 1:=⟨by kernel_rfl⟩
instance:FOff Tryz.prog 147 2 2:=⟨by kernel_rfl⟩
instance:FOff Tryz.prog 147 3 3:=⟨by kernel_rfl⟩
instance:FOff Tryz.prog 147 4 4:=⟨by kernel_rfl⟩
instance:Zero Tryz.prog 147 (.agg #[.string ⟨#[]⟩,.int .i64 0,.string ⟨#[]⟩,.int .i64 0,.bool false]):=⟨by kernel_rfl⟩
instance:ZF Tryz.prog 147 [.string ⟨#[]⟩,.int .i64 0,.string ⟨#[]⟩,.int .i64 0,.bool false]:=⟨by kernel_rfl,by kernel_rfl⟩
instance:FlatS Tryz.prog 147 [.str,.int,.str,.int,.bool]:=⟨by kernel_rfl,by kernel_rfl,by kernel_rfl⟩
instance:Conc Tryz.prog 147:=⟨by kernel_rfl⟩
instance:Byt Tryz.prog 147 56:=⟨by kernel_rfl⟩
instance:TyR Tryz.prog 147 rOwner:=⟨by kernel_rfl⟩
instance:TyR Tryz.prog 148 rVal:=⟨by kernel_rfl⟩
instance:TyR Tryz.prog 149 rVal:=⟨by kernel_rfl⟩
instance:TyR Tryz.prog 150 rVal:=⟨by kernel_rfl⟩
instance:TyR Tryz.prog 151 rVal:=⟨by kernel_rfl⟩
instance:TyR Tryz.prog 152 rVal:=⟨by kernel_rfl⟩
instance:TyR Tryz.prog 153 rVal:=⟨by kernel_rfl⟩
instance:TyR Tryz.prog 154 rVal:=⟨by kernel_rfl⟩
instance:TyR Tryz.prog 155 rVal:=⟨by kernel_rfl⟩
instance:TyR Tryz.prog 156 rVal:=⟨by kernel_rfl⟩
instance:Und Tryz.prog 157 (.int .u64):=⟨Tryz.underlying157⟩
instance:Zero Tryz.prog 157 (.int .u64 0):=⟨by kernel_rfl⟩
instance:Byt Tryz.prog 157 8:=⟨by kernel_rfl⟩
instance:TyR Tryz.prog 157 (rInt .u64):=⟨by kernel_rfl⟩
instance:TyR Tryz.prog 159 rVal:=⟨by kernel_rfl⟩
instance:TyR Tryz.prog 160 rVal:=⟨by kernel_rfl⟩
instance:TyR Tryz.prog 161 rVal:=⟨by kernel_rfl⟩
instance:TyR Tryz.prog 162 rVal:=⟨by kernel_rfl⟩
instance:Und Tryz.prog 163 (.pointer 167):=⟨Tryz.underlying163⟩
instance:Zero Tryz.prog 163 (.pointer none):=⟨by kernel_rfl⟩
instance:Byt Tryz.prog 163 8:=⟨by kernel_rfl⟩
instance:TyR Tryz.prog 163 rVal:=⟨by kernel_rfl⟩
instance:TyR Tryz.prog 164 rVal:=⟨by kernel_rfl⟩
instance:Und Tryz.prog 165 (.map 3 3):=⟨Tryz.underlying165⟩
instance:Zero Tryz.prog 165 (.map none):=⟨by kernel_rfl⟩
instance:Byt Tryz.prog 165 8:=⟨by kernel_rfl⟩
instance:TyR Tryz.prog 165 rVal:=⟨by kernel_rfl⟩
instance:FOff Tryz.prog 166 0 0:=⟨by kernel_rfl⟩
instance:FOff Tryz.prog 166 1 3:=⟨by kernel_rfl⟩
instance:FOff Tryz.prog 166 2 4:=⟨by kernel_rfl⟩
instance:FOff Tryz.prog 166 3 5:=⟨by kernel_rfl⟩
instance:FOff Tryz.prog 166 4 6:=⟨by kernel_rfl⟩
instance:Zero Tryz.prog 166 (.agg #[.slice none 0 0,.slice none 0 0,.slice none 0 0,.slice none 0 0,.slice none 0 0,.slice none 0 0,.map none]):=⟨by kernel_rfl⟩
instance:ZF Tryz.prog 166 [.agg #[.slice none 0 0,.slice none 0 0,.slice none 0 0],.slice none 0 0,.slice none 0 0,.slice none 0 0,.map none]:=⟨by kernel_rfl,by kernel_rfl⟩
instance:Byt Tryz.prog 166 152:=⟨by kernel_rfl⟩
instance:FOff Tryz.prog 167 0 0:=⟨by kernel_rfl⟩
instance:FOff Tryz.prog 167 1 3:=⟨by kernel_rfl⟩
instance:FOff Tryz.prog 167 2 4:=⟨by kernel_rfl⟩
instance:FOff Tryz.prog 167 3 5:=⟨by kernel_rfl⟩
instance:FOff Tryz.prog 167 4 6:=⟨by kernel_rfl⟩
instance:Zero Tryz.prog 167 (.agg #[.slice none 0 0,.slice none 0 0,.slice none 0 0,.slice none 0 0,.slice none 0 0,.slice none 0 0,.map none]):=⟨by kernel_rfl⟩
instance:ZF Tryz.prog 167 [.agg #[.slice none 0 0,.slice none 0 0,.slice none 0 0],.slice none 0 0,.slice none 0 0,.slice none 0 0,.map none]:=⟨by kernel_rfl,by kernel_rfl⟩
instance:Conc Tryz.prog 167:=⟨by kernel_rfl⟩
instance:Byt Tryz.prog 167 152:=⟨by kernel_rfl⟩
instance:TyR Tryz.prog 168 rVal:=⟨by kernel_rfl⟩
instance:TyR Tryz.prog 169 rVal:=⟨by kernel_rfl⟩
instance:TyR Tryz.prog 170 rVal:=⟨by kernel_rfl⟩
instance:TyR Tryz.prog 171 rVal:=⟨by kernel_rfl⟩
instance:FOff Tryz.prog 172 0 0:=⟨by kernel_rfl⟩
instance:FOff Tryz.prog 172 1 3:=⟨by kernel_rfl⟩
instance:FOff Tryz.prog 172 2 4:=⟨by kernel_rfl⟩
instance:Zero Tryz.prog 172 (.agg #[.slice none 0 0,.slice none 0 0,.slice none 0 0,.slice none 0 0,.int .i64 0]):=⟨by kernel_rfl⟩
instance:ZF Tryz.prog 172 [.agg #[.slice none 0 0,.slice none 0 0,.slice none 0 0],.slice none 0 0,.int .i64 0]:=⟨by kernel_rfl,by kernel_rfl⟩
instance:Byt Tryz.prog 172 104:=⟨by kernel_rfl⟩
instance:FOff Tryz.prog 173 0 0:=⟨by kernel_rfl⟩
instance:FOff Tryz.prog 173 1 3:=⟨by kernel_rfl⟩
instance:FOff Tryz.prog 173 2 4:=⟨by kernel_rfl⟩
instance:Zero Tryz.prog 173 (.agg #[.slice none 0 0,.slice none 0 0,.slice none 0 0,.slice none 0 0,.int .i64 0]):=⟨by kernel_rfl⟩
instance:ZF Tryz.prog 173 [.agg #[.slice none 0 0,.slice none 0 0,.slice none 0 0],.slice none 0 0,.int .i64 0]:=⟨by kernel_rfl,by kernel_rfl⟩
instance:Conc Tryz.prog 173:=⟨by kernel_rfl⟩
instance:Byt Tryz.prog 173 104:=⟨by kernel_rfl⟩
instance:TyR Tryz.prog 174 rVal:=⟨by kernel_rfl⟩
instance:TyR Tryz.prog 175 rVal:=⟨by kernel_rfl⟩
instance:TyR Tryz.prog 176 rVal:=⟨by kernel_rfl⟩
instance:TyR Tryz.prog 177 rVal:=⟨by kernel_rfl⟩
instance:TyR Tryz.prog 178 rVal:=⟨by kernel_rfl⟩
instance:TyR Tryz.prog 179 rVal:=⟨by kernel_rfl⟩
instance:TyR Tryz.prog 180 rVal:=⟨by kernel_rfl⟩
instance:TyR Tryz.prog 181 rVal:=⟨by kernel_rfl⟩
instance:TyR Tryz.prog 182 rVal:=⟨by kernel_rfl⟩
instance:TyR Tryz.prog 183 rVal:=⟨by kernel_rfl⟩
instance:TyR Tryz.prog 184 rVal:=⟨by kernel_rfl⟩
instance:TyR Tryz.prog 185 rVal:=⟨by kernel_rfl⟩
instance:TyR Tryz.prog 187 rVal:=⟨by kernel_rfl⟩
instance:Und Tryz.prog 188 (.slice 91):=⟨Tryz.underlying188⟩
instance:Zero Tryz.prog 188 (.slice none 0 0):=⟨by kernel_rfl⟩
instance:Byt Tryz.prog 188 24:=⟨by kernel_rfl⟩
instance:TyR Tryz.prog 188 (rSlice 40 (rArr 5)):=⟨by kernel_rfl⟩
instance:TyR Tryz.prog 189 rVal:=⟨by kernel_rfl⟩
instance:TyR Tryz.prog 190 rVal:=⟨by kernel_rfl⟩
instance:TyR Tryz.prog 191 rVal:=⟨by kernel_rfl⟩
instance:TyR Tryz.prog 192 rVal:=⟨by kernel_rfl⟩
instance:TyR Tryz.prog 193 rVal:=⟨by kernel_rfl⟩
instance:TyR Tryz.prog 194 rVal:=⟨by kernel_rfl⟩
instance:TyR Tryz.prog 195 rVal:=⟨by kernel_rfl⟩
instance:TyR Tryz.prog 196 rVal:=⟨by kernel_rfl⟩
instance:TyR Tryz.prog 198 rVal:=⟨by kernel_rfl⟩
instance:FOff Tryz.prog 199 0 0:=⟨by kernel_rfl⟩
instance:FOff Tryz.prog 199 1 3:=⟨by kernel_rfl⟩
instance:FOff Tryz.prog 199 2 4:=⟨by kernel_rfl⟩
instance:FOff Tryz.prog 199 3 13:=⟨by kernel_rfl⟩
instance:FOff Tryz.prog 199 4 14:=⟨by kernel_rfl⟩
instance:Zero Tryz.prog 199 (.agg #[.slice none 0 0,.slice none 0 0,.slice none 0 0,.slice none 0 0,.int .i64 0,.int .i64 0,.int .i64 0,.int .i64 0,.int .i64 0,.slice none 0 0,.int .i64 0,.int .i64 0,.bool false,.slice none 0 0,.slice none 0 0]):=⟨by kernel_rfl⟩
instance:ZF Tryz.prog 199 [.agg #[.slice none 0 0,.slice none 0 0,.slice none 0 0],.slice none 0 0,.agg #[.int .i64 0,.int .i64 0,.int .i64 0,.int .i64 0,.int .i64 0,.slice none 0 0,.int .i64 0,.int .i64 0,.bool false],.slice none 0 0,.slice none 0 0]:=⟨by kernel_rfl,by kernel_rfl⟩
instance:Byt Tryz.prog 199 232:=⟨by kernel_rfl⟩
instance:FOff Tryz.prog 200 0 0:=⟨by kernel_rfl⟩
instance:FOff Tryz.prog 200 1 3:=⟨by kernel_rfl⟩
instance:FOff Tryz.prog 200 2 4:=⟨by kernel_rfl⟩
instance:FOff Tryz.prog 200 3 13:=⟨by kernel_rfl⟩
instance:FOff Tryz.prog 200 4 14:=⟨by kernel_rfl⟩
instance:Zero Tryz.prog 200 (.agg #[.slice none 0 0,.slice none 0 0,.slice none 0 0,.slice none 0 0,.int .i64 0,.int .i64 0,.int .i64 0,.int .i64 0,.int .i64 0,.slice none 0 0,.int .i64 0,.int .i64 0,.bool false,.slice none 0 0,.slice none 0 0]):=⟨by kernel_rfl⟩
instance:ZF Tryz.prog 200 [.agg #[.slice none 0 0,.slice none 0 0,.slice none 0 0],.slice none 0 0,.agg #[.int .i64 0,.int .i64 0,.int .i64 0,.int .i64 0,.int .i64 0,.slice none 0 0,.int .i64 0,.int .i64 0,.bool false],.slice none 0 0,.slice none 0 0]:=⟨by kernel_rfl,by kernel_rfl⟩
instance:Conc Tryz.prog 200:=⟨by kernel_rfl⟩
instance:Byt Tryz.prog 200 232:=⟨by kernel_rfl⟩
instance:Und Tryz.prog 201 (.slice 205):=⟨Tryz.underlying201⟩
instance:Zero Tryz.prog 201 (.slice none 0 0):=⟨by kernel_rfl⟩
instance:Byt Tryz.prog 201 24:=⟨by kernel_rfl⟩
instance:TyR Tryz.prog 202 rVal:=⟨by kernel_rfl⟩
instance:TyR Tryz.prog 203 rVal:=⟨by kernel_rfl⟩
instance:FOff Tryz.prog 204 0 0:=⟨by kernel_rfl⟩
instance:FOff Tryz.prog 204 1 1:=⟨by kernel_rfl⟩
instance:FOff Tryz.prog 204 2 2:=⟨by kernel_rfl⟩
instance:Zero Tryz.prog 204 (.agg #[.int .i64 0,.int .i64 0,.nilFunc]):=⟨by kernel_rfl⟩
instance:ZF Tryz.prog 204 [.int .i64 0,.int .i64 0,.nilFunc]:=⟨by kernel_rfl,by kernel_rfl⟩
instance:Byt Tryz.prog 204 24:=⟨by kernel_rfl⟩
instance:FOff Tryz.prog 205 0 0:=⟨by kernel_rfl⟩
instance:FOff Tryz.prog 205 1 1:=⟨by kernel_rfl⟩
instance:FOff Tryz.prog 205 2 2:=⟨by kernel_rfl⟩
instance:Zero Tryz.prog 205 (.agg #[.int .i64 0,.int .i64 0,.nilFunc]):=⟨by kernel_rfl⟩
instance:ZF Tryz.prog 205 [.int .i64 0,.int .i64 0,.nilFunc]:=⟨by kernel_rfl,by kernel_rfl⟩
instance:Conc Tryz.prog 205:=⟨by kernel_rfl⟩
instance:Byt Tryz.prog 205 24:=⟨by kernel_rfl⟩
instance:TyR Tryz.prog 206 rVal:=⟨by kernel_rfl⟩
instance:Und Tryz.prog 207 (.slice 137):=⟨Tryz.underlying207⟩
instance:Zero Tryz.prog 207 (.slice none 0 0):=⟨by kernel_rfl⟩
instance:Byt Tryz.prog 207 24:=⟨by kernel_rfl⟩
instance:TyR Tryz.prog 209 rVal:=⟨by kernel_rfl⟩
instance:TyR Tryz.prog 210 rVal:=⟨by kernel_rfl⟩
instance:TyR Tryz.prog 211 rVal:=⟨by kernel_rfl⟩
instance:FOff Tryz.prog 212 0 0:=⟨by kernel_rfl⟩
instance:FOff Tryz.prog 212 1 1:=⟨by kernel_rfl⟩
instance:Zero Tryz.prog 212 (.agg #[.string ⟨#[]⟩,.string ⟨#[]⟩]):=⟨by kernel_rfl⟩
instance:ZF Tryz.prog 212 [.string ⟨#[]⟩,.string ⟨#[]⟩]:=⟨by kernel_rfl,by kernel_rfl⟩
instance:FlatS Tryz.prog 212 [.str,.str]:=⟨by kernel_rfl,by kernel_rfl,by kernel_rfl⟩
instance:Byt Tryz.prog 212 32:=⟨by kernel_rfl⟩
instance:FOff Tryz.prog 213 0 0:=⟨by kernel_rfl⟩
instance:FOff Tryz.prog 213 1 1:=⟨by kernel_rfl⟩
instance:Zero Tryz.prog 213 (.agg #[.string ⟨#[]⟩,.string ⟨#[]⟩]):=⟨by kernel_rfl⟩
instance:ZF Tryz.prog 213 [.string ⟨#[]⟩,.string ⟨#[]⟩]:=⟨by kernel_rfl,by kernel_rfl⟩
instance:FlatS Tryz.prog 213 [.str,.str]:=⟨by kernel_rfl,by kernel_rfl,by kernel_rfl⟩
instance:Conc Tryz.prog 213:=⟨by kernel_rfl⟩
instance:Byt Tryz.prog 213 32:=⟨by kernel_rfl⟩
instance:TyR Tryz.prog 213 rLabel:=⟨by kernel_rfl⟩
instance:FOff Tryz.prog 214 0 0:=⟨by kernel_rfl⟩
instance:FOff Tryz.prog 214 1 1:=⟨by kernel_rfl⟩
instance:FOff Tryz.prog 214 2 2:=⟨by kernel_rfl⟩
instance:Zero Tryz.prog 214 (.agg #[.int .i64 0,.string ⟨#[]⟩,.string ⟨#[]⟩]):=⟨by kernel_rfl⟩
instance:ZF Tryz.prog 214 [.int .i64 0,.string ⟨#[]⟩,.string ⟨#[]⟩]:=⟨by kernel_rfl,by kernel_rfl⟩
instance:FlatS Tryz.prog 214 [.int,.str,.str]:=⟨by kernel_rfl,by kernel_rfl,by kernel_rfl⟩
instance:Byt Tryz.prog 214 40:=⟨by kernel_rfl⟩
instance:FOff Tryz.prog 215 0 0:=⟨by kernel_rfl⟩
instance:FOff Tryz.prog 215 1 1:=⟨by kernel_rfl⟩
instance:FOff Tryz.prog 215 2 2:=⟨by kernel_rfl⟩
instance:Zero Tryz.prog 215 (.agg #[.int .i64 0,.string ⟨#[]⟩,.string ⟨#[]⟩]):=⟨by kernel_rfl⟩
instance:ZF Tryz.prog 215 [.int .i64 0,.string ⟨#[]⟩,.string ⟨#[]⟩]:=⟨by kernel_rfl,by kernel_rfl⟩
instance:FlatS Tryz.prog 215 [.int,.str,.str]:=⟨by kernel_rfl,by kernel_rfl,by kernel_rfl⟩
instance:Conc Tryz.prog 215:=⟨by kernel_rfl⟩
instance:Byt Tryz.prog 215 40:=⟨by kernel_rfl⟩
instance:TyR Tryz.prog 215 rTerm:=⟨by kernel_rfl⟩
instance:TyR Tryz.prog 216 rVal:=⟨by kernel_rfl⟩
instance:TyR Tryz.prog 217 rVal:=⟨by kernel_rfl⟩
instance:TyR Tryz.prog 218 rVal:=⟨by kernel_rfl⟩
instance:Byt Tryz.prog 219 8:=⟨by kernel_rfl⟩
instance:TyR Tryz.prog 219 rVal:=⟨by kernel_rfl⟩
instance:TyR Tryz.prog 220 rVal:=⟨by kernel_rfl⟩
instance:Und Tryz.prog 221 (.pointer 276):=⟨Tryz.underlying221⟩
instance:Zero Tryz.prog 221 (.pointer none):=⟨by kernel_rfl⟩
instance:Byt Tryz.prog 221 8:=⟨by kernel_rfl⟩
instance:TyR Tryz.prog 221 rVal:=⟨by kernel_rfl⟩
instance:TyR Tryz.prog 224 rVal:=⟨by kernel_rfl⟩
instance:TyR Tryz.prog 225 rVal:=⟨by kernel_rfl⟩
instance:TyR Tryz.prog 226 rVal:=⟨by kernel_rfl⟩
instance:TyR Tryz.prog 227 rVal:=⟨by kernel_rfl⟩
instance:TyR Tryz.prog 228 rVal:=⟨by kernel_rfl⟩
instance:TyR Tryz.prog 229 rVal:=⟨by kernel_rfl⟩
instance:Byt Tryz.prog 230 8:=⟨by kernel_rfl⟩
instance:TyR Tryz.prog 230 rVal:=⟨by kernel_rfl⟩
instance:TyR Tryz.prog 231 rVal:=⟨by kernel_rfl⟩
instance:Und Tryz.prog 233 (.int .i64):=⟨Tryz.underlying233⟩
instance:Zero Tryz.prog 233 (.int .i64 0):=⟨by kernel_rfl⟩
instance:Byt Tryz.prog 233 8:=⟨by kernel_rfl⟩
instance:TyR Tryz.prog 233 rI64:=⟨by kernel_rfl⟩
instance:TyR Tryz.prog 235 rVal:=⟨by kernel_rfl⟩
instance:TyR Tryz.prog 236 rVal:=⟨by kernel_rfl⟩
instance:TyR Tryz.prog 237 rVal:=⟨by kernel_rfl⟩
instance:TyR Tryz.prog 238 rVal:=⟨by kernel_rfl⟩
instance:TyR Tryz.prog 239 rVal:=⟨by kernel_rfl⟩
instance:Und Tryz.prog 240 (.int .u32):=⟨Tryz.underlying240⟩
instance:Zero Tryz.prog 240 (.int .u32 0):=⟨by kernel_rfl⟩
instance:Byt Tryz.prog 240 4:=⟨by kernel_rfl⟩
instance:TyR Tryz.prog 240 (rInt .u32):=⟨by kernel_rfl⟩
instance:TyR Tryz.prog 241 rVal:=⟨by kernel_rfl⟩
instance:Und Tryz.prog 242 (.int .u64):=⟨Tryz.underlying242⟩
instance:Zero Tryz.prog 242 (.int .u64 0):=⟨by kernel_rfl⟩
instance:Byt Tryz.prog 242 8:=⟨by kernel_rfl⟩
instance:TyR Tryz.prog 242 (rInt .u64):=⟨by kernel_rfl⟩
instance:TyR Tryz.prog 243 rVal:=⟨by kernel_rfl⟩
instance:TyR Tryz.prog 244 rVal:=⟨by kernel_rfl⟩
instance:TyR Tryz.prog 245 rVal:=⟨by kernel_rfl⟩
instance:TyR Tryz.prog 246 rVal:=⟨by kernel_rfl⟩
instance:TyR Tryz.prog 247 rVal:=⟨by kernel_rfl⟩
instance:TyR Tryz.prog 248 rVal:=⟨by kernel_rfl⟩
instance:TyR Tryz.prog 249 rVal:=⟨by kernel_rfl⟩
instance:TyR Tryz.prog 250 rVal:=⟨by kernel_rfl⟩
instance:TyR Tryz.prog 251 rVal:=⟨by kernel_rfl⟩
instance:TyR Tryz.prog 252 rVal:=⟨by kernel_rfl⟩
instance:TyR Tryz.prog 253 rVal:=⟨by kernel_rfl⟩
instance:TyR Tryz.prog 254 rVal:=⟨by kernel_rfl⟩
instance:TyR Tryz.prog 255 rVal:=⟨by kernel_rfl⟩
instance:TyR Tryz.prog 256 rVal:=⟨by kernel_rfl⟩
instance:TyR Tryz.prog 257 rVal:=⟨by kernel_rfl⟩
instance:TyR Tryz.prog 259 rVal:=⟨by kernel_rfl⟩
instance:TyR Tryz.prog 260 rVal:=⟨by kernel_rfl⟩
instance:Und Tryz.prog 261 (.slice 31):=⟨Tryz.underlying261⟩
instance:Zero Tryz.prog 261 (.slice none 0 0):=⟨by kernel_rfl⟩
instance:Byt Tryz.prog 261 24:=⟨by kernel_rfl⟩
instance:TyR Tryz.prog 261 (rSlice 8 rI64):=⟨by kernel_rfl⟩
instance:TyR Tryz.prog 263 rVal:=⟨by kernel_rfl⟩
instance:TyR Tryz.prog 264 rVal:=⟨by kernel_rfl⟩
instance:TyR Tryz.prog 265 rVal:=⟨by kernel_rfl⟩
instance:TyR Tryz.prog 266 rVal:=⟨by kernel_rfl⟩
instance:TyR Tryz.prog 267 rVal:=⟨by kernel_rfl⟩
instance:TyR Tryz.prog 268 rVal:=⟨by kernel_rfl⟩
instance:TyR Tryz.prog 269 rVal:=⟨by kernel_rfl⟩
instance:TyR Tryz.prog 270 rVal:=⟨by kernel_rfl⟩
instance:TyR Tryz.prog 271 rVal:=⟨by kernel_rfl⟩
instance:TyR Tryz.prog 272 rVal:=⟨by kernel_rfl⟩
instance:TyR Tryz.prog 273 rVal:=⟨by kernel_rfl⟩
instance:Und Tryz.prog 274 (.map 9 356):=⟨Tryz.underlying274⟩
instance:Zero Tryz.prog 274 (.map none):=⟨by kernel_rfl⟩
instance:Byt Tryz.prog 274 8:=⟨by kernel_rfl⟩
instance:TyR Tryz.prog 274 rVal:=⟨by kernel_rfl⟩
instance:FOff Tryz.prog 275 0 0:=⟨by kernel_rfl⟩
instance:FOff Tryz.prog 275 1 3:=⟨by kernel_rfl⟩
instance:FOff Tryz.prog 275 2 4:=⟨by kernel_rfl⟩
instance:FOff Tryz.prog 275 3 5:=⟨by kernel_rfl⟩
instance:Zero Tryz.prog 275 (.agg #[.slice none 0 0,.slice none 0 0,.slice none 0 0,.slice none 0 0,.slice none 0 0,.map none]):=⟨by kernel_rfl⟩
instance:ZF Tryz.prog 275 [.agg #[.slice none 0 0,.slice none 0 0,.slice none 0 0],.slice none 0 0,.slice none 0 0,.map none]:=⟨by kernel_rfl,by kernel_rfl⟩
instance:Byt Tryz.prog 275 128:=⟨by kernel_rfl⟩
instance:FOff Tryz.prog 276 0 0:=⟨by kernel_rfl⟩
instance:FOff Tryz.prog 276 1 3:=⟨by kernel_rfl⟩
instance:FOff Tryz.prog 276 2 4:=⟨by kernel_rfl⟩
instance:FOff Tryz.prog 276 3 5:=⟨by kernel_rfl⟩
instance:Zero Tryz.prog 276 (.agg #[.slice none 0 0,.slice none 0 0,.slice none 0 0,.slice none 0 0,.slice none 0 0,.map none]):=⟨by kernel_rfl⟩
instance:ZF Tryz.prog 276 [.agg #[.slice none 0 0,.slice none 0 0,.slice none 0 0],.slice none 0 0,.slice none 0 0,.map none]:=⟨by kernel_rfl,by kernel_rfl⟩
instance:Conc Tryz.prog 276:=⟨by kernel_rfl⟩
instance:Byt Tryz.prog 276 128:=⟨by kernel_rfl⟩
instance:TyR Tryz.prog 277 rVal:=⟨by kernel_rfl⟩
instance:Und Tryz.prog 278 (.int .i64):=⟨Tryz.underlying278⟩
instance:Zero Tryz.prog 278 (.int .i64 0):=⟨by kernel_rfl⟩
instance:Conc Tryz.prog 278:=⟨by kernel_rfl⟩
instance:Byt Tryz.prog 278 8:=⟨by kernel_rfl⟩
instance:TyR Tryz.prog 278 rI64:=⟨by kernel_rfl⟩
instance:Und Tryz.prog 279 (.int .i64):=⟨Tryz.underlying279⟩
instance:Zero Tryz.prog 279 (.int .i64 0):=⟨by kernel_rfl⟩
instance:Conc Tryz.prog 279:=⟨by kernel_rfl⟩
instance:Byt Tryz.prog 279 8:=⟨by kernel_rfl⟩
instance:TyR Tryz.prog 279 rI64:=⟨by kernel_rfl⟩
instance:Und Tryz.prog 280 (.int .i64):=⟨Tryz.underlying280⟩
instance:Zero Tryz.prog 280 (.int .i64 0):=⟨by kernel_rfl⟩
instance:Conc Tryz.prog 280:=⟨by kernel_rfl⟩
instance:Byt Tryz.prog 280 8:=⟨by kernel_rfl⟩
instance:TyR Tryz.prog 280 rI64:=⟨by kernel_rfl⟩
instance:TyR Tryz.prog 281 rVal:=⟨by kernel_rfl⟩
instance:TyR Tryz.prog 282 rVal:=⟨by kernel_rfl⟩
instance:Und Tryz.prog 283 (.int .u64):=⟨Tryz.underlying283⟩
instance:Zero Tryz.prog 283 (.int .u64 0):=⟨by kernel_rfl⟩
instance:Byt Tryz.prog 283 8:=⟨by kernel_rfl⟩
instance:TyR Tryz.prog 283 (rInt .u64):=⟨by kernel_rfl⟩
instance:TyR Tryz.prog 284 rVal:=⟨by kernel_rfl⟩
instance:TyR Tryz.prog 286 rVal:=⟨by kernel_rfl⟩
instance:Und Tryz.prog 287 (.pointer 3):=⟨Tryz.underlying287⟩
instance:Zero Tryz.prog 287 (.pointer none):=⟨by kernel_rfl⟩
instance:Byt Tryz.prog 287 8:=⟨by kernel_rfl⟩
instance:TyR Tryz.prog 287 rVal:=⟨by kernel_rfl⟩
instance:TyR Tryz.prog 288 rVal:=⟨by kernel_rfl⟩
instance:TyR Tryz.prog 289 rVal:=⟨by kernel_rfl⟩
instance:TyR Tryz.prog 290 rVal:=⟨by kernel_rfl⟩
instance:TyR Tryz.prog 291 rVal:=⟨by kernel_rfl⟩
instance:TyR Tryz.prog 292 rVal:=⟨by kernel_rfl⟩
instance:TyR Tryz.prog 293 rVal:=⟨by kernel_rfl⟩
instance:TyR Tryz.prog 294 rVal:=⟨by kernel_rfl⟩
instance:TyR Tryz.prog 295 rVal:=⟨by kernel_rfl⟩
instance:TyR Tryz.prog 296 rVal:=⟨by kernel_rfl⟩
instance:TyR Tryz.prog 297 rVal:=⟨by kernel_rfl⟩
instance:TyR Tryz.prog 298 rVal:=⟨by kernel_rfl⟩
instance:TyR Tryz.prog 299 rVal:=⟨by kernel_rfl⟩
instance:TyR Tryz.prog 300 rVal:=⟨by kernel_rfl⟩
instance:TyR Tryz.prog 301 rVal:=⟨by kernel_rfl⟩
instance:TyR Tryz.prog 302 rVal:=⟨by kernel_rfl⟩
instance:TyR Tryz.prog 303 rVal:=⟨by kernel_rfl⟩
instance:TyR Tryz.prog 304 rVal:=⟨by kernel_rfl⟩
instance:TyR Tryz.prog 305 rVal:=⟨by kernel_rfl⟩
instance:TyR Tryz.prog 306 rVal:=⟨by kernel_rfl⟩
instance:TyR Tryz.prog 307 rVal:=⟨by kernel_rfl⟩
instance:TyR Tryz.prog 308 rVal:=⟨by kernel_rfl⟩
instance:Byt Tryz.prog 309 16:=⟨by kernel_rfl⟩
instance:TyR Tryz.prog 309 rVal:=⟨by kernel_rfl⟩
instance:TyR Tryz.prog 310 rVal:=⟨by kernel_rfl⟩
instance:TyR Tryz.prog 311 rVal:=⟨by kernel_rfl⟩
instance:FOff Tryz.prog 312 0 0:=⟨by kernel_rfl⟩
instance:Zero Tryz.prog 312 (.agg #[.nilFunc]):=⟨by kernel_rfl⟩
instance:ZF Tryz.prog 312 [.nilFunc]:=⟨by kernel_rfl,by kernel_rfl⟩
instance:Byt Tryz.prog 312 8:=⟨by kernel_rfl⟩
instance:FOff Tryz.prog 313 0 0:=⟨by kernel_rfl⟩
instance:Zero Tryz.prog 313 (.agg #[.nilFunc]):=⟨by kernel_rfl⟩
instance:ZF Tryz.prog 313 [.nilFunc]:=⟨by kernel_rfl,by kernel_rfl⟩
instance:Conc Tryz.prog 313:=⟨by kernel_rfl⟩
instance:Byt Tryz.prog 313 8:=⟨by kernel_rfl⟩
instance:Und Tryz.prog 314 (.map 3 313):=⟨Tryz.underlying314⟩
instance:Zero Tryz.prog 314 (.map none):=⟨by kernel_rfl⟩
instance:Byt Tryz.prog 314 8:=⟨by kernel_rfl⟩
instance:TyR Tryz.prog 314 rVal:=⟨by kernel_rfl⟩
instance:TyR Tryz.prog 315 rVal:=⟨by kernel_rfl⟩
instance:TyR Tryz.prog 316 rVal:=⟨by kernel_rfl⟩
instance:TyR Tryz.prog 318 rVal:=⟨by kernel_rfl⟩
instance:Und Tryz.prog 319 (.pointer 283):=⟨Tryz.underlying319⟩
instance:Zero Tryz.prog 319 (.pointer none):=⟨by kernel_rfl⟩
instance:Byt Tryz.prog 319 8:=⟨by kernel_rfl⟩
instance:TyR Tryz.prog 319 rVal:=⟨by kernel_rfl⟩
instance:TyR Tryz.prog 321 rVal:=⟨by kernel_rfl⟩
instance:TyR Tryz.prog 322 rVal:=⟨by kernel_rfl⟩
instance:TyR Tryz.prog 323 rVal:=⟨by kernel_rfl⟩
instance:TyR Tryz.prog 324 rVal:=⟨by kernel_rfl⟩
instance:TyR Tryz.prog 325 rVal:=⟨by kernel_rfl⟩
instance:Und Tryz.prog 326 (.map 9 3):=⟨Tryz.underlying326⟩
instance:Zero Tryz.prog 326 (.map none):=⟨by kernel_rfl⟩
instance:Byt Tryz.prog 326 8:=⟨by kernel_rfl⟩
instance:TyR Tryz.prog 326 rVal:=⟨by kernel_rfl⟩
instance:TyR Tryz.prog 327 rVal:=⟨by kernel_rfl⟩
instance:TyR Tryz.prog 328 rVal:=⟨by kernel_rfl⟩
instance:Byt Tryz.prog 329 8:=⟨by kernel_rfl⟩
instance:TyR Tryz.prog 329 rVal:=⟨by kernel_rfl⟩
instance:TyR Tryz.prog 330 rVal:=⟨by kernel_rfl⟩
instance:TyR Tryz.prog 331 rVal:=⟨by kernel_rfl⟩
instance:TyR Tryz.prog 332 rVal:=⟨by kernel_rfl⟩
instance:TyR Tryz.prog 333 rVal:=⟨by kernel_rfl⟩
instance:TyR Tryz.prog 334 rVal:=⟨by kernel_rfl⟩
instance:TyR Tryz.prog 335 rVal:=⟨by kernel_rfl⟩
instance:TyR Tryz.prog 336 rVal:=⟨by kernel_rfl⟩
instance:TyR Tryz.prog 337 rVal:=⟨by kernel_rfl⟩
instance:TyR Tryz.prog 338 rVal:=⟨by kernel_rfl⟩
instance:TyR Tryz.prog 339 rVal:=⟨by kernel_rfl⟩
instance:TyR Tryz.prog 340 rVal:=⟨by kernel_rfl⟩
instance:TyR Tryz.prog 341 rVal:=⟨by kernel_rfl⟩
instance:TyR Tryz.prog 342 rVal:=⟨by kernel_rfl⟩
instance:TyR Tryz.prog 343 rVal:=⟨by kernel_rfl⟩
instance:TyR Tryz.prog 344 rVal:=⟨by kernel_rfl⟩
instance:TyR Tryz.prog 345 rVal:=⟨by kernel_rfl⟩
instance:TyR Tryz.prog 346 rVal:=⟨by kernel_rfl⟩
instance:TyR Tryz.prog 347 rVal:=⟨by kernel_rfl⟩
instance:TyR Tryz.prog 348 rVal:=⟨by kernel_rfl⟩
instance:TyR Tryz.prog 349 rVal:=⟨by kernel_rfl⟩
instance:TyR Tryz.prog 350 rVal:=⟨by kernel_rfl⟩
instance:TyR Tryz.prog 351 rVal:=⟨by kernel_rfl⟩
instance:TyR Tryz.prog 352 rVal:=⟨by kernel_rfl⟩
instance:TyR Tryz.prog 353 rVal:=⟨by kernel_rfl⟩
instance:TyR Tryz.prog 354 rVal:=⟨by kernel_rfl⟩
instance:TyR Tryz.prog 355 rVal:=⟨by kernel_rfl⟩
instance:Und Tryz.prog 356 (.slice 359):=⟨Tryz.underlying356⟩
instance:Zero Tryz.prog 356 (.slice none 0 0):=⟨by kernel_rfl⟩
instance:Byt Tryz.prog 356 24:=⟨by kernel_rfl⟩
instance:FOff Tryz.prog 358 0 0:=⟨by kernel_rfl⟩
instance:FOff Tryz.prog 358 1 1:=⟨by kernel_rfl⟩
instance:Zero Tryz.prog 358 (.agg #[.string ⟨#[]⟩,.bool false]):=⟨by kernel_rfl⟩
instance:ZF Tryz.prog 358 [.string ⟨#[]⟩,.bool false]:=⟨by kernel_rfl,by kernel_rfl⟩
instance:FlatS Tryz.prog 358 [.str,.bool]:=⟨by kernel_rfl,by kernel_rfl,by kernel_rfl⟩
instance:Byt Tryz.prog 358 24:=⟨by kernel_rfl⟩
instance:FOff Tryz.prog 359 0 0:=⟨by kernel_rfl⟩
instance:FOff Tryz.prog 359 1 1:=⟨by kernel_rfl⟩
instance:Zero Tryz.prog 359 (.agg #[.string ⟨#[]⟩,.bool false]):=⟨by kernel_rfl⟩
instance:ZF Tryz.prog 359 [.string ⟨#[]⟩,.bool false]:=⟨by kernel_rfl,by kernel_rfl⟩
instance:FlatS Tryz.prog 359 [.str,.bool]:=⟨by kernel_rfl,by kernel_rfl,by kernel_rfl⟩
instance:Conc Tryz.prog 359:=⟨by kernel_rfl⟩
instance:Byt Tryz.prog 359 24:=⟨by kernel_rfl⟩
instance:TyR Tryz.prog 360 rVal:=⟨by kernel_rfl⟩
instance:TyR Tryz.prog 361 rVal:=⟨by kernel_rfl⟩
instance:TyR Tryz.prog 362 rVal:=⟨by kernel_rfl⟩
instance:TyR Tryz.prog 363 rVal:=⟨by kernel_rfl⟩
instance:TyR Tryz.prog 364 rVal:=⟨by kernel_rfl⟩
instance:TyR Tryz.prog 365 rVal:=⟨by kernel_rfl⟩
instance:TyR Tryz.prog 366 rVal:=⟨by kernel_rfl⟩
instance:TyR Tryz.prog 367 rVal:=⟨by kernel_rfl⟩
instance:TyR Tryz.prog 368 rVal:=⟨by kernel_rfl⟩
instance:TyR Tryz.prog 369 rVal:=⟨by kernel_rfl⟩
instance:Zero Tryz.prog 370 (.agg #[.pointer none,.pointer none,.pointer none,.string ⟨#[]⟩]):=⟨by kernel_rfl⟩
instance:Zero Tryz.prog 371 (.agg #[.pointer none,.pointer none,.pointer none,.string ⟨#[]⟩]):=⟨by kernel_rfl⟩
instance:Und Tryz.prog 372 (.array 0 16):=⟨Tryz.underlying372⟩
instance:Zero Tryz.prog 372 (.agg #[]):=⟨by kernel_rfl⟩
instance:Byt Tryz.prog 372 0:=⟨by kernel_rfl⟩
instance:Zero Tryz.prog 373 (.agg #[]):=⟨by kernel_rfl⟩
instance:Zero Tryz.prog 374 (.agg #[]):=⟨by kernel_rfl⟩
instance:Und Tryz.prog 375 (.int .u8):=⟨Tryz.underlying375⟩
instance:Zero Tryz.prog 375 (.int .u8 0):=⟨by kernel_rfl⟩
instance:Byt Tryz.prog 375 1:=⟨by kernel_rfl⟩
instance:TyR Tryz.prog 375 (rInt .u8):=⟨by kernel_rfl⟩
instance:Und Tryz.prog 376 (.int .u8):=⟨Tryz.underlying376⟩
instance:Zero Tryz.prog 376 (.int .u8 0):=⟨by kernel_rfl⟩
instance:Byt Tryz.prog 376 1:=⟨by kernel_rfl⟩
instance:TyR Tryz.prog 376 (rInt .u8):=⟨by kernel_rfl⟩
instance:TyR Tryz.prog 377 rVal:=⟨by kernel_rfl⟩
instance:Und Tryz.prog 378 (.pointer 5):=⟨Tryz.underlying378⟩
instance:Zero Tryz.prog 378 (.pointer none):=⟨by kernel_rfl⟩
instance:Byt Tryz.prog 378 8:=⟨by kernel_rfl⟩
instance:TyR Tryz.prog 378 rVal:=⟨by kernel_rfl⟩
instance:Und Tryz.prog 379 (.int .i32):=⟨Tryz.underlying379⟩
instance:Zero Tryz.prog 379 (.int .i32 0):=⟨by kernel_rfl⟩
instance:Byt Tryz.prog 379 4:=⟨by kernel_rfl⟩
instance:TyR Tryz.prog 379 (rInt .i32):=⟨by kernel_rfl⟩
instance:Und Tryz.prog 380 (.int .i32):=⟨Tryz.underlying380⟩
instance:Zero Tryz.prog 380 (.int .i32 0):=⟨by kernel_rfl⟩
instance:Byt Tryz.prog 380 4:=⟨by kernel_rfl⟩
instance:TyR Tryz.prog 380 (rInt .i32):=⟨by kernel_rfl⟩
instance:Zero Tryz.prog 381 (.agg #[.int .u64 0,.int .u64 0,.int .u32 0,.int .u8 0,.int .u8 0,.int .u8 0,.int .u8 0,.nilFunc,.pointer none,.int .i32 0,.int .i32 0]):=⟨by kernel_rfl⟩
instance:Zero Tryz.prog 382 (.agg #[.int .u64 0,.int .u64 0,.int .u32 0,.int .u8 0,.int .u8 0,.int .u8 0,.int .u8 0,.nilFunc,.pointer none,.int .i32 0,.int .i32 0]):=⟨by kernel_rfl⟩
instance:Ent Tryz.prog 3:=⟨by kernel_rfl⟩
instance:Ent Tryz.prog 4:=⟨by kernel_rfl⟩
instance:Ent Tryz.prog 5:=⟨by kernel_rfl⟩
instance:Ent Tryz.prog 6:=⟨by kernel_rfl⟩
instance:Ent Tryz.prog 7:=⟨by kernel_rfl⟩
instance:Ent Tryz.prog 8:=⟨by kernel_rfl⟩
instance:Ent Tryz.prog 9:=⟨by kernel_rfl⟩
instance:Ent Tryz.prog 10:=⟨by kernel_rfl⟩
instance:Ent Tryz.prog 11:=⟨by kernel_rfl⟩
instance:Ent Tryz.prog 12:=⟨by kernel_rfl⟩
instance:Ent Tryz.prog 13:=⟨by kernel_rfl⟩
instance:Ent Tryz.prog 14:=⟨by kernel_rfl⟩
instance:Ent Tryz.prog 15:=⟨by kernel_rfl⟩
instance:Ent Tryz.prog 16:=⟨by kernel_rfl⟩
instance:Ent Tryz.prog 17:=⟨by kernel_rfl⟩
instance:Ent Tryz.prog 18:=⟨by kernel_rfl⟩
instance:Ent Tryz.prog 19:=⟨by kernel_rfl⟩
instance:Ent Tryz.prog 20:=⟨by kernel_rfl⟩
instance:Ent Tryz.prog 21:=⟨by kernel_rfl⟩
instance:Ent Tryz.prog 22:=⟨by kernel_rfl⟩
instance:Ent Tryz.prog 23:=⟨by kernel_rfl⟩
instance:Ent Tryz.prog 24:=⟨by kernel_rfl⟩
instance:Ent Tryz.prog 25:=⟨by kernel_rfl⟩
instance:Ent Tryz.prog 26:=⟨by kernel_rfl⟩
instance:Ent Tryz.prog 27:=⟨by kernel_rfl⟩
instance:Ent Tryz.prog 28:=⟨by kernel_rfl⟩
instance:Ent Tryz.prog 29:=⟨by kernel_rfl⟩
instance:Ent Tryz.prog 30:=⟨by kernel_rfl⟩
instance:Ent Tryz.prog 31:=⟨by kernel_rfl⟩
instance:Ent Tryz.prog 32:=⟨by kernel_rfl⟩
instance:Ent Tryz.prog 33:=⟨by kernel_rfl⟩
instance:Ent Tryz.prog 34:=⟨by kernel_rfl⟩
instance:Ent Tryz.prog 35:=⟨by kernel_rfl⟩
instance:Ent Tryz.prog 36:=⟨by kernel_rfl⟩
instance:Ent Tryz.prog 37:=⟨by kernel_rfl⟩
instance:Ent Tryz.prog 38:=⟨by kernel_rfl⟩
instance:Ent Tryz.prog 39:=⟨by kernel_rfl⟩
instance:Ent Tryz.prog 40:=⟨by kernel_rfl⟩
instance:Ent Tryz.prog 41:=⟨by kernel_rfl⟩
instance:Ent Tryz.prog 42:=⟨by kernel_rfl⟩
instance:Ent Tryz.prog 43:=⟨by kernel_rfl⟩
instance:Ent Tryz.prog 44:=⟨by kernel_rfl⟩
instance:Ent Tryz.prog 45:=⟨by kernel_rfl⟩
instance:Ent Tryz.prog 46:=⟨by kernel_rfl⟩
instance:Ent Tryz.prog 47:=⟨by kernel_rfl⟩
instance:Ent Tryz.prog 48:=⟨by kernel_rfl⟩
instance:Ent Tryz.prog 49:=⟨by kernel_rfl⟩
instance:Ent Tryz.prog 50:=⟨by kernel_rfl⟩
instance:Ent Tryz.prog 51:=⟨by kernel_rfl⟩
instance:Ent Tryz.prog 52:=⟨by kernel_rfl⟩
instance:Ent Tryz.prog 53:=⟨by kernel_rfl⟩
instance:Ent Tryz.prog 54:=⟨by kernel_rfl⟩
instance:Ent Tryz.prog 55:=⟨by kernel_rfl⟩
instance:Ent Tryz.prog 56:=⟨by kernel_rfl⟩
instance:Ent Tryz.prog 57:=⟨by kernel_rfl⟩
instance:Ent Tryz.prog 58:=⟨by kernel_rfl⟩
instance:Ent Tryz.prog 59:=⟨by kernel_rfl⟩
instance:Ent Tryz.prog 60:=⟨by kernel_rfl⟩
instance:Ent Tryz.prog 61:=⟨by kernel_rfl⟩
instance:Ent Tryz.prog 62:=⟨by kernel_rfl⟩
instance:Ent Tryz.prog 63:=⟨by kernel_rfl⟩
instance:Ent Tryz.prog 64:=⟨by kernel_rfl⟩
instance:Ent Tryz.prog 65:=⟨by kernel_rfl⟩
instance:Ent Tryz.prog 66:=⟨by kernel_rfl⟩
instance:Ent Tryz.prog 67:=⟨by kernel_rfl⟩
instance:Ent Tryz.prog 68:=⟨by kernel_rfl⟩
instance:Ent Tryz.prog 69:=⟨by kernel_rfl⟩
instance:Ent Tryz.prog 70:=⟨by kernel_rfl⟩
instance:Ent Tryz.prog 71:=⟨by kernel_rfl⟩
instance:Ent Tryz.prog 72:=⟨by kernel_rfl⟩
instance:Ent Tryz.prog 73:=⟨by kernel_rfl⟩
instance:Ent Tryz.prog 74:=⟨by kernel_rfl⟩
instance:Ent Tryz.prog 75:=⟨by kernel_rfl⟩
instance:Ent Tryz.prog 76:=⟨by kernel_rfl⟩
instance:Ent Tryz.prog 77:=⟨by kernel_rfl⟩
instance:Ent Tryz.prog 78:=⟨by kernel_rfl⟩
instance:Ent Tryz.prog 79:=⟨by kernel_rfl⟩
instance:Ent Tryz.prog 80:=⟨by kernel_rfl⟩
instance:Ent Tryz.prog 81:=⟨by kernel_rfl⟩
instance:Ent Tryz.prog 82:=⟨by kernel_rfl⟩
instance:Ent Tryz.prog 83:=⟨by kernel_rfl⟩
instance:Ent Tryz.prog 84:=⟨by kernel_rfl⟩
instance:Ent Tryz.prog 85:=⟨by kernel_rfl⟩
instance:Ent Tryz.prog 86:=⟨by kernel_rfl⟩
instance:Ent Tryz.prog 87:=⟨by kernel_rfl⟩
instance:Ent Tryz.prog 88:=⟨by kernel_rfl⟩
instance:Ent Tryz.prog 89:=⟨by kernel_rfl⟩
instance:Ent Tryz.prog 90:=⟨by kernel_rfl⟩
instance:Ent Tryz.prog 91:=⟨by kernel_rfl⟩
instance:Ent Tryz.prog 92:=⟨by kernel_rfl⟩
instance:Ent Tryz.prog 93:=⟨by kernel_rfl⟩
instance:Ent Tryz.prog 94:=⟨by kernel_rfl⟩
instance:Ent Tryz.prog 95:=⟨by kernel_rfl⟩
instance:Ent Tryz.prog 96:=⟨by kernel_rfl⟩
instance:Ent Tryz.prog 97:=⟨by kernel_rfl⟩
instance:Ent Tryz.prog 98:=⟨by kernel_rfl⟩
instance:Ent Tryz.prog 99:=⟨by kernel_rfl⟩
instance:Ent Tryz.prog 100:=⟨by kernel_rfl⟩
instance:Ent Tryz.prog 101:=⟨by kernel_rfl⟩
instance:Ent Tryz.prog 102:=⟨by kernel_rfl⟩
instance:Ent Tryz.prog 103:=⟨by kernel_rfl⟩
instance:Ent Tryz.prog 104:=⟨by kernel_rfl⟩
instance:Ent Tryz.prog 105:=⟨by kernel_rfl⟩
instance:Ent Tryz.prog 106:=⟨by kernel_rfl⟩
instance:Ent Tryz.prog 107:=⟨by kernel_rfl⟩
instance:Ent Tryz.prog 108:=⟨by kernel_rfl⟩
instance:Ent Tryz.prog 109:=⟨by kernel_rfl⟩
instance:Ent Tryz.prog 110:=⟨by kernel_rfl⟩
instance:Ent Tryz.prog 111:=⟨by kernel_rfl⟩
instance:Ent Tryz.prog 112:=⟨by kernel_rfl⟩
instance:Ent Tryz.prog 113:=⟨by kernel_rfl⟩
instance:Ent Tryz.prog 114:=⟨by kernel_rfl⟩
instance:Ent Tryz.prog 115:=⟨by kernel_rfl⟩
instance:Ent Tryz.prog 116:=⟨by kernel_rfl⟩
instance:Ent Tryz.prog 117:=⟨by kernel_rfl⟩
instance:Ent Tryz.prog 118:=⟨by kernel_rfl⟩
instance:Ent Tryz.prog 119:=⟨by kernel_rfl⟩
instance:Ent Tryz.prog 120:=⟨by kernel_rfl⟩
instance:Ent Tryz.prog 121:=⟨by kernel_rfl⟩
instance:Ent Tryz.prog 122:=⟨by kernel_rfl⟩
instance:Ent Tryz.prog 123:=⟨by kernel_rfl⟩
instance:Ent Tryz.prog 124:=⟨by kernel_rfl⟩
instance:Ent Tryz.prog 125:=⟨by kernel_rfl⟩
instance:Ent Tryz.prog 126:=⟨by kernel_rfl⟩
instance:Ent Tryz.prog 127:=⟨by kernel_rfl⟩
instance:Ent Tryz.prog 128:=⟨by kernel_rfl⟩
instance:Ent Tryz.prog 129:=⟨by kernel_rfl⟩
instance:Ent Tryz.prog 130:=⟨by kernel_rfl⟩
instance:Ent Tryz.prog 131:=⟨by kernel_rfl⟩
instance:Ent Tryz.prog 132:=⟨by kernel_rfl⟩
instance:Ent Tryz.prog 133:=⟨by kernel_rfl⟩
instance:Ent Tryz.prog 134:=⟨by kernel_rfl⟩
instance:Ent Tryz.prog 135:=⟨by kernel_rfl⟩
instance:Ent Tryz.prog 136:=⟨by kernel_rfl⟩
instance:Ent Tryz.prog 137:=⟨by kernel_rfl⟩
instance:Ent Tryz.prog 138:=⟨by kernel_rfl⟩
instance:Ent Tryz.prog 139:=⟨by kernel_rfl⟩
instance:Ent Tryz.prog 140:=⟨by kernel_rfl⟩
instance:Ent Tryz.prog 141:=⟨by kernel_rfl⟩
instance:Ent Tryz.prog 142:=⟨by kernel_rfl⟩
instance:Ent Tryz.prog 143:=⟨by kernel_rfl⟩
instance:Ent Tryz.prog 144:=⟨by kernel_rfl⟩
instance:Ent Tryz.prog 145:=⟨by kernel_rfl⟩
instance:Ent Tryz.prog 146:=⟨by kernel_rfl⟩
instance:Ent Tryz.prog 147:=⟨by kernel_rfl⟩
instance:Ent Tryz.prog 148:=⟨by kernel_rfl⟩
instance:Ent Tryz.prog 149:=⟨by kernel_rfl⟩
instance:Ent Tryz.prog 150:=⟨by kernel_rfl⟩
instance:Ent Tryz.prog 151:=⟨by kernel_rfl⟩
instance:Ent Tryz.prog 152:=⟨by kernel_rfl⟩
instance:Ent Tryz.prog 153:=⟨by kernel_rfl⟩
instance:Ent Tryz.prog 154:=⟨by kernel_rfl⟩
instance:Ent Tryz.prog 155:=⟨by kernel_rfl⟩
instance:Ent Tryz.prog 156:=⟨by kernel_rfl⟩
instance:Ent Tryz.prog 157:=⟨by kernel_rfl⟩
instance:Ent Tryz.prog 158:=⟨by kernel_rfl⟩
instance:Ent Tryz.prog 159:=⟨by kernel_rfl⟩
instance:Ent Tryz.prog 160:=⟨by kernel_rfl⟩
instance:Ent Tryz.prog 161:=⟨by kernel_rfl⟩
instance:Ent Tryz.prog 162:=⟨by kernel_rfl⟩
instance:Ent Tryz.prog 163:=⟨by kernel_rfl⟩
instance:Ent Tryz.prog 164:=⟨by kernel_rfl⟩
instance:Ent Tryz.prog 165:=⟨by kernel_rfl⟩
instance:Ent Tryz.prog 166:=⟨by kernel_rfl⟩
instance:Ent Tryz.prog 167:=⟨by kernel_rfl⟩
instance:Ent Tryz.prog 168:=⟨by kernel_rfl⟩
instance:Ent Tryz.prog 169:=⟨by kernel_rfl⟩
instance:Ent Tryz.prog 170:=⟨by kernel_rfl⟩
instance:Ent Tryz.prog 171:=⟨by kernel_rfl⟩
instance:Ent Tryz.prog 172:=⟨by kernel_rfl⟩
instance:Ent Tryz.prog 173:=⟨by kernel_rfl⟩
instance:Ent Tryz.prog 174:=⟨by kernel_rfl⟩
instance:Ent Tryz.prog 175:=⟨by kernel_rfl⟩
instance:Ent Tryz.prog 176:=⟨by kernel_rfl⟩
instance:Ent Tryz.prog 177:=⟨by kernel_rfl⟩
instance:Ent Tryz.prog 178:=⟨by kernel_rfl⟩
instance:Ent Tryz.prog 179:=⟨by kernel_rfl⟩
instance:Ent Tryz.prog 180:=⟨by kernel_rfl⟩
instance:Ent Tryz.prog 181:=⟨by kernel_rfl⟩
instance:Ent Tryz.prog 182:=⟨by kernel_rfl⟩
instance:Ent Tryz.prog 183:=⟨by kernel_rfl⟩
instance:Ent Tryz.prog 184:=⟨by kernel_rfl⟩
instance:Ent Tryz.prog 185:=⟨by kernel_rfl⟩
instance:Ent Tryz.prog 186:=⟨by kernel_rfl⟩
instance:Ent Tryz.prog 187:=⟨by kernel_rfl⟩
instance:Ent Tryz.prog 188:=⟨by kernel_rfl⟩
instance:Ent Tryz.prog 189:=⟨by kernel_rfl⟩
instance:Ent Tryz.prog 190:=⟨by kernel_rfl⟩
instance:Ent Tryz.prog 191:=⟨by kernel_rfl⟩
instance:Ent Tryz.prog 192:=⟨by kernel_rfl⟩
instance:Ent Tryz.prog 193:=⟨by kernel_rfl⟩
instance:Ent Tryz.prog 194:=⟨by kernel_rfl⟩
instance:Ent Tryz.prog 195:=⟨by kernel_rfl⟩
instance:Ent Tryz.prog 196:=⟨by kernel_rfl⟩
instance:Ent Tryz.prog 197:=⟨by kernel_rfl⟩
instance:Ent Tryz.prog 198:=⟨by kernel_rfl⟩
instance:Ent Tryz.prog 199:=⟨by kernel_rfl⟩
instance:Ent Tryz.prog 200:=⟨by kernel_rfl⟩
instance:Ent Tryz.prog 201:=⟨by kernel_rfl⟩
instance:Ent Tryz.prog 202:=⟨by kernel_rfl⟩
instance:Ent Tryz.prog 203:=⟨by kernel_rfl⟩
instance:Ent Tryz.prog 204:=⟨by kernel_rfl⟩
instance:Ent Tryz.prog 205:=⟨by kernel_rfl⟩
instance:Ent Tryz.prog 206:=⟨by kernel_rfl⟩
instance:Ent Tryz.prog 207:=⟨by kernel_rfl⟩
instance:Ent Tryz.prog 208:=⟨by kernel_rfl⟩
instance:Ent Tryz.prog 209:=⟨by kernel_rfl⟩
instance:Ent Tryz.prog 210:=⟨by kernel_rfl⟩
instance:Ent Tryz.prog 211:=⟨by kernel_rfl⟩
instance:Ent Tryz.prog 212:=⟨by kernel_rfl⟩
instance:Ent Tryz.prog 213:=⟨by kernel_rfl⟩
instance:Ent Tryz.prog 214:=⟨by kernel_rfl⟩
instance:Ent Tryz.prog 215:=⟨by kernel_rfl⟩
instance:Ent Tryz.prog 216:=⟨by kernel_rfl⟩
instance:Ent Tryz.prog 217:=⟨by kernel_rfl⟩
instance:Ent Tryz.prog 218:=⟨by kernel_rfl⟩
instance:Ent Tryz.prog 219:=⟨by kernel_rfl⟩
instance:Ent Tryz.prog 220:=⟨by kernel_rfl⟩
instance:Ent Tryz.prog 221:=⟨by kernel_rfl⟩
instance:Ent Tryz.prog 222:=⟨by kernel_rfl⟩
instance:Ent Tryz.prog 224:=⟨by kernel_rfl⟩
instance:Ent Tryz.prog 225:=⟨by kernel_rfl⟩
instance:Ent Tryz.prog 226:=⟨by kernel_rfl⟩
instance:Ent Tryz.prog 227:=⟨by kernel_rfl⟩
instance:Ent Tryz.prog 228:=⟨by kernel_rfl⟩
instance:Ent Tryz.prog 229:=⟨by kernel_rfl⟩
instance:Ent Tryz.prog 230:=⟨by kernel_rfl⟩
instance:Ent Tryz.prog 231:=⟨by kernel_rfl⟩
instance:Ent Tryz.prog 233:=⟨by kernel_rfl⟩
instance:Ent Tryz.prog 234:=⟨by kernel_rfl⟩
instance:Ent Tryz.prog 235:=⟨by kernel_rfl⟩
instance:Ent Tryz.prog 236:=⟨by kernel_rfl⟩
instance:Ent Tryz.prog 237:=⟨by kernel_rfl⟩
instance:Ent Tryz.prog 238:=⟨by kernel_rfl⟩
instance:Ent Tryz.prog 239:=⟨by kernel_rfl⟩
instance:Ent Tryz.prog 240:=⟨by kernel_rfl⟩
instance:Ent Tryz.prog 241:=⟨by kernel_rfl⟩
instance:Ent Tryz.prog 242:=⟨by kernel_rfl⟩
instance:Ent Tryz.prog 243:=⟨by kernel_rfl⟩
instance:Ent Tryz.prog 244:=⟨by kernel_rfl⟩
instance:Ent Tryz.prog 245:=⟨by kernel_rfl⟩
instance:Ent Tryz.prog 246:=⟨by kernel_rfl⟩
instance:Ent Tryz.prog 247:=⟨by kernel_rfl⟩
instance:Ent Tryz.prog 248:=⟨by kernel_rfl⟩
instance:Ent Tryz.prog 249:=⟨by kernel_rfl⟩
instance:Ent Tryz.prog 250:=⟨by kernel_rfl⟩
instance:Ent Tryz.prog 251:=⟨by kernel_rfl⟩
instance:Ent Tryz.prog 252:=⟨by kernel_rfl⟩
instance:Ent Tryz.prog 253:=⟨by kernel_rfl⟩
instance:Ent Tryz.prog 254:=⟨by kernel_rfl⟩
instance:Ent Tryz.prog 255:=⟨by kernel_rfl⟩
instance:Ent Tryz.prog 256:=⟨by kernel_rfl⟩
instance:Ent Tryz.prog 257:=⟨by kernel_rfl⟩
instance:Ent Tryz.prog 259:=⟨by kernel_rfl⟩
instance:Ent Tryz.prog 260:=⟨by kernel_rfl⟩
instance:Ent Tryz.prog 261:=⟨by kernel_rfl⟩
instance:Ent Tryz.prog 263:=⟨by kernel_rfl⟩
instance:Ent Tryz.prog 264:=⟨by kernel_rfl⟩
instance:Ent Tryz.prog 265:=⟨by kernel_rfl⟩
instance:Ent Tryz.prog 266:=⟨by kernel_rfl⟩
instance:Ent Tryz.prog 267:=⟨by kernel_rfl⟩
instance:Ent Tryz.prog 268:=⟨by kernel_rfl⟩
instance:Ent Tryz.prog 269:=⟨by kernel_rfl⟩
instance:Ent Tryz.prog 270:=⟨by kernel_rfl⟩
instance:Ent Tryz.prog 271:=⟨by kernel_rfl⟩
instance:Ent Tryz.prog 272:=⟨by kernel_rfl⟩
instance:Ent Tryz.prog 273:=⟨by kernel_rfl⟩
instance:Ent Tryz.prog 274:=⟨by kernel_rfl⟩
instance:Ent Tryz.prog 275:=⟨by kernel_rfl⟩
instance:Ent Tryz.prog 276:=⟨by kernel_rfl⟩
instance:Ent Tryz.prog 277:=⟨by kernel_rfl⟩
instance:Ent Tryz.prog 278:=⟨by kernel_rfl⟩
instance:Ent Tryz.prog 279:=⟨by kernel_rfl⟩
instance:Ent Tryz.prog 280:=⟨by kernel_rfl⟩
instance:Ent Tryz.prog 281:=⟨by kernel_rfl⟩
instance:Ent Tryz.prog 282:=⟨by kernel_rfl⟩
instance:Ent Tryz.prog 283:=⟨by kernel_rfl⟩
instance:Ent Tryz.prog 284:=⟨by kernel_rfl⟩
instance:Ent Tryz.prog 286:=⟨by kernel_rfl⟩
instance:Ent Tryz.prog 287:=⟨by kernel_rfl⟩
instance:Ent Tryz.prog 288:=⟨by kernel_rfl⟩
instance:Ent Tryz.prog 289:=⟨by kernel_rfl⟩
instance:Ent Tryz.prog 290:=⟨by kernel_rfl⟩
instance:Ent Tryz.prog 291:=⟨by kernel_rfl⟩
instance:Ent Tryz.prog 292:=⟨by kernel_rfl⟩
instance:Ent Tryz.prog 293:=⟨by kernel_rfl⟩
instance:Ent Tryz.prog 294:=⟨by kernel_rfl⟩
instance:Ent Tryz.prog 295:=⟨by kernel_rfl⟩
instance:Ent Tryz.prog 296:=⟨by kernel_rfl⟩
instance:Ent Tryz.prog 297:=⟨by kernel_rfl⟩
instance:Ent Tryz.prog 298:=⟨by kernel_rfl⟩
instance:Ent Tryz.prog 299:=⟨by kernel_rfl⟩
instance:Ent Tryz.prog 300:=⟨by kernel_rfl⟩
instance:Ent Tryz.prog 301:=⟨by kernel_rfl⟩
instance:Ent Tryz.prog 302:=⟨by kernel_rfl⟩
instance:Ent Tryz.prog 303:=⟨by kernel_rfl⟩
instance:Ent Tryz.prog 304:=⟨by kernel_rfl⟩
instance:Ent Tryz.prog 305:=⟨by kernel_rfl⟩
instance:Ent Tryz.prog 306:=⟨by kernel_rfl⟩
instance:Ent Tryz.prog 307:=⟨by kernel_rfl⟩
instance:Ent Tryz.prog 308:=⟨by kernel_rfl⟩
instance:Ent Tryz.prog 309:=⟨by kernel_rfl⟩
instance:Ent Tryz.prog 310:=⟨by kernel_rfl⟩
instance:Ent Tryz.prog 311:=⟨by kernel_rfl⟩
instance:Ent Tryz.prog 312:=⟨by kernel_rfl⟩
instance:Ent Tryz.prog 313:=⟨by kernel_rfl⟩
instance:Ent Tryz.prog 314:=⟨by kernel_rfl⟩
instance:Ent Tryz.prog 315:=⟨by kernel_rfl⟩
instance:Ent Tryz.prog 316:=⟨by kernel_rfl⟩
instance:Ent Tryz.prog 317:=⟨by kernel_rfl⟩
instance:Ent Tryz.prog 318:=⟨by kernel_rfl⟩
instance:Ent Tryz.prog 319:=⟨by kernel_rfl⟩
instance:Ent Tryz.prog 320:=⟨by kernel_rfl⟩
instance:Ent Tryz.prog 321:=⟨by kernel_rfl⟩
instance:Ent Tryz.prog 322:=⟨by kernel_rfl⟩
instance:Ent Tryz.prog 323:=⟨by kernel_rfl⟩
instance:Ent Tryz.prog 324:=⟨by kernel_rfl⟩
instance:Ent Tryz.prog 325:=⟨by kernel_rfl⟩
instance:Ent Tryz.prog 326:=⟨by kernel_rfl⟩
instance:Ent Tryz.prog 327:=⟨by kernel_rfl⟩
instance:Ent Tryz.prog 328:=⟨by kernel_rfl⟩
instance:Ent Tryz.prog 329:=⟨by kernel_rfl⟩
instance:Ent Tryz.prog 330:=⟨by kernel_rfl⟩
instance:Ent Tryz.prog 331:=⟨by kernel_rfl⟩
instance:Ent Tryz.prog 332:=⟨by kernel_rfl⟩
instance:Ent Tryz.prog 333:=⟨by kernel_rfl⟩
instance:Ent Tryz.prog 334:=⟨by kernel_rfl⟩
instance:Ent Tryz.prog 335:=⟨by kernel_rfl⟩
instance:Ent Tryz.prog 336:=⟨by kernel_rfl⟩
instance:Ent Tryz.prog 337:=⟨by kernel_rfl⟩
instance:Ent Tryz.prog 338:=⟨by kernel_rfl⟩
instance:Ent Tryz.prog 339:=⟨by kernel_rfl⟩
instance:Ent Tryz.prog 340:=⟨by kernel_rfl⟩
instance:Ent Tryz.prog 341:=⟨by kernel_rfl⟩
instance:Ent Tryz.prog 342:=⟨by kernel_rfl⟩
instance:Ent Tryz.prog 343:=⟨by kernel_rfl⟩
instance:Ent Tryz.prog 344:=⟨by kernel_rfl⟩
instance:Ent Tryz.prog 345:=⟨by kernel_rfl⟩
instance:Ent Tryz.prog 346:=⟨by kernel_rfl⟩
instance:Ent Tryz.prog 347:=⟨by kernel_rfl⟩
instance:Ent Tryz.prog 348:=⟨by kernel_rfl⟩
instance:Ent Tryz.prog 349:=⟨by kernel_rfl⟩
instance:Ent Tryz.prog 350:=⟨by kernel_rfl⟩
instance:Ent Tryz.prog 351:=⟨by kernel_rfl⟩
instance:Ent Tryz.prog 352:=⟨by kernel_rfl⟩
instance:Ent Tryz.prog 353:=⟨by kernel_rfl⟩
instance:Ent Tryz.prog 354:=⟨by kernel_rfl⟩
instance:Ent Tryz.prog 355:=⟨by kernel_rfl⟩
instance:Ent Tryz.prog 356:=⟨by kernel_rfl⟩
instance:Ent Tryz.prog 357:=⟨by kernel_rfl⟩
instance:Ent Tryz.prog 358:=⟨by kernel_rfl⟩
instance:Ent Tryz.prog 359:=⟨by kernel_rfl⟩
instance:Ent Tryz.prog 360:=⟨by kernel_rfl⟩
instance:Ent Tryz.prog 361:=⟨by kernel_rfl⟩
instance:Ent Tryz.prog 362:=⟨by kernel_rfl⟩
instance:Ent Tryz.prog 363:=⟨by kernel_rfl⟩
instance:Ent Tryz.prog 364:=⟨by kernel_rfl⟩
instance:Ent Tryz.prog 365:=⟨by kernel_rfl⟩
instance:Ent Tryz.prog 366:=⟨by kernel_rfl⟩
instance:Ent Tryz.prog 367:=⟨by kernel_rfl⟩
instance:Ent Tryz.prog 368:=⟨by kernel_rfl⟩
instance:Ent Tryz.prog 369:=⟨by kernel_rfl⟩
instance:Ent Tryz.prog 370:=⟨by kernel_rfl⟩
instance:Ent Tryz.prog 371:=⟨by kernel_rfl⟩
instance:Ent Tryz.prog 372:=⟨by kernel_rfl⟩
instance:Ent Tryz.prog 373:=⟨by kernel_rfl⟩
instance:Ent Tryz.prog 374:=⟨by kernel_rfl⟩
instance:Ent Tryz.prog 375:=⟨by kernel_rfl⟩
instance:Ent Tryz.prog 377:=⟨by kernel_rfl⟩
instance:Ent Tryz.prog 378:=⟨by kernel_rfl⟩
instance:Ent Tryz.prog 379:=⟨by kernel_rfl⟩
instance:Ent Tryz.prog 380:=⟨by kernel_rfl⟩
instance:Ent Tryz.prog 381:=⟨by kernel_rfl⟩
instance:Ent Tryz.prog 382:=⟨by kernel_rfl⟩
instance:Ent Tryz.prog 383:=⟨by kernel_rfl⟩
instance:Ent Tryz.prog 384:=⟨by kernel_rfl⟩
instance:Ent Tryz.prog 385:=⟨by kernel_rfl⟩
instance:Ent Tryz.prog 386:=⟨by kernel_rfl⟩
instance:Ent Tryz.prog 387:=⟨by kernel_rfl⟩
instance:Ent Tryz.prog 388:=⟨by kernel_rfl⟩
instance:Ent Tryz.prog 389:=⟨by kernel_rfl⟩
instance:Ent Tryz.prog 405:=⟨by kernel_rfl⟩
instance:Ent Tryz.prog 406:=⟨by kernel_rfl⟩
instance:Ent Tryz.prog 407:=⟨by kernel_rfl⟩
theorem Tryz_mixed:Tryz.prog.follows .mixedOrders=true:=by kernel_rfl
end Go.Dr
namespace Go.Dr
def isLetter (c:Int):Bool:=decide (97≤c)&&decide (c≤122)
def isInside (c:Int):Bool:=isLetter c||(decide (48≤c)&&decide (c≤57))||decide (c=45)
def valueB (s:ByteArray):Bool:=s.data.toList.all (fun c=>isInside c.toNat)&&decide (1≤s.size)&&decide (s.size≤15)
def nameB (s:ByteArray):Bool:=valueB s&&(match s.data.toList with|c::_=>isLetter c.toNat|[]=>false)
def starS:ByteArray:=⟨#[42]⟩
def noS:ByteArray:=⟨#[]⟩
def ltS (a b:ByteArray):Bool:=Op.bytesLess a.data.toList b.data.toList
def riseL (a b:Label) (star:Bool):Bool:=ltS a.key b.key||(star&&decide (a.key=b.key)&&ltS a.value b.value)
def oneL (star:Bool) (l:Label):Bool:=nameB l.key&&(valueB l.value||(star&&decide (l.value=starS)))
def rowL (star:Bool):Option Label→List Label→Bool
 | _,[]=>true
 | p,l::r=>oneL star l&&(match p with|some a=>riseL a l star|none=>true)&&rowL star (some l) r
def checkL (star:Bool) (l:List Label):Int:=if decide (l.length≤6)&&rowL star none l then 0 else 2
def valuedB (k:Int):Bool:=decide (k=1)||decide (k=2)
def oneT (t:Term):Bool:=decide (1≤t.kind)&&decide (t.kind≤4)&&nameB t.key&&(if valuedB t.kind then valueB t.value else decide (t.value=noS))
def checkT (l:List Term):Int:=if decide (l.length≤6)&&l.all oneT then 0 else 2
def keyIs (key:ByteArray) (l:Label):Bool:=decide (l.key=key)
def getL (l:List Label) (key:ByteArray):ByteArray × Bool:=
 match l.find? (keyIs key) with
 | some x=>(x.value,true)
 | none=>(noS,false)
def holdsT (t:Term) (l:List Label):Bool:=
 if t.kind=1 then (getL l t.key).2&&decide ((getL l t.key).1=t.value)
 else if t.kind=2 then !(getL l t.key).2||!decide ((getL l t.key).1=t.value)
 else if t.kind=3 then (getL l t.key).2
 else !(getL l t.key).2
def holdsB (ts:List Term) (l:List Label):Bool:=ts.all (fun t=>holdsT t l)
def bears1 (t b:Label):Bool:=decide (b.key=t.key)&&(decide (b.value=t.value)||decide (b.value=starS))
def bearsB (bears taints:List Label):Bool:=taints.all (fun t=>bears.any (bears1 t))
def cmpS (a b:ByteArray):Int:=Lib.compareBytes a.data.toList b.data.toList
theorem drop_at {α:Type} {l:List α} {k:Nat} (h:k < l.length):∃ x,l[k]?=some x∧l.drop k=x::l.drop (k+1):=
 ⟨l[k],List.getElem?_eq_getElem h,List.drop_eq_getElem_cons h⟩
theorem dlt {a b:Nat} (h:decide ((a:Int) < (b:Int))=true):a < b:=by simpa using h
theorem dnlt {a b:Nat} (h:decide ((a:Int) < (b:Int))=false):b≤a:=by simpa using h
end Go.Dr
namespace Go.Dr
open Go.Proofs
set_option maxRecDepth 20000
set_option linter.unusedSimpArgs false
set_option linter.unusedVariables false
theorem r3_letter {S:SHeap} (c:Int):FnV Tryz.prog 293 #[.int .u8 c] S (.bool (isLetter c)):=by
 (refine Fn.enter (args:=[.int .u8 c]) Tryz.func293 rfl Tryz.ntmps293 rfl ?_;intro w0)
 repeat' (first|(refine Walk ?_;intros)|refine JC.block ?_|(refine JO.guard rfl rfl rfl rfl ?_ ?_<;>intro _)|(refine JC.cond rfl ?_ ?_<;>intro _))
 all_goals (refine JX.ret1 Tryz.results293 (ResV.tmp rfl) (List.nil_sublist _) ?_;exact ⟨rfl,by (first|((simp only [isLetter, *,Bool.and_true,Bool.true_and,Bool.false_and,Bool.and_false,Bool.or_true,Bool.true_or,Bool.false_or,Bool.or_false,Bool.not_true,Bool.not_false])<;>rfl)|(simp only [isLetter, *,Bool.and_true,Bool.true_and,Bool.false_and,Bool.and_false,Bool.or_true,Bool.true_or,Bool.false_or,Bool.or_false,Bool.not_true,Bool.not_false];done)|(simp [isLetter, *];done)|(simp_all [isLetter];done)|(simp_all [isLetter];intros;omega)|(simp_all [isLetter];omega))⟩)
theorem r3_inside {S:SHeap} (c:Int):FnV Tryz.prog 324 #[.int .u8 c] S (.bool (isInside c)):=by
 (refine Fn.enter (args:=[.int .u8 c]) Tryz.func324 rfl Tryz.ntmps324 rfl ?_;intro w0)
 repeat (first|(refine Walk ?_;intros)|refine JC.block ?_)
 (refine JO.eff rfl rfl rfl (JEff.callV rfl (r3_letter c) rfl ?_);intro _ _)
 repeat' (first|(refine Walk ?_;intros)|refine JC.block ?_|(refine JO.guard rfl rfl rfl rfl ?_ ?_<;>intro _)|(refine JC.cond rfl ?_ ?_<;>intro _))
 all_goals (refine JX.ret1 Tryz.results324 (ResV.tmp rfl) (List.nil_sublist _) ?_;exact ⟨rfl,by (first|((simp only [isInside, *,Bool.and_true,Bool.true_and,Bool.false_and,Bool.and_false,Bool.or_true,Bool.true_or,Bool.false_or,Bool.or_false,Bool.not_true,Bool.not_false])<;>rfl)|(simp only [isInside, *,Bool.and_true,Bool.true_and,Bool.false_and,Bool.and_false,Bool.or_true,Bool.true_or,Bool.false_or,Bool.or_false,Bool.not_true,Bool.not_false];done)|(simp [isInside, *];done)|(simp_all [isInside];done)|(simp_all [isInside];intros;omega)|(simp_all [isInside];omega))⟩)
theorem r3_Value {S:SHeap} (s:ByteArray) (hs:s.size≤big):FnV Tryz.prog 292 #[.string s] S (.bool (valueB s)):=by
 unfold big at hs
 (refine Fn.enter (args:=[.string s]) Tryz.func292 rfl Tryz.ntmps292 rfl ?_;intro w0)
 repeat (first|(refine Walk ?_;intros)|refine JC.block ?_)
 refine JC.loop (σ:=SHeap × Nat) (fun q=>q.1) (fun _=>[]) (fun q=>[(0,.string s),(3,.int .i64 q.2)]) (fun q=>q.2≤s.size∧(s.data.toList.drop q.2).all (fun c=>isInside c.toNat)=s.data.toList.all (fun c=>isInside c.toNat)) (fun q=>s.size - q.2) (S,0) ⟨Nat.zero_le _,rfl⟩ rfl rfl (by exact sba) ?_
 rintro ⟨S1,k⟩ ⟨hk,hi⟩
 dsimp only at hk hi ⊢
 repeat (first|(refine Walk ?_;intros)|refine JC.block ?_)
 refine JC.cond rfl (fun hc=>?_) (fun hc=>?_)
 ·have hk':=dlt hc
  obtain ⟨x,hx,hd⟩:=drop_at (l:=s.data.toList) (k:=k) (by simpa using hk')
  rw [hd,List.all_cons] at hi
  repeat (first|(refine Walk ?_;intros)|refine JC.block ?_)
  (refine JO.eff rfl rfl rfl (JEff.callV rfl (r3_inside _) rfl ?_);intro _ _)
  repeat (first|(refine Walk ?_;intros)|refine JC.block ?_)
  refine JC.cond rfl (fun h1=>?_) (fun h1=>?_)
  ·have h1:isInside x.toNat=false:=by simpa using h1
   rw [h1,Bool.false_and] at hi
   repeat (first|(refine Walk ?_;intros)|refine JC.block ?_)
   refine JX.ret1 Tryz.results292 (ResV.tmp rfl) (List.nil_sublist _) ?_
   exact ⟨rfl,by simp [valueB,← hi]⟩
  ·have h1:isInside x.toNat=true:=by simpa using h1
   rw [h1,Bool.true_and] at hi
   repeat (first|(refine Walk ?_;intros)|refine JC.block ?_)
   exact JX.round (_,k+1) ⟨hk',hi⟩ (by simp;omega) rfl rfl (by exact sba)
 ·have hk':=dnlt hc
  rw [List.drop_eq_nil_of_le (by simpa using hk')] at hi
  repeat' (first|(refine Walk ?_;intros)|refine JC.block ?_|(refine JO.guard rfl rfl rfl rfl ?_ ?_<;>intro _)|(refine JC.cond rfl ?_ ?_<;>intro _))
  all_goals (refine JX.ret1 Tryz.results292 (ResV.tmp rfl) (List.nil_sublist _) ?_;refine ⟨rfl,?_⟩;rw [show valueB s=(decide (1≤s.size)&&decide (s.size≤15)) from by simp [valueB,← hi]])
  all_goals (congr 1;rw [Bool.eq_iff_iff];simp only [decide_eq_true_eq,decide_eq_false_iff_not,Bool.and_eq_true,Bool.false_eq_true,false_iff] at *;omega)
theorem r3_Name {S:SHeap} (s:ByteArray) (hs:s.size≤big):FnV Tryz.prog 237 #[.string s] S (.bool (nameB s)):=by
 (refine Fn.enter (args:=[.string s]) Tryz.func237 rfl Tryz.ntmps237 rfl ?_;intro w0)
 repeat (first|(refine Walk ?_;intros)|refine JC.block ?_)
 (refine JO.eff rfl rfl rfl (JEff.callV rfl (r3_Value s hs) rfl ?_);intro _ _)
 repeat (first|(refine Walk ?_;intros)|refine JC.block ?_)
 refine JO.guard rfl rfl rfl rfl (fun h1=>?_) (fun h1=>?_)
 ·obtain ⟨x,hx⟩:∃ x,s.data.toList[(0:Int).toNat]?=some x:=by
   simp [valueB] at h1
   exact ⟨s.data.toList[0]'(by simp;omega),List.getElem?_eq_getElem (by simp;omega)⟩
  repeat (first|(refine Walk ?_;intros)|refine JC.block ?_)
  (refine JO.eff rfl rfl rfl (JEff.callV rfl (r3_letter _) rfl ?_);intro _ _)
  repeat (first|(refine Walk ?_;intros)|refine JC.block ?_)
  refine JX.ret1 Tryz.results237 (ResV.tmp rfl) (List.nil_sublist _) ?_
  refine ⟨rfl,?_⟩
  have hx':s.data.toList[0]?=some x:=hx
  unfold nameB
  rw [h1]
  cases hl:s.data.toList with
  | nil=>rw [hl] at hx';cases hx'
  | cons y ys=>rw [hl] at hx';cases hx';simp
 ·repeat (first|(refine Walk ?_;intros)|refine JC.block ?_)
  refine JX.ret1 Tryz.results237 (ResV.tmp rfl) (List.nil_sublist _) ?_
  exact ⟨rfl,by simp [nameB,h1]⟩
theorem r3_rises {S:SHeap} {u v:Value} {a b:Label} (star:Bool) (hu:rLabel.V S u a) (hv:rLabel.V S v b):FnV Tryz.prog 375 #[u,v,.bool star] S (.bool (riseL a b star)):=by
 (refine Fn.enter (args:=[u,v,.bool star]) Tryz.func375 rfl Tryz.ntmps375 rfl ?_;intro w0)
 repeat (first|(refine Walk ?_;intros)|refine JC.block ?_)
 (refine JO.eff rfl rfl rfl (JEff.boxS rfl (by exact vta) nna rfl ?_);intro S1 p l1 hp)
 (refine JO.eff rfl rfl rfl (JEff.boxS rfl (by exact vta) nna rfl ?_);intro S2 q l2 hq)
 repeat' (first|(refine Walk ?_;intros)|refine JC.block ?_|(refine JO.guard rfl rfl rfl rfl ?_ ?_<;>intro _)|(refine JC.cond rfl ?_ ?_<;>intro _))
 all_goals (refine JX.ret1 Tryz.results375 (ResV.tmp rfl) (List.nil_sublist _) ?_;exact ⟨rfl,by (first|((simp only [riseL,ltS, *,Bool.and_true,Bool.true_and,Bool.false_and,Bool.and_false,Bool.or_true,Bool.true_or,Bool.false_or,Bool.or_false,Bool.not_true,Bool.not_false])<;>rfl)|(simp only [riseL,ltS, *,Bool.and_true,Bool.true_and,Bool.false_and,Bool.and_false,Bool.or_true,Bool.true_or,Bool.false_or,Bool.or_false,Bool.not_true,Bool.not_false];done)|(simp [riseL,ltS, *];done)|(simp_all [riseL,ltS];done)|(simp_all [riseL,ltS];intros;omega)|(simp_all [riseL,ltS];omega))⟩)
theorem r3_valued {S:SHeap} (c:Int):FnV Tryz.prog 369 #[.int .i64 c] S (.bool (valuedB c)):=by
 (refine Fn.enter (args:=[.int .i64 c]) Tryz.func369 rfl Tryz.ntmps369 rfl ?_;intro w0)
 repeat' (first|(refine Walk ?_;intros)|refine JC.block ?_|(refine JO.guard rfl rfl rfl rfl ?_ ?_<;>intro _)|(refine JC.cond rfl ?_ ?_<;>intro _))
 all_goals (refine JX.ret1 Tryz.results369 (ResV.tmp rfl) (List.nil_sublist _) ?_;exact ⟨rfl,by (first|((simp only [valuedB, *,Bool.and_true,Bool.true_and,Bool.false_and,Bool.and_false,Bool.or_true,Bool.true_or,Bool.false_or,Bool.or_false,Bool.not_true,Bool.not_false])<;>rfl)|(simp only [valuedB, *,Bool.and_true,Bool.true_and,Bool.false_and,Bool.and_false,Bool.or_true,Bool.true_or,Bool.false_or,Bool.or_false,Bool.not_true,Bool.not_false];done)|(simp [valuedB, *];done)|(simp_all [valuedB];done)|(simp_all [valuedB];intros;omega)|(simp_all [valuedB];omega))⟩)
theorem r3_Get {S:SHeap} {v:Value} {l:List Label} {key:ByteArray} (hv:(rSlice 32 rLabel).V S v l):FnV Tryz.prog 385 #[v,.string key] S (.tuple #[.string (getL l key).1,.bool (getL l key).2]):=by
 obtain ⟨a,c,rfl,_,_,hb,_⟩:=V_slice.1 hv
 unfold big at hb
 (refine Fn.enter (args:=[.slice a l.length c,.string key]) Tryz.func385 rfl Tryz.ntmps385 rfl ?_;intro w0)
 repeat (first|(refine Walk ?_;intros)|refine JC.block ?_)
 refine JC.loop (σ:=Nat) (fun _=>S) (fun _=>[]) (fun k=>[(0,.slice a l.length c),(1,.string key),(6,.int .i64 k)]) (fun k=>k≤l.length∧(l.drop k).find? (keyIs key)=l.find? (keyIs key)) (fun k=>l.length - k) 0 ⟨Nat.zero_le _,rfl⟩ rfl rfl (by exact sba) ?_
 rintro k ⟨hk,hi⟩
 repeat (first|(refine Walk ?_;intros)|refine JC.block ?_)
 refine JC.cond rfl (fun hc=>?_) (fun hc=>?_)
 ·have hk':=dlt hc
  obtain ⟨x,hx,hd⟩:=drop_at hk'
  rw [hd,List.find?_cons] at hi
  repeat (first|(refine Walk ?_;intros)|refine JC.block ?_)
  refine JC.cond rfl (fun h1=>?_) (fun h1=>?_)
  ·have h1:keyIs key x=true:=h1
   rw [h1] at hi
   repeat (first|(refine Walk ?_;intros)|refine JC.block ?_)
   refine JX.ret2 Tryz.results385 (ResV.tmp rfl) (ResV.tmp rfl) (List.nil_sublist _) ?_
   exact ⟨rfl,by simp [getL,← hi]⟩
  ·have h1:keyIs key x=false:=h1
   rw [h1] at hi
   repeat (first|(refine Walk ?_;intros)|refine JC.block ?_)
   exact JX.round (k+1) ⟨hk',hi⟩ (by omega) rfl rfl (by exact sba)
 ·have hk':=dnlt hc
  rw [List.drop_eq_nil_of_le hk'] at hi
  repeat (first|(refine Walk ?_;intros)|refine JC.block ?_)
  refine JX.ret2 Tryz.results385 (ResV.tmp rfl) (ResV.tmp rfl) (List.nil_sublist _) ?_
  exact ⟨rfl,by simp [getL,← hi,noS]⟩
theorem r3_holds {S:SHeap} {u v:Value} {t:Term} {l:List Label} (hu:rTerm.V S u t) (hv:(rSlice 32 rLabel).V S v l):FnV Tryz.prog 373 #[u,v] S (.bool (holdsT t l)):=by
 (refine Fn.enter (args:=[u,v]) Tryz.func373 rfl Tryz.ntmps373 rfl ?_;intro w0)
 repeat (first|(refine Walk ?_;intros)|refine JC.block ?_)
 (refine JO.eff rfl rfl rfl (JEff.boxS rfl (by exact vta) nna rfl ?_);intro S1 p l1 hp)
 repeat (first|(refine Walk ?_;intros)|refine JC.block ?_)
 (refine JO.eff rfl rfl rfl (JEff.callV rfl (r3_Get (by exact vta)) rfl ?_);intro _ _)
 repeat' (first|(refine Walk ?_;intros)|refine JC.block ?_|(refine JO.guard rfl rfl rfl rfl ?_ ?_<;>intro _)|(refine JC.cond rfl ?_ ?_<;>intro _))
 all_goals (refine JX.ret1 Tryz.results373 (ResV.tmp rfl) (List.nil_sublist _) ?_;exact ⟨rfl,by (first|((simp only [holdsT, *,Bool.and_true,Bool.true_and,Bool.false_and,Bool.and_false,Bool.or_true,Bool.true_or,Bool.false_or,Bool.or_false,Bool.not_true,Bool.not_false])<;>rfl)|(simp only [holdsT, *,Bool.and_true,Bool.true_and,Bool.false_and,Bool.and_false,Bool.or_true,Bool.true_or,Bool.false_or,Bool.or_false,Bool.not_true,Bool.not_false];done)|(simp [holdsT, *];done)|(simp_all [holdsT];done)|(simp_all [holdsT];intros;omega)|(simp_all [holdsT];omega))⟩)
theorem r3_Holds {S:SHeap} {u v:Value} {ts:List Term} {l:List Label} (hu:(rSlice 40 rTerm).V S u ts) (hv:(rSlice 32 rLabel).V S v l):FnV Tryz.prog 359 #[u,v] S (.bool (holdsB ts l)):=by
 obtain ⟨a,c,rfl,_,_,hb,_⟩:=V_slice.1 hu
 unfold big at hb
 (refine Fn.enter (args:=[.slice a ts.length c,v]) Tryz.func359 rfl Tryz.ntmps359 rfl ?_;intro w0)
 repeat (first|(refine Walk ?_;intros)|refine JC.block ?_)
 refine JC.loop (σ:=SHeap × Nat) (fun q=>q.1) (fun _=>[]) (fun q=>[(0,.slice a ts.length c),(1,v),(5,.int .i64 q.2)]) (fun q=>S.le q.1∧q.2≤ts.length∧(ts.drop q.2).all (fun t=>holdsT t l)=ts.all (fun t=>holdsT t l)) (fun q=>ts.length - q.2) (S,0) ⟨SHeap.le.refl _,Nat.zero_le _,rfl⟩ rfl rfl (by exact sba) ?_
 rintro ⟨S1,k⟩ ⟨hl1,hk,hi⟩
 dsimp only at hl1 hk hi ⊢
 repeat (first|(refine Walk ?_;intros)|refine JC.block ?_)
 refine JC.cond rfl (fun hc=>?_) (fun hc=>?_)
 ·have hk':=dlt hc
  obtain ⟨x,hx,hd⟩:=drop_at hk'
  rw [hd,List.all_cons] at hi
  repeat (first|(refine Walk ?_;intros)|refine JC.block ?_)
  (refine JO.eff rfl rfl rfl (JEff.callV rfl (r3_holds (t:=x) (by exact vta) (by exact vta)) rfl ?_);intro _ _)
  repeat (first|(refine Walk ?_;intros)|refine JC.block ?_)
  refine JC.cond rfl (fun h1=>?_) (fun h1=>?_)
  ·have h1:holdsT x l=false:=by simpa using h1
   rw [h1,Bool.false_and] at hi
   repeat (first|(refine Walk ?_;intros)|refine JC.block ?_)
   refine JX.ret1 Tryz.results359 (ResV.tmp rfl) (List.nil_sublist _) ?_
   exact ⟨rfl,by simp [holdsB,← hi]⟩
  ·have h1:holdsT x l=true:=by simpa using h1
   rw [h1,Bool.true_and] at hi
   repeat (first|(refine Walk ?_;intros)|refine JC.block ?_)
   exact JX.round (_,k+1) ⟨by exact lea,hk',hi⟩ (by simp;omega) rfl rfl (by exact sba)
 ·have hk':=dnlt hc
  rw [List.drop_eq_nil_of_le hk'] at hi
  repeat (first|(refine Walk ?_;intros)|refine JC.block ?_)
  refine JX.ret1 Tryz.results359 (ResV.tmp rfl) (List.nil_sublist _) ?_
  exact ⟨rfl,by simp [holdsB,← hi]⟩
theorem r3_CheckTerms {S:SHeap} {u:Value} {ts:List Term} (hu:(rSlice 40 rTerm).V S u ts):FnV Tryz.prog 348 #[u] S (.int .i64 (checkT ts)):=by
 obtain ⟨a,c,rfl,_,_,hb,_⟩:=V_slice.1 hu
 unfold big at hb
 (refine Fn.enter (args:=[.slice a ts.length c]) Tryz.func348 rfl Tryz.ntmps348 rfl ?_;intro w0)
 repeat (first|(refine Walk ?_;intros)|refine JC.block ?_)
 refine JC.cond rfl (fun h6=>?_) (fun h6=>?_)
 ·repeat (first|(refine Walk ?_;intros)|refine JC.block ?_)
  refine JX.ret1 Tryz.results348 (ResV.tmp rfl) (List.nil_sublist _) ?_
  have h6:¬ ts.length≤6:=by simp at h6;omega
  exact ⟨rfl,by simp [checkT,h6]⟩
 have h6:ts.length≤6:=by simp at h6;omega
 repeat (first|(refine Walk ?_;intros)|refine JC.block ?_)
 refine JC.loop (σ:=SHeap × Nat) (fun q=>q.1) (fun _=>[]) (fun q=>[(0,.slice a ts.length c),(3,.int .i64 q.2)]) (fun q=>S.le q.1∧q.2≤ts.length∧(ts.drop q.2).all oneT=ts.all oneT) (fun q=>ts.length - q.2) (S,0) ⟨SHeap.le.refl _,Nat.zero_le _,rfl⟩ rfl rfl (by exact sba) ?_
 rintro ⟨S1,k⟩ ⟨hl1,hk,hi⟩
 dsimp only at hl1 hk hi ⊢
 repeat (first|(refine Walk ?_;intros)|refine JC.block ?_)
 refine JC.cond rfl (fun hc=>?_) (fun hc=>?_)
 ·have hk':=dlt hc
  obtain ⟨x,hx,hd⟩:=drop_at hk'
  rw [hd,List.all_cons] at hi
  repeat (first|(refine Walk ?_;intros)|refine JC.block ?_)
  (refine JO.eff rfl rfl rfl (JEff.alloc rfl ?_);intro b hb);(repeat (first|(refine Walk ?_;intros)|refine JC.block ?_));(refine JO.eff rfl rfl rfl (JEff.storeW rfl rfl (by exact vta) nna pma rfl (by intro l hl;cases hl) ?_));(refine JO.freezeV (by exact vta) nna hb (by intro l hl;cases hl) ?_;intro S2 l2 h2)
  repeat' (first|(refine Walk ?_;intros)|refine JC.block ?_|(refine JO.eff rfl rfl rfl (JEff.callV rfl (r3_Name _ (by assumption)) rfl ?_);intro _ _)|(refine JO.eff rfl rfl rfl (JEff.callV rfl (r3_valued _) rfl ?_);intro _ _)|(refine JO.eff rfl rfl rfl (JEff.callV rfl (r3_Value _ (by assumption)) rfl ?_);intro _ _)|(refine JO.guard rfl rfl rfl rfl ?_ ?_<;>intro _)|(refine JC.cond rfl ?_ ?_<;>intro _))
  all_goals first
   | (refine JX.ret1 Tryz.results348 (ResV.tmp rfl) (List.nil_sublist _) ?_;refine ⟨rfl,?_⟩;have h1:oneT x=false:=(by (first|((simp only [oneT,noS, *,Bool.and_true,Bool.true_and,Bool.false_and,Bool.and_false,Bool.or_true,Bool.true_or,Bool.false_or,Bool.or_false,Bool.not_true,Bool.not_false])<;>rfl)|(simp only [oneT,noS, *,Bool.and_true,Bool.true_and,Bool.false_and,Bool.and_false,Bool.or_true,Bool.true_or,Bool.false_or,Bool.or_false,Bool.not_true,Bool.not_false];done)|(simp [oneT,noS, *];done)|(simp_all [oneT,noS];done)|(simp_all [oneT,noS];intros;omega)|(simp_all [oneT,noS];omega)));rw [h1,Bool.false_and] at hi;simp [checkT,← hi])
   | (have h1:oneT x=true:=(by (first|((simp only [oneT,noS, *,Bool.and_true,Bool.true_and,Bool.false_and,Bool.and_false,Bool.or_true,Bool.true_or,Bool.false_or,Bool.or_false,Bool.not_true,Bool.not_false])<;>rfl)|(simp only [oneT,noS, *,Bool.and_true,Bool.true_and,Bool.false_and,Bool.and_false,Bool.or_true,Bool.true_or,Bool.false_or,Bool.or_false,Bool.not_true,Bool.not_false];done)|(simp [oneT,noS, *];done)|(simp_all [oneT,noS];done)|(simp_all [oneT,noS];intros;omega)|(simp_all [oneT,noS];omega)));rw [h1,Bool.true_and] at hi;exact JX.round (_,k+1) ⟨by exact lea,hk',hi⟩ (by simp;omega) rfl rfl (by exact sba))
 ·have hk':=dnlt hc
  rw [List.drop_eq_nil_of_le hk'] at hi
  repeat (first|(refine Walk ?_;intros)|refine JC.block ?_)
  refine JX.ret1 Tryz.results348 (ResV.tmp rfl) (List.nil_sublist _) ?_
  exact ⟨rfl,by simp [checkT,← hi,h6]⟩
end Go.Dr
namespace Go.Dr
open Go.Proofs
set_option maxRecDepth 20000
set_option linter.unusedSimpArgs false
set_option linter.unusedVariables false
def prevL {α:Type} (l:List α) (k:Nat):Option α:=if k=0 then none else l[k - 1]?
theorem r3_row {S:SHeap} {u:Value} {l:List Label} (star:Bool) (hu:(rSlice 32 rLabel).V S u l):FnV Tryz.prog 368 #[u,.bool star] S (.int .i64 (checkL star l)):=by
 obtain ⟨a,c,rfl,_,_,hb,_⟩:=V_slice.1 hu
 unfold big at hb
 (refine Fn.enter (args:=[.slice a l.length c,.bool star]) Tryz.func368 rfl Tryz.ntmps368 rfl ?_;intro w0)
 repeat (first|(refine Walk ?_;intros)|refine JC.block ?_)
 refine JC.cond rfl (fun h6=>?_) (fun h6=>?_)
 ·repeat (first|(refine Walk ?_;intros)|refine JC.block ?_)
  refine JX.ret1 Tryz.results368 (ResV.tmp rfl) (List.nil_sublist _) ?_
  have h6:¬ l.length≤6:=by simp at h6;omega
  exact ⟨rfl,by simp [checkL,h6]⟩
 have h6:l.length≤6:=by simp at h6;omega
 repeat (first|(refine Walk ?_;intros)|refine JC.block ?_)
 refine JC.loop (σ:=SHeap × Nat) (fun q=>q.1) (fun _=>[]) (fun q=>[(0,.slice a l.length c),(1,.bool star),(5,.int .i64 q.2)]) (fun q=>S.le q.1∧q.2≤l.length∧rowL star (prevL l q.2) (l.drop q.2)=rowL star none l) (fun q=>l.length - q.2) (S,0) ⟨SHeap.le.refl _,Nat.zero_le _,rfl⟩ rfl rfl (by exact sba) ?_
 rintro ⟨S1,k⟩ ⟨hl1,hk,hi⟩
 dsimp only at hl1 hk hi ⊢
 repeat (first|(refine Walk ?_;intros)|refine JC.block ?_)
 refine JC.cond rfl (fun hc=>?_) (fun hc=>?_)
 ·have hk':=dlt hc
  obtain ⟨x,hx,hd⟩:=drop_at hk'
  rw [hd] at hi;simp only [rowL] at hi
  have hnext:prevL l (k+1)=some x:=by simp [prevL,hx]
  repeat' (first|(refine Walk ?_;intros)|refine JC.block ?_|(refine JO.eff rfl rfl rfl (JEff.callV rfl (r3_Name _ (by assumption)) rfl ?_);intro _ _)|(refine JO.eff rfl rfl rfl (JEff.callV rfl (r3_Value _ (by assumption)) rfl ?_);intro _ _)|(refine JO.guard rfl rfl rfl rfl ?_ ?_<;>intro _)|(refine JC.cond rfl ?_ ?_<;>intro _))
  all_goals first
   | (refine JX.ret1 Tryz.results368 (ResV.tmp rfl) (List.nil_sublist _) ?_;refine ⟨rfl,?_⟩;have h1:oneL star x=false:=(by (first|((simp only [oneL,starS, *,Bool.and_true,Bool.true_and,Bool.false_and,Bool.and_false,Bool.or_true,Bool.true_or,Bool.false_or,Bool.or_false,Bool.not_true,Bool.not_false])<;>rfl)|(simp only [oneL,starS, *,Bool.and_true,Bool.true_and,Bool.false_and,Bool.and_false,Bool.or_true,Bool.true_or,Bool.false_or,Bool.or_false,Bool.not_true,Bool.not_false];done)|(simp [oneL,starS, *];done)|(simp_all [oneL,starS];done)|(simp_all [oneL,starS];intros;omega)|(simp_all [oneL,starS];omega)));rw [h1,Bool.false_and,Bool.false_and] at hi;simp [checkL,← hi];done)
   | skip
  all_goals
   have h1:oneL star x=true:=by (first|((simp only [oneL,starS, *,Bool.and_true,Bool.true_and,Bool.false_and,Bool.and_false,Bool.or_true,Bool.true_or,Bool.false_or,Bool.or_false,Bool.not_true,Bool.not_false])<;>rfl)|(simp only [oneL,starS, *,Bool.and_true,Bool.true_and,Bool.false_and,Bool.and_false,Bool.or_true,Bool.true_or,Bool.false_or,Bool.or_false,Bool.not_true,Bool.not_false];done)|(simp [oneL,starS, *];done)|(simp_all [oneL,starS];done)|(simp_all [oneL,starS];intros;omega)|(simp_all [oneL,starS];omega))
   rw [h1,Bool.true_and] at hi
   refine JC.drawT [0,1,2,3,4,5,6,7,8,9,10,11,12,13,14,15] [0,1,2,3,4,5,6,7,8,9,10,11,12,14,15] [] Tryz_mixed (by decide +kernel) (by simp [MEnt.own]) ?_
   rcases Nat.eq_zero_or_pos k with h0|h0
   ·subst h0
    repeat (first|(refine Walk ?_;intros)|refine JC.block ?_)
    simp only [prevL,if_true,Bool.true_and] at hi
    exact JX.round (_,0+1) ⟨by exact lea,hk',by rw [hnext];exact hi⟩ (by simp;omega) rfl rfl (by exact sba)
   ·obtain ⟨y,hy⟩:∃ y,l[((k:Int) - 1).toNat]?=some y:=by
     have:((k:Int) - 1).toNat < l.length:=by omega
     exact ⟨_,List.getElem?_eq_getElem this⟩
    have hp:prevL l k=some y:=by
     rw [prevL,if_neg (by omega),← hy];congr 1;omega
    rw [hp] at hi
    repeat (first|(refine Walk ?_;intros)|refine JC.block ?_)
    refine JO.guard rfl rfl rfl rfl (fun hg=>?_) (fun hg=>?_)
    ·repeat (first|(refine Walk ?_;intros)|refine JC.block ?_)
     (refine JO.eff rfl rfl rfl (JEff.callV rfl (r3_rises star (by exact vta) (by exact vta)) rfl ?_);intro _ _)
     repeat (first|(refine Walk ?_;intros)|refine JC.block ?_)
     refine JC.cond rfl (fun h2=>?_) (fun h2=>?_)
     ·have h2:riseL y x star=false:=by simpa using h2
      repeat (first|(refine Walk ?_;intros)|refine JC.block ?_)
      refine JX.ret1 Tryz.results368 (ResV.tmp rfl) (List.nil_sublist _) ?_
      simp only [h2,Bool.false_and] at hi
      exact ⟨rfl,by simp [checkL,← hi]⟩
     ·have h2:riseL y x star=true:=by simpa using h2
      repeat (first|(refine Walk ?_;intros)|refine JC.block ?_)
      simp only [h2,Bool.true_and] at hi
      exact JX.round (_,k+1) ⟨by exact lea,hk',by rw [hnext];exact hi⟩ (by simp;omega) rfl rfl (by exact sba)
    ·exact absurd hg (by simp;omega)
 ·have hk':=dnlt hc
  rw [List.drop_eq_nil_of_le hk'] at hi
  repeat (first|(refine Walk ?_;intros)|refine JC.block ?_)
  refine JX.ret1 Tryz.results368 (ResV.tmp rfl) (List.nil_sublist _) ?_
  exact ⟨rfl,by simp only [rowL] at hi;simp [checkL,← hi,h6]⟩
theorem r3_Check {S:SHeap} {u:Value} {l:List Label} (hu:(rSlice 32 rLabel).V S u l):FnV Tryz.prog 347 #[u] S (.int .i64 (checkL false l)):=by
 (refine Fn.enter (args:=[u]) Tryz.func347 rfl Tryz.ntmps347 rfl ?_;intro w0)
 repeat' (first|(refine Walk ?_;intros)|refine JC.block ?_|(refine JO.eff rfl rfl rfl (JEff.callV rfl (r3_row false (by exact vta)) rfl ?_);intro _ _)|(refine JO.guard rfl rfl rfl rfl ?_ ?_<;>intro _)|(refine JC.cond rfl ?_ ?_<;>intro _))
 refine JX.ret1 Tryz.results347 (ResV.tmp rfl) (List.nil_sublist _) ?_
 exact ⟨rfl,rfl⟩
theorem r3_CheckBears {S:SHeap} {u:Value} {l:List Label} (hu:(rSlice 32 rLabel).V S u l):FnV Tryz.prog 349 #[u] S (.int .i64 (checkL true l)):=by
 (refine Fn.enter (args:=[u]) Tryz.func349 rfl Tryz.ntmps349 rfl ?_;intro w0)
 repeat' (first|(refine Walk ?_;intros)|refine JC.block ?_|(refine JO.eff rfl rfl rfl (JEff.callV rfl (r3_row true (by exact vta)) rfl ?_);intro _ _)|(refine JO.guard rfl rfl rfl rfl ?_ ?_<;>intro _)|(refine JC.cond rfl ?_ ?_<;>intro _))
 refine JX.ret1 Tryz.results349 (ResV.tmp rfl) (List.nil_sublist _) ?_
 exact ⟨rfl,rfl⟩
theorem r3_Bears {S:SHeap} {u v:Value} {l ts:List Label} (hu:(rSlice 32 rLabel).V S u l) (hv:(rSlice 32 rLabel).V S v ts):FnV Tryz.prog 360 #[u,v] S (.bool (bearsB l ts)):=by
 obtain ⟨a,c,rfl,_,_,hb,_⟩:=V_slice.1 hu
 obtain ⟨a2,c2,rfl,_,_,hb2,_⟩:=V_slice.1 hv
 unfold big at hb hb2
 (refine Fn.enter (args:=[.slice a l.length c,.slice a2 ts.length c2]) Tryz.func360 rfl Tryz.ntmps360 rfl ?_;intro w0)
 repeat (first|(refine Walk ?_;intros)|refine JC.block ?_)
 refine JC.loop (σ:=Nat) (fun _=>S) (fun _=>[]) (fun k=>[(0,.slice a l.length c),(1,.slice a2 ts.length c2),(5,.int .i64 k)]) (fun k=>k≤ts.length∧(ts.drop k).all (fun t=>l.any (bears1 t))=ts.all (fun t=>l.any (bears1 t))) (fun k=>ts.length - k) 0 ⟨Nat.zero_le _,rfl⟩ rfl rfl (by exact sba) ?_
 rintro k ⟨hk,hi⟩
 repeat (first|(refine Walk ?_;intros)|refine JC.block ?_)
 refine JC.cond rfl (fun hc=>?_) (fun hc=>?_)
 ·have hk':=dlt hc
  obtain ⟨t,ht,hd⟩:=drop_at hk'
  rw [hd,List.all_cons] at hi
  repeat (first|(refine Walk ?_;intros)|refine JC.block ?_)
  refine JC.loop (σ:=Nat × Bool) (fun _=>S) (fun _=>[]) (fun q=>[(0,.slice a l.length c),(1,.slice a2 ts.length c2),(5,.int .i64 k),(6,.bool q.2),(7,.int .i64 q.1)]) (fun q=>q.1≤l.length∧(q.2||(l.drop q.1).any (bears1 t))=l.any (bears1 t)) (fun q=>l.length - q.1) (0,false) ⟨Nat.zero_le _,by simp⟩ rfl rfl (by exact sba) ?_
  rintro ⟨j,is⟩ ⟨hj,hij⟩
  dsimp only at hj hij ⊢
  repeat (first|(refine Walk ?_;intros)|refine JC.block ?_)
  refine JC.cond rfl (fun hc2=>?_) (fun hc2=>?_)
  ·have hj':=dlt hc2
   obtain ⟨b,hb',hd2⟩:=drop_at hj'
   rw [hd2,List.any_cons] at hij
   repeat (first|(refine Walk ?_;intros)|refine JC.block ?_)
   refine JC.drawT [0,1,2,3,4,5,6,7,8,9,10,11,12,13,14,15,16,17,18,19,20,21,22,23,24,25,26,27,28,29,30,31,32,33,34,35] [0,1,2,3,4,5,6,7,8,9,10,11,12,13,14,15,16,17,18,19,20,21,22,23,24,25,26,27,28,29,30,31,32,33,34,35] [] Tryz_mixed (by decide +kernel) (by simp [MEnt.own]) ?_
   repeat' (first|(refine Walk ?_;intros)|refine JC.block ?_|(refine JO.guard rfl rfl rfl rfl ?_ ?_<;>intro _)|(refine JC.cond rfl ?_ ?_<;>intro _))
   all_goals (refine JX.round (j+1,is||bears1 t b) ⟨hj',by rw [← hij,Bool.or_assoc]⟩ (by simp;omega) rfl rfl ?_;refine ⟨rfl,rfl,rfl,?_,rfl,trivial⟩;simp only [Env.get?,cond];congr 2;clear hi hij;(first|((simp only [bears1,starS, *,Bool.and_true,Bool.true_and,Bool.false_and,Bool.and_false,Bool.or_true,Bool.true_or,Bool.false_or,Bool.or_false,Bool.not_true,Bool.not_false])<;>rfl)|(simp only [bears1,starS, *,Bool.and_true,Bool.true_and,Bool.false_and,Bool.and_false,Bool.or_true,Bool.true_or,Bool.false_or,Bool.or_false,Bool.not_true,Bool.not_false];done)|(simp [bears1,starS, *];done)|(simp_all [bears1,starS];done)|(simp_all [bears1,starS];intros;omega)|(simp_all [bears1,starS];omega)))
  ·have hj':=dnlt hc2
   rw [List.drop_eq_nil_of_le hj',List.any_nil,Bool.or_false] at hij
   subst hij
   repeat (first|(refine Walk ?_;intros)|refine JC.block ?_)
   refine JC.cond rfl (fun h1=>?_) (fun h1=>?_)
   ·have h1:l.any (bears1 t)=false:=by simpa using h1
    rw [h1,Bool.false_and] at hi
    repeat (first|(refine Walk ?_;intros)|refine JC.block ?_)
    refine JX.ret1 Tryz.results360 (ResV.tmp rfl) (List.nil_sublist _) ?_
    exact ⟨rfl,by simp [bearsB,← hi]⟩
   ·have h1:l.any (bears1 t)=true:=by simpa using h1
    rw [h1,Bool.true_and] at hi
    repeat (first|(refine Walk ?_;intros)|refine JC.block ?_)
    exact JX.round (k+1) ⟨hk',hi⟩ (by omega) rfl rfl (by exact sba)
 ·have hk':=dnlt hc
  rw [List.drop_eq_nil_of_le hk'] at hi
  repeat (first|(refine Walk ?_;intros)|refine JC.block ?_)
  refine JX.ret1 Tryz.results360 (ResV.tmp rfl) (List.nil_sublist _) ?_
  exact ⟨rfl,by simp [bearsB,← hi]⟩
end Go.Dr
namespace Go.Dr
def Qty:Int:=1099511627776
theorem dlt5 {k:Nat} (h:decide ((k:Int) < 5)=true):k < 5:=by have:=of_decide_eq_true h;omega
theorem dnlt5 {k:Nat} (h:decide ((k:Int) < 5)=false):5≤k:=by have:=of_decide_eq_false h;omega
def negB (x:Int):Bool:=decide (x < 0)
def overB (x:Int):Bool:=decide (Qty < x)
def addQ (l:List Int):Int × Int:=if l.any negB then (0,2) else if Qty < l.sum then (0,10) else (l.sum,0)
def checkV (v:List Int):Int:=if v.any negB then 2 else if v.any overB then 10 else 0
def at0 (v:List Int) (i:Nat):Int:=v.getD i 0
def colQ (l:List (List Int)) (i:Nat):Int × Int:=addQ (l.map (fun v=>at0 v i))
def plusV (l:List (List Int)):List Int × Int:=
 match (List.range 5).find? (fun i=>!decide ((colQ l i).2=0)) with
 | some i=>([0,0,0,0,0],(colQ l i).2)
 | none=>((List.range 5).map (fun i=>(colQ l i).1),0)
theorem sum_nn:∀ {l:List Int},l.any negB=false→0≤l.sum
 | [],_=>by simp
 | x::l,h=>by
  simp only [List.any_cons,Bool.or_eq_false_iff] at h
  have:=sum_nn h.2
  have h1:¬ x < 0:=by simpa [negB] using h.1
  simp only [List.sum_cons];omega
theorem any_drop {p:Int→Bool} {l:List Int} (h:l.any p=false) (k:Nat):(l.drop k).any p=false:=by
 rw [List.any_eq_false] at h ⊢
 exact fun x hx=>h x (List.mem_of_mem_drop hx)
theorem sum_take {l:List Int} (h:l.any negB=false) (k:Nat):(l.take k).sum≤l.sum:=by
 have h1:(l.take k).sum+(l.drop k).sum=l.sum:=by rw [← List.sum_append,List.take_append_drop]
 have h2:=sum_nn (any_drop h k)
 omega
theorem sum_take_nn {l:List Int} (h:l.any negB=false) (k:Nat):0≤(l.take k).sum:=by
 refine sum_nn ?_
 rw [List.any_eq_false] at h ⊢
 exact fun x hx=>h x (List.mem_of_mem_take hx)
theorem take_at {l:List Int} {k:Nat} {x:Int} (h:l[k]?=some x):(l.take (k+1)).sum=(l.take k).sum+x:=by
 rw [List.take_add_one,h];simp [List.sum_append]
theorem at_nn {l:List Int} (h:l.any negB=false) {k:Nat} {x:Int} (hx:l[k]?=some x):0≤x:=by
 rw [List.any_eq_false] at h
 have:=h x (List.mem_of_getElem? hx)
 simpa [negB] using this
theorem at0_some {v:List Int} {i:Nat} {x:Int} (h:v[i]?=some x):at0 v i=x:=by simp [at0,h]
theorem addQ_rng (l:List Int):Rng (addQ l).1∧((addQ l).2=0∨(addQ l).2=2∨(addQ l).2=10):=by
 unfold addQ Rng
 cases h:l.any negB with
 | true=>simp
 | false=>
  have:=sum_nn h
  simp only [Bool.false_eq_true,if_false]
  split
  ·simp
  ·rename_i h;unfold Qty at h;constructor
   ·constructor<;>dsimp only<;>omega
   ·simp
def colsTo (l:List (List Int)) (k:Nat):List Int:=(List.range k).map (fun i=>(colQ l i).1)++List.replicate (5 - k) 0
theorem colsTo_len (l:List (List Int)) {k:Nat} (h:k≤5):(colsTo l k).length=5:=by simp [colsTo];omega
theorem colsTo_rng (l:List (List Int)) (k:Nat):∀ x∈colsTo l k,Rng x:=by
 intro x hx
 rcases List.mem_append.1 hx with hx|hx
 ·obtain ⟨i,_,rfl⟩:=List.mem_map.1 hx
  exact (addQ_rng _).1
 ·rw [List.mem_replicate] at hx
  rw [hx.2];unfold Rng;omega
theorem colsTo_set (l:List (List Int)) {k:Nat} (h:k < 5):(colsTo l k).set k (colQ l k).1=colsTo l (k+1):=by
 unfold colsTo
 rw [List.set_append_right _ _ (by simp),List.range_succ,List.map_append]
 obtain ⟨j,hj⟩:∃ j,5 - k=j+1:=⟨5 - k - 1,by omega⟩
 rw [hj,show 5 - (k+1)=j by omega,List.replicate_succ]
 simp
def okTo (l:List (List Int)) (k:Nat):Prop:=∀ i,i < k→(colQ l i).2=0
theorem okTo_step {l:List (List Int)} {k:Nat} (h:okTo l k) (h1:(colQ l k).2=0):okTo l (k+1):=by
 intro i hi
 rcases Nat.lt_or_ge i k with h2|h2
 ·exact h i h2
 ·rw [show i=k by omega];exact h1
theorem plus_bad {l:List (List Int)} {k:Nat} (h:okTo l k) (hk:k < 5) (h1:¬ (colQ l k).2=0):plusV l=([0,0,0,0,0],(colQ l k).2):=by
 have:(List.range 5).find? (fun i=>!decide ((colQ l i).2=0))=some k:=by
  rw [List.find?_range_eq_some]
  exact ⟨by simpa using h1,by simpa using hk,fun j hj=>by simpa using h j hj⟩
 rw [plusV,this]
theorem plus_good {l:List (List Int)} (h:okTo l 5):plusV l=(colsTo l 5,0):=by
 have:(List.range 5).find? (fun i=>!decide ((colQ l i).2=0))=none:=by
  rw [List.find?_range_eq_none]
  exact fun j hj=>by simpa using h j hj
 rw [plusV,this]
 simp [colsTo]
theorem plusV_fine (l:List (List Int)):(plusV l).1.length=5∧∀ x∈(plusV l).1,Rng x:=by
 unfold plusV
 split
 ·exact ⟨rfl,fun x hx=>by unfold Rng;simp at hx;omega⟩
 ·refine ⟨by simp,fun x hx=>?_⟩
  obtain ⟨i,_,rfl⟩:=List.mem_map.1 hx
  exact (addQ_rng _).1
end Go.Dr
namespace Go.Dr
open Go.Proofs
set_option maxRecDepth 20000
set_option linter.unusedSimpArgs false
set_option linter.unusedVariables false
theorem r1_Add {S:SHeap} {u:Value} {l:List Int} (hu:(rSlice 8 rI64).V S u l):FnV Tryz.prog 310 #[u] S (.tuple #[.int .i64 (addQ l).1,.int .i64 (addQ l).2]):=by
 obtain ⟨a,c,rfl,_,_,hb,_⟩:=V_slice.1 hu
 unfold big at hb
 (refine Fn.enter (args:=[.slice a l.length c]) Tryz.func310 rfl Tryz.ntmps310 rfl ?_;intro w0)
 repeat (first|(refine Walk ?_;intros)|refine JC.block ?_)
 refine JC.loop (σ:=SHeap × Nat) (fun q=>q.1) (fun _=>[]) (fun q=>[(0,.slice a l.length c),(4,.int .i64 q.2)]) (fun q=>S.le q.1∧q.2≤l.length∧((l.drop q.2).any negB=l.any negB)) (fun q=>l.length - q.2) (S,0) ⟨SHeap.le.refl _,Nat.zero_le _,rfl⟩ rfl rfl (by exact sba) ?_;rintro ⟨S1,k⟩ ⟨hl1,hk,hi⟩;dsimp only at hl1 hk hi ⊢
 repeat (first|(refine Walk ?_;intros)|refine JC.block ?_)
 refine JC.cond rfl (fun hc=>?_) (fun hc=>?_)
 ·have hk':=dlt hc
  obtain ⟨x,hx,hd⟩:=drop_at hk'
  rw [hd,List.any_cons] at hi
  repeat (first|(refine Walk ?_;intros)|refine JC.block ?_)
  refine JC.cond rfl (fun h1=>?_) (fun h1=>?_)
  ·rw [show negB x=true from h1,Bool.true_or] at hi
   repeat (first|(refine Walk ?_;intros)|refine JC.block ?_)
   refine JX.ret2 Tryz.results310 (ResV.tmp rfl) (ResV.tmp rfl) (List.nil_sublist _) ?_
   exact ⟨rfl,by rw [addQ,← hi];rfl⟩
  ·rw [show negB x=false from h1,Bool.false_or] at hi
   repeat (first|(refine Walk ?_;intros)|refine JC.block ?_)
   exact JX.round (_,k+1) ⟨by exact lea,hk',hi⟩ (by simp;omega) rfl rfl (by exact sba)
 have hk':=dnlt hc
 rw [List.drop_eq_nil_of_le hk',List.any_nil] at hi
 have hneg:=hi.symm
 clear hi hk hk' hc
 repeat (first|(refine Walk ?_;intros)|refine JC.block ?_)
 refine JC.loop (σ:=Nat) (fun _=>S1) (fun _=>[]) (fun k=>[(0,.slice a l.length c),(5,.int .i64 (l.take k).sum),(6,.int .i64 k)]) (fun k=>k≤l.length∧(l.take k).sum≤Qty) (fun k=>l.length - k) 0 ⟨Nat.zero_le _,by simp [Qty]⟩ rfl rfl (by exact sba) ?_
 rintro k ⟨hk,hi⟩
 have hnn:=sum_take_nn hneg k
 repeat (first|(refine Walk ?_;intros)|refine JC.block ?_)
 refine JC.cond rfl (fun hc=>?_) (fun hc=>?_)
 ·have hk':=dlt hc
  obtain ⟨x,hx,hd⟩:=drop_at hk'
  have hx0:=at_nn hneg hx
  have hts:=take_at hx
  have hle:=sum_take hneg (k+1)
  unfold Qty at hi
  repeat (first|(refine Walk ?_;intros)|refine JC.block ?_)
  refine JO.guard rfl rfl rfl rfl (fun h1=>?_) (fun h1=>?_)
  ·have h1:Qty < x:=by simpa [Qty] using h1
   repeat (first|(refine Walk ?_;intros)|refine JC.block ?_)
   refine JX.ret2 Tryz.results310 (ResV.tmp rfl) (ResV.tmp rfl) (List.nil_sublist _) ?_
   unfold Qty at h1
   exact ⟨rfl,by rw [addQ,hneg,if_neg (by simp),if_pos (by unfold Qty;omega)]⟩
  ·have h1:x≤Qty:=by simpa [Qty] using h1
   unfold Qty at h1
   repeat (first|(refine Walk ?_;intros)|refine JC.block ?_)
   refine JC.cond rfl (fun h2=>?_) (fun h2=>?_)
   ·have h2:Qty < (l.take k).sum+x:=by simpa [Qty] using h2
    unfold Qty at h2
    repeat (first|(refine Walk ?_;intros)|refine JC.block ?_)
    refine JX.ret2 Tryz.results310 (ResV.tmp rfl) (ResV.tmp rfl) (List.nil_sublist _) ?_
    exact ⟨rfl,by rw [addQ,hneg,if_neg (by simp),if_pos (by unfold Qty;omega)]⟩
   ·have h2:(l.take k).sum+x≤Qty:=by simpa [Qty] using h2
    unfold Qty at h2
    repeat (first|(refine Walk ?_;intros)|refine JC.block ?_)
    exact JX.round (k+1) ⟨hk',by unfold Qty;omega⟩ (by omega) rfl rfl (by rw [hts];exact sba)
 ·have hk':=dnlt hc
  have hall:l.take k=l:=List.take_of_length_le hk'
  rw [hall] at hi ⊢
  repeat (first|(refine Walk ?_;intros)|refine JC.block ?_)
  refine JX.ret2 Tryz.results310 (ResV.tmp rfl) (ResV.tmp rfl) (List.nil_sublist _) ?_
  exact ⟨rfl,by rw [addQ,hneg,if_neg (by simp),if_neg (by omega)]⟩
theorem r2_Check {S:SHeap} {u:Value} {xs:List Int} (hu:(rArr 5).V S u xs):FnV Tryz.prog 346 #[u] S (.int .i64 (checkV xs)):=by
 have hl:=(V_arr.1 hu).2.1
 (refine Fn.enter (args:=[u]) Tryz.func346 rfl Tryz.ntmps346 rfl ?_;intro w0)
 repeat (first|(refine Walk ?_;intros)|refine JC.block ?_)
 (refine JO.eff rfl rfl rfl (JEff.boxS rfl (by exact vta) nna rfl ?_);intro S0 p l0 hp)
 repeat (first|(refine Walk ?_;intros)|refine JC.block ?_)
 refine JC.loop (σ:=SHeap × Nat) (fun q=>q.1) (fun _=>[]) (fun q=>[(1,.pointer (some p)),(3,.int .i64 q.2)]) (fun q=>S0.le q.1∧q.2≤5∧((xs.drop q.2).any negB=xs.any negB)) (fun q=>5 - q.2) (S0,0) ⟨SHeap.le.refl _,Nat.zero_le _,rfl⟩ rfl rfl (by exact sba) ?_;rintro ⟨S1,k⟩ ⟨hl1,hk,hi⟩;dsimp only at hl1 hk hi ⊢
 repeat (first|(refine Walk ?_;intros)|refine JC.block ?_)
 refine JC.cond rfl (fun hc=>?_) (fun hc=>?_)
 ·have hk':=dlt5 hc
  obtain ⟨x,hx,hd⟩:=drop_at (show k < xs.length by omega)
  rw [hd,List.any_cons] at hi
  repeat (first|(refine Walk ?_;intros)|refine JC.block ?_)
  refine JC.cond rfl (fun h1=>?_) (fun h1=>?_)
  ·rw [show negB x=true from h1,Bool.true_or] at hi
   repeat (first|(refine Walk ?_;intros)|refine JC.block ?_)
   refine JX.ret1 Tryz.results346 (ResV.tmp rfl) (List.nil_sublist _) ?_
   exact ⟨rfl,by rw [checkV,← hi];rfl⟩
  ·rw [show negB x=false from h1,Bool.false_or] at hi
   repeat (first|(refine Walk ?_;intros)|refine JC.block ?_)
   exact JX.round (_,k+1) ⟨by exact lea,hk',hi⟩ (by simp;omega) rfl rfl (by exact sba)
 have hk':=dnlt5 hc
 rw [List.drop_eq_nil_of_le (by omega),List.any_nil] at hi
 have hneg:=hi.symm
 clear hi hk hk' hc
 repeat (first|(refine Walk ?_;intros)|refine JC.block ?_)
 refine JC.loop (σ:=Nat) (fun _=>S1) (fun _=>[]) (fun k=>[(1,.pointer (some p)),(4,.int .i64 k)]) (fun k=>k≤5∧(xs.drop k).any overB=xs.any overB) (fun k=>5 - k) 0 ⟨Nat.zero_le _,rfl⟩ rfl rfl (by exact sba) ?_
 rintro k ⟨hk,hi⟩
 repeat (first|(refine Walk ?_;intros)|refine JC.block ?_)
 refine JC.cond rfl (fun hc=>?_) (fun hc=>?_)
 ·have hk':=dlt5 hc
  obtain ⟨x,hx,hd⟩:=drop_at (show k < xs.length by omega)
  rw [hd,List.any_cons] at hi
  repeat (first|(refine Walk ?_;intros)|refine JC.block ?_)
  refine JC.cond rfl (fun h1=>?_) (fun h1=>?_)
  ·rw [show overB x=true from h1,Bool.true_or] at hi
   repeat (first|(refine Walk ?_;intros)|refine JC.block ?_)
   refine JX.ret1 Tryz.results346 (ResV.tmp rfl) (List.nil_sublist _) ?_
   exact ⟨rfl,by rw [checkV,hneg,← hi];rfl⟩
  ·rw [show overB x=false from h1,Bool.false_or] at hi
   repeat (first|(refine Walk ?_;intros)|refine JC.block ?_)
   exact JX.round (k+1) ⟨hk',hi⟩ (by omega) rfl rfl (by exact sba)
 ·have hk':=dnlt5 hc
  rw [List.drop_eq_nil_of_le (by omega),List.any_nil] at hi
  repeat (first|(refine Walk ?_;intros)|refine JC.block ?_)
  refine JX.ret1 Tryz.results346 (ResV.tmp rfl) (List.nil_sublist _) ?_
  exact ⟨rfl,by rw [checkV,hneg,← hi];rfl⟩
theorem vecs_fine {S:SHeap} {u:Value} {l:List (List Int)} (hu:(rSlice 40 (rArr 5)).V S u l):∀ v∈l,v.length=5∧∀ x∈v,Rng x:=by
 obtain ⟨a,c,rfl,_,_,_,hp⟩:=V_slice.1 hu
 intro v hv
 obtain ⟨i,hi⟩:=List.getElem?_of_mem hv
 obtain ⟨_,_,cs,h,_⟩:=hp i v hi
 exact ⟨h.1,h.2.2⟩
theorem col_rng {l:List (List Int)} (h:∀ v∈l,v.length=5∧∀ x∈v,Rng x) (i:Nat):∀ x∈l.map (fun v=>at0 v i),Rng x:=by
 intro x hx
 obtain ⟨v,hv,rfl⟩:=List.mem_map.1 hx
 unfold at0
 cases hg:v[i]? with
 | none=>rw [List.getD_eq_getElem?_getD,hg];unfold Rng;simp
 | some y=>rw [List.getD_eq_getElem?_getD,hg];exact (h v hv).2 y (List.mem_of_getElem? hg)
theorem r2_Plus {S:SHeap} {u:Value} {l:List (List Int)} (hu:(rSlice 40 (rArr 5)).V S u l):FnV Tryz.prog 255 #[u] S (.tuple #[.agg (ints (plusV l).1),.int .i64 (plusV l).2]):=by
 have hfine:=vecs_fine hu
 obtain ⟨a,c,rfl,_,hb40,hb,_⟩:=V_slice.1 hu
 unfold big at hb hb40
 (refine Fn.enter (args:=[.slice a l.length c]) Tryz.func255 rfl Tryz.ntmps255 rfl ?_;intro w0)
 repeat (first|(refine Walk ?_;intros)|refine JC.block ?_)
 (refine JO.eff rfl rfl rfl (JEff.alloc rfl ?_);intro b2 hb2)
 repeat (first|(refine Walk ?_;intros)|refine JC.block ?_)
 (refine JO.eff rfl rfl rfl (JEff.alloc rfl ?_);intro b4 hb4)
 repeat (first|(refine Walk ?_;intros)|refine JC.block ?_)
 refine JC.loop (σ:=SHeap × Nat) (fun q=>q.1) (fun q=>[.blk b4 (.cells (ints (colsTo l q.2)) 91 (0,0)),.blk b2 (.cells (ints [0,0,0,0,0]) 91 (0,0))]) (fun q=>[(0,.slice a l.length c),(2,.pointer (some ⟨b2,0,none⟩)),(4,.pointer (some ⟨b4,0,none⟩)),(5,.int .i64 q.2)]) (fun q=>S.le q.1∧q.2≤5∧okTo l q.2) (fun q=>5 - q.2) (S,0) ⟨SHeap.le.refl _,Nat.zero_le _,fun i h=>absurd h (Nat.not_lt_zero _)⟩ rfl rfl (by exact sba) ?_
 rintro ⟨S1,k⟩ ⟨hl1,hk,hi⟩
 dsimp only at hl1 hk hi ⊢
 repeat (first|(refine Walk ?_;intros)|refine JC.block ?_)
 refine JC.cond rfl (fun hc=>?_) (fun hc=>?_)
 ·have hk':=dlt5 hc
  repeat (first|(refine Walk ?_;intros)|refine JC.block ?_)
  refine JC.newRow 3 1 ?_
  refine JC.loop (σ:=Nat × Option Addr × Nat) (fun _=>S1) (fun q=>[.row w0.heap.size 3 1 (.slice q.2.1 q.1 q.2.2) q.1 (((l.take q.1).map (fun v=>at0 v k)).map (fun x=>Value.int .i64 x)),.blk b4 (.cells (ints (colsTo l k)) 91 (0,0)),.blk b2 (.cells (ints [0,0,0,0,0]) 91 (0,0))]) (fun q=>[(0,.slice a l.length c),(2,.pointer (some ⟨b2,0,none⟩)),(4,.pointer (some ⟨b4,0,none⟩)),(5,.int .i64 k),(6,.slice q.2.1 q.1 q.2.2),(7,.int .i64 q.1)]) (fun q=>q.1≤l.length) (fun q=>l.length - q.1) (0,none,0) (Nat.zero_le _) rfl rfl (by exact sba) ?_
  rintro ⟨j,ra,rc⟩ hj
  dsimp only at hj ⊢
  repeat (first|(refine Walk ?_;intros)|refine JC.block ?_)
  refine JC.cond rfl (fun hc2=>?_) (fun hc2=>?_)
  ·have hj':=dlt hc2
   obtain ⟨v,hv,hd⟩:=drop_at hj'
   have hvf:=hfine v (List.mem_of_getElem? hv)
   obtain ⟨z,hz⟩:∃ z,v[k]?=some z:=⟨_,List.getElem?_eq_getElem (by omega)⟩
   repeat (first|(refine Walk ?_;intros)|refine JC.block ?_)
   (refine JO.eff rfl rfl rfl (JEff.build (rep:=rI64) (ys:=[z]) rfl rfl ⟨(⟨V_i64.2 ⟨rfl,by assumption⟩,fun _ _ h=>by cases h⟩),trivial⟩ rfl rfl rfl rfl ?_);intro bb hbb hvv);(repeat (first|(refine Walk ?_;intros)|refine JC.block ?_));(refine JO.eff rfl rfl rfl (JEff.appendL (rep:=rI64) rfl rfl rfl rfl (List.Perm.swap _ _ _) (by exact hvv.flat) (by intro c hc;exact flat_one (fun v hv=>(hvv.size v hv).2) c hc) (by first|omega|(unfold big;omega)) (by unfold big;omega) (by intro l hl;cases hl) rfl ?_);intro ra2 rc2;clear hvv hbb)
   repeat (first|(refine Walk ?_;intros)|refine JC.block ?_)
   exact JX.round (j+1,ra2,rc2) hj' (by dsimp only;omega) rfl (by rw [List.take_add_one,hv];simp [at0_some hz,flatCells,Value.cells];rfl) (by exact sba)
  ·have hj':=dnlt hc2
   rw [List.take_of_length_le hj']
   have hjl:j=l.length:=by omega
   subst hjl
   repeat (first|(refine Walk ?_;intros)|refine JC.block ?_)
   refine JO.freezeRowI (n:=l.length) (col_rng hfine k) (by simp) (by unfold big;omega) (by intro l hl;cases hl) (fun S2 hl2 hrow=>?_)
   repeat (first|(refine Walk ?_;intros)|refine JC.block ?_)
   (refine JO.eff rfl rfl rfl (JEff.callV rfl (r1_Add hrow) rfl ?_);intro _ _)
   repeat (first|(refine Walk ?_;intros)|refine JC.block ?_)
   refine JC.cond rfl (fun h9=>?_) (fun h9=>?_)
   ·have h9:¬ (colQ l k).2=0:=by simpa [colQ] using h9
    repeat (first|(refine Walk ?_;intros)|refine JC.block ?_)
    refine JO.eff rfl rfl rfl (JEff.storeA (n:=5) (xs:=[0,0,0,0,0]) (ys:=[0,0,0,0,0]) rfl rfl rfl (by unfold Rng;simp) (List.Perm.swap _ _ _) rfl (by intro l hl;cases hl) ?_)
    repeat (first|(refine Walk ?_;intros)|refine JC.block ?_)
    refine JX.ret2 Tryz.results255 (ResV.cellA (n:=5) (xs:=[0,0,0,0,0]) rfl (by (first|exact List.mem_cons_self|exact List.mem_cons_of_mem _ List.mem_cons_self|exact List.mem_cons_of_mem _ (List.mem_cons_of_mem _ List.mem_cons_self))) rfl) (ResV.tmp rfl) (List.nil_sublist _) ?_
    rw [plus_bad hi hk' h9]
    exact ⟨rfl,rfl⟩
   ·have h9:(colQ l k).2=0:=by simpa [colQ] using h9
    repeat (first|(refine Walk ?_;intros)|refine JC.block ?_)
    refine JO.pure rfl rfl rfl (JPure.indexBI rfl rfl rfl (by omega) (by omega) ?_)
    refine JO.eff rfl rfl rfl (JEff.storeI (i:=k) rfl rfl (addQ_rng _).1 (List.Perm.refl _) (by rw [colsTo_len l (by omega)];omega) (by intro l hl;cases hl) ?_)
    repeat (first|(refine Walk ?_;intros)|refine JC.block ?_)
    exact JX.round (_,k+1) ⟨by exact lea,hk',okTo_step hi h9⟩ (by dsimp only;omega) rfl (by dsimp only;rw [← colsTo_set l hk'];rfl) (by exact sba)
 ·have hk':=dnlt5 hc
  have hk5:k=5:=by omega
  subst hk5
  repeat (first|(refine Walk ?_;intros)|refine JC.block ?_)
  refine JO.pure rfl rfl rfl (JPure.loadMA (n:=5) rfl (by (first|exact List.mem_cons_self|exact List.mem_cons_of_mem _ List.mem_cons_self|exact List.mem_cons_of_mem _ (List.mem_cons_of_mem _ List.mem_cons_self))) (colsTo_len l (by omega)) (colsTo_rng l 5) (.inl rfl) rfl ?_)
  refine JO.eff rfl rfl rfl (JEff.storeA (n:=5) (xs:=[0,0,0,0,0]) rfl rfl (colsTo_len l (by omega)) (colsTo_rng l 5) (List.Perm.swap _ _ _) rfl (by intro l hl;cases hl) ?_)
  repeat (first|(refine Walk ?_;intros)|refine JC.block ?_)
  refine JX.ret2 Tryz.results255 (ResV.cellA (n:=5) rfl (by (first|exact List.mem_cons_self|exact List.mem_cons_of_mem _ List.mem_cons_self|exact List.mem_cons_of_mem _ (List.mem_cons_of_mem _ List.mem_cons_self))) (colsTo_len l (by omega))) (ResV.tmp rfl) (List.nil_sublist _) ?_
  rw [plus_good hi]
  exact ⟨rfl,rfl⟩
end Go.Dr
