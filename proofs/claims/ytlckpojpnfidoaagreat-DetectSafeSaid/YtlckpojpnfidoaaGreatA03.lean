/- Part 4 of the rules and of the walks that the proofs of this seat rest on; no condition. -/
import Derived.Test.YtlckpojpnfidoaaGreatA02
import Derived.Test.YtlckpojpnfidoaaGreatProg
import Derived.KernelRfl
set_option linter.unusedVariables false
set_option linter.unusedSimpArgs false
namespace Go.Dr
open Go.Proofs
instance:TyR Tryz.prog 1 rVal:=⟨by kernel_rfl⟩
instance:Und Tryz.prog 2 (.int .i64):=⟨Tryz.underlying2⟩
instance:Zero Tryz.prog 2 (.int .i64 0):=⟨by kernel_rfl⟩
instance:Byt Tryz.prog 2 8:=⟨by kernel_rfl⟩
instance:TyR Tryz.prog 2 rI64:=⟨by kernel_rfl⟩
instance:Und Tryz.prog 3 (.int .i64):=⟨Tryz.underlying3⟩
instance:Zero Tryz.prog 3 (.int .i64 0):=⟨by kernel_rfl⟩
instance:Byt Tryz.prog 3 8:=⟨by kernel_rfl⟩
instance:TyR Tryz.prog 3 rI64:=⟨by kernel_rfl⟩
instance:Und Tryz.prog 4 (.bool):=⟨Tryz.underlying4⟩
instance:Zero Tryz.prog 4 (.bool false):=⟨by kernel_rfl⟩
instance:Byt Tryz.prog 4 1:=⟨by kernel_rfl⟩
instance:TyR Tryz.prog 4 rBool:=⟨by kernel_rfl⟩
instance:Und Tryz.prog 5 (.int .u8):=⟨Tryz.underlying5⟩
instance:Zero Tryz.prog 5 (.int .u8 0):=⟨by kernel_rfl⟩
instance:Byt Tryz.prog 5 1:=⟨by kernel_rfl⟩
instance:TyR Tryz.prog 5 (rInt .u8):=⟨by kernel_rfl⟩
instance:Und Tryz.prog 6 (.int .u8):=⟨Tryz.underlying6⟩
instance:Zero Tryz.prog 6 (.int .u8 0):=⟨by kernel_rfl⟩
instance:Byt Tryz.prog 6 1:=⟨by kernel_rfl⟩
instance:TyR Tryz.prog 6 (rInt .u8):=⟨by kernel_rfl⟩
instance:Zero Tryz.prog 7 (.agg #[.int .i64 0,.int .i64 0,.bool false,.int .u8 0]):=⟨by kernel_rfl⟩
instance:Zero Tryz.prog 8 (.agg #[.int .i64 0,.int .i64 0,.bool false,.int .u8 0]):=⟨by kernel_rfl⟩
instance:Und Tryz.prog 9 (.string):=⟨Tryz.underlying9⟩
instance:Zero Tryz.prog 9 (.string ⟨#[]⟩):=⟨by kernel_rfl⟩
instance:Byt Tryz.prog 9 16:=⟨by kernel_rfl⟩
instance:TyR Tryz.prog 9 rStr:=⟨by kernel_rfl⟩
instance:Und Tryz.prog 10 (.string):=⟨Tryz.underlying10⟩
instance:Zero Tryz.prog 10 (.string ⟨#[]⟩):=⟨by kernel_rfl⟩
instance:Byt Tryz.prog 10 16:=⟨by kernel_rfl⟩
instance:TyR Tryz.prog 10 rStr:=⟨by kernel_rfl⟩
instance:Und Tryz.prog 11 (.string):=⟨Tryz.underlying11⟩
instance:Zero Tryz.prog 11 (.string ⟨#[]⟩):=⟨by kernel_rfl⟩
instance:Byt Tryz.prog 11 16:=⟨by kernel_rfl⟩
instance:TyR Tryz.prog 11 rStr:=⟨by kernel_rfl⟩
instance:Und Tryz.prog 12 (.int .u64):=⟨Tryz.underlying12⟩
instance:Zero Tryz.prog 12 (.int .u64 0):=⟨by kernel_rfl⟩
instance:Byt Tryz.prog 12 8:=⟨by kernel_rfl⟩
instance:TyR Tryz.prog 12 (rInt .u64):=⟨by kernel_rfl⟩
instance:Zero Tryz.prog 13 (.agg #[.string ⟨#[]⟩,.int .u64 0]):=⟨by kernel_rfl⟩
instance:Zero Tryz.prog 14 (.agg #[.string ⟨#[]⟩,.int .u64 0]):=⟨by kernel_rfl⟩
instance:Und Tryz.prog 15 (.pointer 371):=⟨Tryz.underlying15⟩
instance:Zero Tryz.prog 15 (.pointer none):=⟨by kernel_rfl⟩
instance:Byt Tryz.prog 15 8:=⟨by kernel_rfl⟩
instance:TyR Tryz.prog 15 rVal:=⟨by kernel_rfl⟩
instance:Und Tryz.prog 16 (.pointer 374):=⟨Tryz.underlying16⟩
instance:Zero Tryz.prog 16 (.pointer none):=⟨by kernel_rfl⟩
instance:Byt Tryz.prog 16 8:=⟨by kernel_rfl⟩
instance:TyR Tryz.prog 16 rVal:=⟨by kernel_rfl⟩
instance:Und Tryz.prog 17 (.pointer 382):=⟨Tryz.underlying17⟩
instance:Zero Tryz.prog 17 (.pointer none):=⟨by kernel_rfl⟩
instance:Byt Tryz.prog 17 8:=⟨by kernel_rfl⟩
instance:TyR Tryz.prog 17 rVal:=⟨by kernel_rfl⟩
instance:Zero Tryz.prog 18 (.agg #[.pointer none]):=⟨by kernel_rfl⟩
instance:Zero Tryz.prog 19 (.agg #[.pointer none]):=⟨by kernel_rfl⟩
instance:TyR Tryz.prog 20 rVal:=⟨by kernel_rfl⟩
instance:Und Tryz.prog 21 (.int .i32):=⟨Tryz.underlying21⟩
instance:Zero Tryz.prog 21 (.int .i32 0):=⟨by kernel_rfl⟩
instance:Byt Tryz.prog 21 4:=⟨by kernel_rfl⟩
instance:TyR Tryz.prog 21 (rInt .i32):=⟨by kernel_rfl⟩
instance:Und Tryz.prog 22 (.slice 94):=⟨Tryz.underlying22⟩
instance:Zero Tryz.prog 22 (.slice none 0 0):=⟨by kernel_rfl⟩
instance:Byt Tryz.prog 22 24:=⟨by kernel_rfl⟩
instance:TyR Tryz.prog 22 (rSlice 112 rNode):=⟨by kernel_rfl⟩
instance:Und Tryz.prog 23 (.slice 127):=⟨Tryz.underlying23⟩
instance:Zero Tryz.prog 23 (.slice none 0 0):=⟨by kernel_rfl⟩
instance:Byt Tryz.prog 23 24:=⟨by kernel_rfl⟩
instance:TyR Tryz.prog 23 (rSlice 240 rPod):=⟨by kernel_rfl⟩
instance:Und Tryz.prog 24 (.slice 147):=⟨Tryz.underlying24⟩
instance:Zero Tryz.prog 24 (.slice none 0 0):=⟨by kernel_rfl⟩
instance:Byt Tryz.prog 24 24:=⟨by kernel_rfl⟩
instance:TyR Tryz.prog 24 (rSlice 56 rOwner):=⟨by kernel_rfl⟩
instance:FOff Tryz.prog 25 0 0:=⟨by kernel_rfl⟩
instance:FOff Tryz.prog 25 1 1:=⟨by kernel_rfl⟩
instance:FOff Tryz.prog 25 2 2:=⟨by kernel_rfl⟩
instance:Zero Tryz.prog 25 (.agg #[.slice none 0 0,.slice none 0 0,.slice none 0 0]):=⟨by kernel_rfl⟩
instance:ZF Tryz.prog 25 [.slice none 0 0,.slice none 0 0,.slice none 0 0]:=⟨by kernel_rfl,by kernel_rfl⟩
instance:Byt Tryz.prog 25 72:=⟨by kernel_rfl⟩
instance:FOff Tryz.prog 26 0 0:=⟨by kernel_rfl⟩
instance:FOff Tryz.prog 26 1 1:=⟨by kernel_rfl⟩
instance:FOff Tryz.prog 26 2 2:=⟨by kernel_rfl⟩
instance:Zero Tryz.prog 26 (.agg #[.slice none 0 0,.slice none 0 0,.slice none 0 0]):=⟨by kernel_rfl⟩
instance:ZF Tryz.prog 26 [.slice none 0 0,.slice none 0 0,.slice none 0 0]:=⟨by kernel_rfl,by kernel_rfl⟩
instance:Conc Tryz.prog 26:=⟨by kernel_rfl⟩
instance:Byt Tryz.prog 26 72:=⟨by kernel_rfl⟩
instance:TyR Tryz.prog 26 rSnap:=⟨by kernel_rfl⟩
instance:Und Tryz.prog 27 (.slice 3):=⟨Tryz.underlying27⟩
instance:Zero Tryz.prog 27 (.slice none 0 0):=⟨by kernel_rfl⟩
instance:Byt Tryz.prog 27 24:=⟨by kernel_rfl⟩
instance:TyR Tryz.prog 27 (rSlice 8 rI64):=⟨by kernel_rfl⟩
instance:TyR Tryz.prog 28 rVal:=⟨by kernel_rfl⟩
instance:TyR Tryz.prog 29 rVal:=⟨by kernel_rfl⟩
instance:TyR Tryz.prog 30 rVal:=⟨by kernel_rfl⟩
instance:Und Tryz.prog 31 (.int .i64):=⟨Tryz.underlying31⟩
instance:Zero Tryz.prog 31 (.int .i64 0):=⟨by kernel_rfl⟩
instance:Conc Tryz.prog 31:=⟨by kernel_rfl⟩
instance:Byt Tryz.prog 31 8:=⟨by kernel_rfl⟩
instance:TyR Tryz.prog 31 rI64:=⟨by kernel_rfl⟩
instance:TyR Tryz.prog 33 rVal:=⟨by kernel_rfl⟩
instance:TyR Tryz.prog 34 rVal:=⟨by kernel_rfl⟩
instance:Und Tryz.prog 35 (.slice 41):=⟨Tryz.underlying35⟩
instance:Zero Tryz.prog 35 (.slice none 0 0):=⟨by kernel_rfl⟩
instance:Byt Tryz.prog 35 24:=⟨by kernel_rfl⟩
instance:TyR Tryz.prog 35 (rSlice 32 rClause):=⟨by kernel_rfl⟩
instance:TyR Tryz.prog 37 rVal:=⟨by kernel_rfl⟩
instance:TyR Tryz.prog 38 rVal:=⟨by kernel_rfl⟩
instance:TyR Tryz.prog 39 rVal:=⟨by kernel_rfl⟩
instance:FOff Tryz.prog 40 0 0:=⟨by kernel_rfl⟩
instance:FOff Tryz.prog 40 1 1:=⟨by kernel_rfl⟩
instance:FOff Tryz.prog 40 2 2:=⟨by kernel_rfl⟩
instance:FOff Tryz.prog 40 3 3:=⟨by kernel_rfl⟩
instance:Zero Tryz.prog 40 (.agg #[.int .i64 0,.int .i64 0,.int .i64 0,.int .i64 0]):=⟨by kernel_rfl⟩
instance:ZF Tryz.prog 40 [.int .i64 0,.int .i64 0,.int .i64 0,.int .i64 0]:=⟨by kernel_rfl,by kernel_rfl⟩
instance:FlatS Tryz.prog 40 [.int,.int,.int,.int]:=⟨by kernel_rfl,by kernel_rfl,by kernel_rfl⟩
instance:Byt Tryz.prog 40 32:=⟨by kernel_rfl⟩
instance:FOff Tryz.prog 41 0 0:=⟨by kernel_rfl⟩
instance:FOff Tryz.prog 41 1 1:=⟨by kernel_rfl⟩
instance:FOff Tryz.prog 41 2 2:=⟨by kernel_rfl⟩
instance:FOff Tryz.prog 41 3 3:=⟨by kernel_rfl⟩
instance:Zero Tryz.prog 41 (.agg #[.int .i64 0,.int .i64 0,.int .i64 0,.int .i64 0]):=⟨by kernel_rfl⟩
instance:ZF Tryz.prog 41 [.int .i64 0,.int .i64 0,.int .i64 0,.int .i64 0]:=⟨by kernel_rfl,by kernel_rfl⟩
instance:FlatS Tryz.prog 41 [.int,.int,.int,.int]:=⟨by kernel_rfl,by kernel_rfl,by kernel_rfl⟩
instance:Conc Tryz.prog 41:=⟨by kernel_rfl⟩
instance:Byt Tryz.prog 41 32:=⟨by kernel_rfl⟩
instance:TyR Tryz.prog 41 rClause:=⟨by kernel_rfl⟩
instance:TyR Tryz.prog 43 rVal:=⟨by kernel_rfl⟩
instance:FOff Tryz.prog 44 0 0:=⟨by kernel_rfl⟩
instance:FOff Tryz.prog 44 1 1:=⟨by kernel_rfl⟩
instance:FOff Tryz.prog 44 2 2:=⟨by kernel_rfl⟩
instance:Zero Tryz.prog 44 (.agg #[.int .i64 0,.int .i64 0,.int .i64 0]):=⟨by kernel_rfl⟩
instance:ZF Tryz.prog 44 [.int .i64 0,.int .i64 0,.int .i64 0]:=⟨by kernel_rfl,by kernel_rfl⟩
instance:FlatS Tryz.prog 44 [.int,.int,.int]:=⟨by kernel_rfl,by kernel_rfl,by kernel_rfl⟩
instance:Byt Tryz.prog 44 24:=⟨by kernel_rfl⟩
instance:FOff Tryz.prog 45 0 0:=⟨by kernel_rfl⟩
instance:FOff Tryz.prog 45 1 1:=⟨by kernel_rfl⟩
instance:FOff Tryz.prog 45 2 2:=⟨by kernel_rfl⟩
instance:Zero Tryz.prog 45 (.agg #[.int .i64 0,.int .i64 0,.int .i64 0]):=⟨by kernel_rfl⟩
instance:ZF Tryz.prog 45 [.int .i64 0,.int .i64 0,.int .i64 0]:=⟨by kernel_rfl,by kernel_rfl⟩
instance:FlatS Tryz.prog 45 [.int,.int,.int]:=⟨by kernel_rfl,by kernel_rfl,by kernel_rfl⟩
instance:Conc Tryz.prog 45:=⟨by kernel_rfl⟩
instance:Byt Tryz.prog 45 24:=⟨by kernel_rfl⟩
instance:TyR Tryz.prog 45 rStep:=⟨by kernel_rfl⟩
instance:TyR Tryz.prog 46 rVal:=⟨by kernel_rfl⟩
instance:TyR Tryz.prog 47 rVal:=⟨by kernel_rfl⟩
instance:FOff Tryz.prog 48 0 0:=⟨by kernel_rfl⟩
instance:FOff Tryz.prog 48 1 1:=⟨by kernel_rfl⟩
instance:Zero Tryz.prog 48 (.agg #[.slice none 0 0,.bool false]):=⟨by kernel_rfl⟩
instance:ZF Tryz.prog 48 [.slice none 0 0,.bool false]:=⟨by kernel_rfl,by kernel_rfl⟩
instance:Byt Tryz.prog 48 32:=⟨by kernel_rfl⟩
instance:FOff Tryz.prog 49 0 0:=⟨by kernel_rfl⟩
instance:FOff Tryz.prog 49 1 1:=⟨by kernel_rfl⟩
instance:Zero Tryz.prog 49 (.agg #[.slice none 0 0,.bool false]):=⟨by kernel_rfl⟩
instance:ZF Tryz.prog 49 [.slice none 0 0,.bool false]:=⟨by kernel_rfl,by kernel_rfl⟩
instance:Conc Tryz.prog 49:=⟨by kernel_rfl⟩
instance:Byt Tryz.prog 49 32:=⟨by kernel_rfl⟩
instance:TyR Tryz.prog 49 rAsk:=⟨by kernel_rfl⟩
instance:Und Tryz.prog 50 (.array 2 3):=⟨Tryz.underlying50⟩
instance:Zero Tryz.prog 50 (.agg #[.int .i64 0,.int .i64 0]):=⟨by kernel_rfl⟩
instance:ZA Tryz.prog 50 2 3 1 (.int .i64 0):=⟨Tryz.underlying50,by kernel_rfl,rfl,by kernel_rfl⟩
instance:Byt Tryz.prog 50 16:=⟨by kernel_rfl⟩
instance:Und Tryz.prog 51 (.slice 9):=⟨Tryz.underlying51⟩
instance:Zero Tryz.prog 51 (.slice none 0 0):=⟨by kernel_rfl⟩
instance:Byt Tryz.prog 51 24:=⟨by kernel_rfl⟩
instance:TyR Tryz.prog 51 (rSlice 16 rStr):=⟨by kernel_rfl⟩
instance:FOff Tryz.prog 52 0 0:=⟨by kernel_rfl⟩
instance:FOff Tryz.prog 52 1 2:=⟨by kernel_rfl⟩
instance:FOff Tryz.prog 52 2 4:=⟨by kernel_rfl⟩
instance:FOff Tryz.prog 52 3 5:=⟨by kernel_rfl⟩
instance:FOff Tryz.prog 52 4 6:=⟨by kernel_rfl⟩
instance:FOff Tryz.prog 52 5 7:=⟨by kernel_rfl⟩
instance:FOff Tryz.prog 52 6 8:=⟨by kernel_rfl⟩
instance:Zero Tryz.prog 52 (.agg #[.int .i64 0,.int .i64 0,.int .i64 0,.int .i64 0,.int .i64 0,.slice none 0 0,.int .i64 0,.int .i64 0,.bool false]):=⟨by kernel_rfl⟩
instance:ZF Tryz.prog 52 [.agg #[.int .i64 0,.int .i64 0],.agg #[.int .i64 0,.int .i64 0],.int .i64 0,.slice none 0 0,.int .i64 0,.int .i64 0,.bool false]:=⟨by kernel_rfl,by kernel_rfl⟩
instance:Byt Tryz.prog 52 88:=⟨by kernel_rfl⟩
instance:FOff Tryz.prog 53 0 0:=⟨by kernel_rfl⟩
instance:FOff Tryz.prog 53 1 2:=⟨by kernel_rfl⟩
instance:FOff Tryz.prog 53 2 4:=⟨by kernel_rfl⟩
instance:FOff Tryz.prog 53 3 5:=⟨by kernel_rfl⟩
instance:FOff Tryz.prog 53 4 6:=⟨by kernel_rfl⟩
instance:FOff Tryz.prog 53 5 7:=⟨by kernel_rfl⟩
instance:FOff Tryz.prog 53 6 8:=⟨by kernel_rfl⟩
instance:Zero Tryz.prog 53 (.agg #[.int .i64 0,.int .i64 0,.int .i64 0,.int .i64 0,.int .i64 0,.slice none 0 0,.int .i64 0,.int .i64 0,.bool false]):=⟨by kernel_rfl⟩
instance:ZF Tryz.prog 53 [.agg #[.int .i64 0,.int .i64 0],.agg #[.int .i64 0,.int .i64 0],.int .i64 0,.slice none 0 0,.int .i64 0,.int .i64 0,.bool false]:=⟨by kernel_rfl,by kernel_rfl⟩
instance:Conc Tryz.prog 53:=⟨by kernel_rfl⟩
instance:Byt Tryz.prog 53 88:=⟨by kernel_rfl⟩
instance:TyR Tryz.prog 53 rPol:=⟨by kernel_rfl⟩
instance:TyR Tryz.prog 54 rVal:=⟨by kernel_rfl⟩
instance:TyR Tryz.prog 55 rVal:=⟨by kernel_rfl⟩
instance:Und Tryz.prog 56 (.slice 60):=⟨Tryz.underlying56⟩
instance:Zero Tryz.prog 56 (.slice none 0 0):=⟨by kernel_rfl⟩
instance:Byt Tryz.prog 56 24:=⟨by kernel_rfl⟩
instance:TyR Tryz.prog 56 (rSlice 24 rWrong):=⟨by kernel_rfl⟩
instance:TyR Tryz.prog 57 rVal:=⟨by kernel_rfl⟩
instance:TyR Tryz.prog 58 rVal:=⟨by kernel_rfl⟩
instance:FOff Tryz.prog 59 0 0:=⟨by kernel_rfl⟩
instance:FOff Tryz.prog 59 1 1:=⟨by kernel_rfl⟩
instance:FOff Tryz.prog 59 2 2:=⟨by kernel_rfl⟩
instance:Zero Tryz.prog 59 (.agg #[.int .i64 0,.int .i64 0,.int .i64 0]):=⟨by kernel_rfl⟩
instance:ZF Tryz.prog 59 [.int .i64 0,.int .i64 0,.int .i64 0]:=⟨by kernel_rfl,by kernel_rfl⟩
instance:FlatS Tryz.prog 59 [.int,.int,.int]:=⟨by kernel_rfl,by kernel_rfl,by kernel_rfl⟩
instance:Byt Tryz.prog 59 24:=⟨by kernel_rfl⟩
instance:FOff Tryz.prog 60 0 0:=⟨by kernel_rfl⟩
instance:FOff Tryz.prog 60 1 1:=⟨by kernel_rfl⟩
instance:FOff Tryz.prog 60 2 2:=⟨by kernel_rfl⟩
instance:Zero Tryz.prog 60 (.agg #[.int .i64 0,.int .i64 0,.int .i64 0]):=⟨by kernel_rfl⟩
instance:ZF Tryz.prog 60 [.int .i64 0,.int .i64 0,.int .i64 0]:=⟨by kernel_rfl,by kernel_rfl⟩
instance:FlatS Tryz.prog 60 [.int,.int,.int]:=⟨by kernel_rfl,by kernel_rfl,by kernel_rfl⟩
instance:Conc Tryz.prog 60:=⟨by kernel_rfl⟩
instance:Byt Tryz.prog 60 24:=⟨by kernel_rfl⟩
instance:TyR Tryz.prog 60 rWrong:=⟨by kernel_rfl⟩
instance:TyR Tryz.prog 61 rVal:=⟨by kernel_rfl⟩
instance:TyR Tryz.prog 62 rVal:=⟨by kernel_rfl⟩
instance:TyR Tryz.prog 63 rVal:=⟨by kernel_rfl⟩
instance:TyR Tryz.prog 64 rVal:=⟨by kernel_rfl⟩
instance:TyR Tryz.prog 65 rVal:=⟨by kernel_rfl⟩
instance:TyR Tryz.prog 67 rVal:=⟨by kernel_rfl⟩
instance:TyR Tryz.prog 68 rVal:=⟨by kernel_rfl⟩
instance:TyR Tryz.prog 69 rVal:=⟨by kernel_rfl⟩
instance:TyR Tryz.prog 70 rVal:=⟨by kernel_rfl⟩
instance:TyR Tryz.prog 72 rVal:=⟨by kernel_rfl⟩
instance:Und Tryz.prog 73 (.slice 4):=⟨Tryz.underlying73⟩
instance:Zero Tryz.prog 73 (.slice none 0 0):=⟨by kernel_rfl⟩
instance:Byt Tryz.prog 73 24:=⟨by kernel_rfl⟩
instance:TyR Tryz.prog 73 (rSlice 1 rBool):=⟨by kernel_rfl⟩
instance:TyR Tryz.prog 74 rVal:=⟨by kernel_rfl⟩
instance:Und Tryz.prog 75 (.array 64 4):=⟨Tryz.underlying75⟩
instance:Zero Tryz.prog 75 (.agg #[.bool false,.bool false,.bool false,.bool false,.bool false,.bool false,.bool false,.bool false,.bool false,.bool false,.bool false,.bool false,.bool false,.bool false,.bool false,.bool false,.bool false,.bool false,.bool false,.bool false,.bool false,.bool false,.bool false,.bool false,.bool false,.bool false,.bool false,.bool false,.bool false,.bool false,.bool false,.bool false,.bool false,.bool false,.bool false,.bool false,.bool false,.bool false,.bool false,.bool false,.bool false,.bool false,.bool false,.bool false,.bool false,.bool false,.bool false,.bool false,.bool false,.bool false,.bool false,.bool false,.bool false,.bool false,.bool false,.bool false,.bool false,.bool false,.bool false,.bool false,.bool false,.bool false,.bool false,.bool false]):=⟨by kernel_rfl⟩
instance:ZA Tryz.prog 75 64 4 1 (.bool false):=⟨Tryz.underlying75,by kernel_rfl,rfl,by kernel_rfl⟩
instance:Byt Tryz.prog 75 64:=⟨by kernel_rfl⟩
instance:TyR Tryz.prog 76 rVal:=⟨by kernel_rfl⟩
instance:FOff Tryz.prog 77 0 0:=⟨by kernel_rfl⟩
instance:FOff Tryz.prog 77 1 1:=⟨by kernel_rfl⟩
instance:Zero Tryz.prog 77 (.agg #[.int .i64 0,.int .i64 0]):=⟨by kernel_rfl⟩
instance:ZF Tryz.prog 77 [.int .i64 0,.int .i64 0]:=⟨by kernel_rfl,by kernel_rfl⟩
instance:FlatS Tryz.prog 77 [.int,.int]:=⟨by kernel_rfl,by kernel_rfl,by kernel_rfl⟩
instance:Byt Tryz.prog 77 16:=⟨by kernel_rfl⟩
instance:FOff Tryz.prog 78 0 0:=⟨by kernel_rfl⟩
instance:FOff Tryz.prog 78 1 1:=⟨by kernel_rfl⟩
instance:Zero Tryz.prog 78 (.agg #[.int .i64 0,.int .i64 0]):=⟨by kernel_rfl⟩
instance:ZF Tryz.prog 78 [.int .i64 0,.int .i64 0]:=⟨by kernel_rfl,by kernel_rfl⟩
instance:FlatS Tryz.prog 78 [.int,.int]:=⟨by kernel_rfl,by kernel_rfl,by kernel_rfl⟩
instance:Conc Tryz.prog 78:=⟨by kernel_rfl⟩
instance:Byt Tryz.prog 78 16:=⟨by kernel_rfl⟩
instance:TyR Tryz.prog 78 rMove:=⟨by kernel_rfl⟩
instance:Und Tryz.prog 79 (.slice 45):=⟨Tryz.underlying79⟩
instance:Zero Tryz.prog 79 (.slice none 0 0):=⟨by kernel_rfl⟩
instance:Byt Tryz.prog 79 24:=⟨by kernel_rfl⟩
instance:TyR Tryz.prog 79 (rSlice 24 rStep):=⟨by kernel_rfl⟩
instance:TyR Tryz.prog 81 rVal:=⟨by kernel_rfl⟩
instance:TyR Tryz.prog 82 rVal:=⟨by kernel_rfl⟩
instance:TyR Tryz.prog 83 rVal:=⟨by kernel_rfl⟩
instance:Und Tryz.prog 84 (.slice 78):=⟨Tryz.underlying84⟩
instance:Zero Tryz.prog 84 (.slice none 0 0):=⟨by kernel_rfl⟩
instance:Byt Tryz.prog 84 24:=⟨by kernel_rfl⟩
instance:TyR Tryz.prog 84 (rSlice 16 rMove):=⟨by kernel_rfl⟩
instance:TyR Tryz.prog 85 rVal:=⟨by kernel_rfl⟩
instance:TyR Tryz.prog 87 rVal:=⟨by kernel_rfl⟩
instance:TyR Tryz.prog 88 rVal:=⟨by kernel_rfl⟩
instance:TyR Tryz.prog 89 rVal:=⟨by kernel_rfl⟩
instance:Und Tryz.prog 90 (.array 5 3):=⟨Tryz.underlying90⟩
instance:Zero Tryz.prog 90 (.agg #[.int .i64 0,.int .i64 0,.int .i64 0,.int .i64 0,.int .i64 0]):=⟨by kernel_rfl⟩
instance:ZA Tryz.prog 90 5 3 1 (.int .i64 0):=⟨Tryz.underlying90,by kernel_rfl,rfl,by kernel_rfl⟩
instance:Byt Tryz.prog 90 40:=⟨by kernel_rfl⟩
instance:Und Tryz.prog 91 (.array 5 3):=⟨Tryz.underlying91⟩
instance:Zero Tryz.prog 91 (.agg #[.int .i64 0,.int .i64 0,.int .i64 0,.int .i64 0,.int .i64 0]):=⟨by kernel_rfl⟩
instance:ZA Tryz.prog 91 5 3 1 (.int .i64 0):=⟨Tryz.underlying91,by kernel_rfl,rfl,by kernel_rfl⟩
instance:Conc Tryz.prog 91:=⟨by kernel_rfl⟩
instance:Byt Tryz.prog 91 40:=⟨by kernel_rfl⟩
instance:TyR Tryz.prog 91 (rArr 5):=⟨by kernel_rfl⟩
instance:Und Tryz.prog 92 (.slice 213):=⟨Tryz.underlying92⟩
instance:Zero Tryz.prog 92 (.slice none 0 0):=⟨by kernel_rfl⟩
instance:Byt Tryz.prog 92 24:=⟨by kernel_rfl⟩
instance:TyR Tryz.prog 92 (rSlice 32 rLabel):=⟨by kernel_rfl⟩
instance:FOff Tryz.prog 93 0 0:=⟨by kernel_rfl⟩
instance:FOff Tryz.prog 93 1 1:=⟨by kernel_rfl⟩
instance:FOff Tryz.prog 93 2 6:=⟨by kernel_rfl⟩
instance:FOff Tryz.prog 93 3 7:=⟨by kernel_rfl⟩
instance:FOff Tryz.prog 93 4 8:=⟨by kernel_rfl⟩
instance:FOff Tryz.prog 93 5 9:=⟨by kernel_rfl⟩
instance:Zero Tryz.prog 93 (.agg #[.string ⟨#[]⟩,.int .i64 0,.int .i64 0,.int .i64 0,.int .i64 0,.int .i64 0,.slice none 0 0,.slice none 0 0,.bool false,.bool false]):=⟨by kernel_rfl⟩
instance:ZF Tryz.prog 93 [.string ⟨#[]⟩,.agg #[.int .i64 0,.int .i64 0,.int .i64 0,.int .i64 0,.int .i64 0],.slice none 0 0,.slice none 0 0,.bool false,.bool false]:=⟨by kernel_rfl,by kernel_rfl⟩
instance:Byt Tryz.prog 93 112:=⟨by kernel_rfl⟩
instance:FOff Tryz.prog 94 0 0:=⟨by kernel_rfl⟩
instance:FOff Tryz.prog 94 1 1:=⟨by kernel_rfl⟩
instance:FOff Tryz.prog 94 2 6:=⟨by kernel_rfl⟩
instance:FOff Tryz.prog 94 3 7:=⟨by kernel_rfl⟩
instance:FOff Tryz.prog 94 4 8:=⟨by kernel_rfl⟩
instance:FOff Tryz.prog 94 5 9:=⟨by kernel_rfl⟩
instance:Zero Tryz.prog 94 (.agg #[.string ⟨#[]⟩,.int .i64 0,.int .i64 0,.int .i64 0,.int .i64 0,.int .i64 0,.slice none 0 0,.slice none 0 0,.bool false,.bool false]):=⟨by kernel_rfl⟩
instance:ZF Tryz.prog 94 [.string ⟨#[]⟩,.agg #[.int .i64 0,.int .i64 0,.int .i64 0,.int .i64 0,.int .i64 0],.slice none 0 0,.slice none 0 0,.bool false,.bool false]:=⟨by kernel_rfl,by kernel_rfl⟩
instance:Conc Tryz.prog 94:=⟨by kernel_rfl⟩
instance:Byt Tryz.prog 94 112:=⟨by kernel_rfl⟩
instance:TyR Tryz.prog 94 rNode:=⟨by kernel_rfl⟩
instance:TyR Tryz.prog 96 rVal:=⟨by kernel_rfl⟩
instance:TyR Tryz.prog 98 rVal:=⟨by kernel_rfl⟩
instance:TyR Tryz.prog 99 rVal:=⟨by kernel_rfl⟩
instance:TyR Tryz.prog 100 rVal:=⟨by kernel_rfl⟩
instance:TyR Tryz.prog 101 rVal:=⟨by kernel_rfl⟩
instance:TyR Tryz.prog 102 rVal:=⟨by kernel_rfl⟩
instance:TyR Tryz.prog 103 rVal:=⟨by kernel_rfl⟩
instance:TyR Tryz.prog 104 rVal:=⟨by kernel_rfl⟩
instance:Und Tryz.prog 105 (.map 110 3):=⟨Tryz.underlying105⟩
instance:Zero Tryz.prog 105 (.map none):=⟨by kernel_rfl⟩
instance:Byt Tryz.prog 105 8:=⟨by kernel_rfl⟩
instance:TyR Tryz.prog 105 rVal:=⟨by kernel_rfl⟩
instance:Und Tryz.prog 106 (.map 110 3):=⟨Tryz.underlying106⟩
instance:Zero Tryz.prog 106 (.map none):=⟨by kernel_rfl⟩
instance:Conc Tryz.prog 106:=⟨by kernel_rfl⟩
instance:Byt Tryz.prog 106 8:=⟨by kernel_rfl⟩
instance:TyR Tryz.prog 106 rVal:=⟨by kernel_rfl⟩
instance:TyR Tryz.prog 108 rVal:=⟨by kernel_rfl⟩
instance:FOff Tryz.prog 109 0 0:=⟨by kernel_rfl⟩
instance:FOff Tryz.prog 109 1 1:=⟨by kernel_rfl⟩
instance:FOff Tryz.prog 109 2 2:=⟨by kernel_rfl⟩
instance:Zero Tryz.prog 109 (.agg #[.int .i64 0,.int .i64 0,.int .i64 0]):=⟨by kernel_rfl⟩
instance:ZF Tryz.prog 109 [.int .i64 0,.int .i64 0,.int .i64 0]:=⟨by kernel_rfl,by kernel_rfl⟩
instance:FlatS Tryz.prog 109 [.int,.int,.int]:=⟨by kernel_rfl,by kernel_rfl,by kernel_rfl⟩
instance:Byt Tryz.prog 109 24:=⟨by kernel_rfl⟩
instance:FOff Tryz.prog 110 0 0:=⟨by kernel_rfl⟩
instance:FOff Tryz.prog 110 1 1:=⟨by kernel_rfl⟩
instance:FOff Tryz.prog 110 2 2:=⟨by kernel_rfl⟩
instance:Zero Tryz.prog 110 (.agg #[.int .i64 0,.int .i64 0,.int .i64 0]):=⟨by kernel_rfl⟩
instance:ZF Tryz.prog 110 [.int .i64 0,.int .i64 0,.int .i64 0]:=⟨by kernel_rfl,by kernel_rfl⟩
instance:FlatS Tryz.prog 110 [.int,.int,.int]:=⟨by kernel_rfl,by kernel_rfl,by kernel_rfl⟩
instance:Conc Tryz.prog 110:=⟨by kernel_rfl⟩
instance:Byt Tryz.prog 110 24:=⟨by kernel_rfl⟩
instance:TyR Tryz.prog 111 rVal:=⟨by kernel_rfl⟩
instance:TyR Tryz.prog 112 rVal:=⟨by kernel_rfl⟩
instance:FOff Tryz.prog 113 0 0:=⟨by kernel_rfl⟩
instance:FOff Tryz.prog 113 1 3:=⟨by kernel_rfl⟩
instance:Zero Tryz.prog 113 (.agg #[.slice none 0 0,.slice none 0 0,.slice none 0 0,.int .i64 0,.int .i64 0,.int .i64 0,.int .i64 0,.int .i64 0]):=⟨by kernel_rfl⟩
instance:ZF Tryz.prog 113 [.agg #[.slice none 0 0,.slice none 0 0,.slice none 0 0],.agg #[.int .i64 0,.int .i64 0,.int .i64 0,.int .i64 0,.int .i64 0]]:=⟨by kernel_rfl,by kernel_rfl⟩
instance:Byt Tryz.prog 113 112:=⟨by kernel_rfl⟩
instance:FOff Tryz.prog 114 0 0:=⟨by kernel_rfl⟩
instance:FOff Tryz.prog 114 1 3:=⟨by kernel_rfl⟩
instance:Zero Tryz.prog 114 (.agg #[.slice none 0 0,.slice none 0 0,.slice none 0 0,.int .i64 0,.int .i64 0,.int .i64 0,.int .i64 0,.int .i64 0]):=⟨by kernel_rfl⟩
instance:ZF Tryz.prog 114 [.agg #[.slice none 0 0,.slice none 0 0,.slice none 0 0],.agg #[.int .i64 0,.int .i64 0,.int .i64 0,.int .i64 0,.int .i64 0]]:=⟨by kernel_rfl,by kernel_rfl⟩
instance:Conc Tryz.prog 114:=⟨by kernel_rfl⟩
instance:Byt Tryz.prog 114 112:=⟨by kernel_rfl⟩
instance:TyR Tryz.prog 115 rVal:=⟨by kernel_rfl⟩
instance:TyR Tryz.prog 116 rVal:=⟨by kernel_rfl⟩
instance:TyR Tryz.prog 117 rVal:=⟨by kernel_rfl⟩
instance:TyR Tryz.prog 118 rVal:=⟨by kernel_rfl⟩
instance:Byt Tryz.prog 119 16:=⟨by kernel_rfl⟩
instance:TyR Tryz.prog 119 rVal:=⟨by kernel_rfl⟩
instance:TyR Tryz.prog 121 rVal:=⟨by kernel_rfl⟩
instance:Und Tryz.prog 123 (.slice 215):=⟨Tryz.underlying123⟩
instance:Zero Tryz.prog 123 (.slice none 0 0):=⟨by kernel_rfl⟩
instance:Byt Tryz.prog 123 24:=⟨by kernel_rfl⟩
instance:TyR Tryz.prog 123 (rSlice 40 rTerm):=⟨by kernel_rfl⟩
instance:FOff Tryz.prog 124 0 0:=⟨by kernel_rfl⟩
instance:FOff Tryz.prog 124 1 1:=⟨by kernel_rfl⟩
instance:Zero Tryz.prog 124 (.agg #[.string ⟨#[]⟩,.slice none 0 0]):=⟨by kernel_rfl⟩
instance:ZF Tryz.prog 124 [.string ⟨#[]⟩,.slice none 0 0]:=⟨by kernel_rfl,by kernel_rfl⟩
instance:Byt Tryz.prog 124 40:=⟨by kernel_rfl⟩
instance:FOff Tryz.prog 125 0 0:=⟨by kernel_rfl⟩
instance:FOff Tryz.prog 125 1 1:=⟨by kernel_rfl⟩
instance:Zero Tryz.prog 125 (.agg #[.string ⟨#[]⟩,.slice none 0 0]):=⟨by kernel_rfl⟩
instance:ZF Tryz.prog 125 [.string ⟨#[]⟩,.slice none 0 0]:=⟨by kernel_rfl,by kernel_rfl⟩
instance:Conc Tryz.prog 125:=⟨by kernel_rfl⟩
instance:Byt Tryz.prog 125 40:=⟨by kernel_rfl⟩
instance:TyR Tryz.prog 125 rNear:=⟨by kernel_rfl⟩
instance:FOff Tryz.prog 126 0 0:=⟨by kernel_rfl⟩
instance:FOff Tryz.prog 126 1 1:=⟨by kernel_rfl⟩
instance:FOff Tryz.prog 126 2 2:=⟨by kernel_rfl⟩
instance:FOff Tryz.prog 126 3 7:=⟨by kernel_rfl⟩
instance:FOff Tryz.prog 126 4 8:=⟨by kernel_rfl⟩
instance:FOff Tryz.prog 126 5 9:=⟨by kernel_rfl⟩
instance:FOff Tryz.prog 126 6 10:=⟨by kernel_rfl⟩
instance:FOff Tryz.prog 126 7 12:=⟨by kernel_rfl⟩
instance:FOff Tryz.prog 126 8 14:=⟨by kernel_rfl⟩
instance:Zero Tryz.prog 126 (.agg #[.string ⟨#[]⟩,.string ⟨#[]⟩,.int .i64 0,.int .i64 0,.int .i64 0,.int .i64 0,.int .i64 0,.slice none 0 0,.slice none 0 0,.slice none 0 0,.string ⟨#[]⟩,.slice none 0 0,.string ⟨#[]⟩,.slice none 0 0,.string ⟨#[]⟩]):=⟨by kernel_rfl⟩
instance:ZF Tryz.prog 126 [.string ⟨#[]⟩,.string ⟨#[]⟩,.agg #[.int .i64 0,.int .i64 0,.int .i64 0,.int .i64 0,.int .i64 0],.slice none 0 0,.slice none 0 0,.slice none 0 0,.agg #[.string ⟨#[]⟩,.slice none 0 0],.agg #[.string ⟨#[]⟩,.slice none 0 0],.string ⟨#[]⟩]:=⟨by kernel_rfl,by kernel_rfl⟩
instance:Byt Tryz.prog 126 240:=⟨by kernel_rfl⟩
instance:FOff Tryz.prog 127 0 0:=⟨by kernel_rfl⟩
instance:FOff Tryz.prog 127 1 1:=⟨by kernel_rfl⟩
instance:FOff Tryz.prog 127 2 2:=⟨by kernel_rfl⟩
instance:FOff Tryz.prog 127 3 7:=⟨by kernel_rfl⟩
instance:FOff Tryz.prog 127 4 8:=⟨by kernel_rfl⟩
instance:FOff Tryz.prog 127 5 9:=⟨by kernel_rfl⟩
instance:FOff Tryz.prog 127 6 10:=⟨by kernel_rfl⟩
instance:FOff Tryz.prog 127 7 12:=⟨by kernel_rfl⟩
instance:FOff Tryz.prog 127 8 14:=⟨by kernel_rfl⟩
instance:Zero Tryz.prog 127 (.agg #[.string ⟨#[]⟩,.string ⟨#[]⟩,.int .i64 0,.int .i64 0,.int .i64 0,.int .i64 0,.int .i64 0,.slice none 0 0,.slice none 0 0,.slice none 0 0,.string ⟨#[]⟩,.slice none 0 0,.string ⟨#[]⟩,.slice none 0 0,.string ⟨#[]⟩]):=⟨by kernel_rfl⟩
instance:ZF Tryz.prog 127 [.string ⟨#[]⟩,.string ⟨#[]⟩,.agg #[.int .i64 0,.int .i64 0,.int .i64 0,.int .i64 0,.int .i64 0],.slice none 0 0,.slice none 0 0,.slice none 0 0,.agg #[.string ⟨#[]⟩,.slice none 0 0],.agg #[.string ⟨#[]⟩,.slice none 0 0],.string ⟨#[]⟩]:=⟨by kernel_rfl,by kernel_rfl⟩
instance:Conc Tryz.prog 127:=⟨by kernel_rfl⟩
instance:Byt Tryz.prog 127 240:=⟨by kernel_rfl⟩
instance:TyR Tryz.prog 127 rPod:=⟨by kernel_rfl⟩
instance:TyR Tryz.prog 128 rVal:=⟨by kernel_rfl⟩
instance:TyR Tryz.prog 129 rVal:=⟨by kernel_rfl⟩
instance:TyR Tryz.prog 130 rVal:=⟨by kernel_rfl⟩
instance:Und Tryz.prog 131 (.pointer 200):=⟨Tryz.underlying131⟩
instance:Zero Tryz.prog 131 (.pointer none):=⟨by kernel_rfl⟩
instance:Byt Tryz.prog 131 8:=⟨by kernel_rfl⟩
instance:TyR Tryz.prog 131 rVal:=⟨by kernel_rfl⟩
instance:TyR Tryz.prog 133 rVal:=⟨by kernel_rfl⟩
instance:TyR Tryz.prog 134 rVal:=⟨by kernel_rfl⟩
instance:TyR Tryz.prog 135 rVal:=⟨by kernel_rfl⟩
instance:TyR Tryz.prog 136 rVal:=⟨by kernel_rfl⟩
instance:TyR Tryz.prog 137 rVal:=⟨by kernel_rfl⟩
instance:Und Tryz.prog 138 (.array 5 4):=⟨Tryz.underlying138⟩
instance:Zero Tryz.prog 138 (.agg #[.bool false,.bool false,.bool false,.bool false,.bool false]):=⟨by kernel_rfl⟩
instance:ZA Tryz.prog 138 5 4 1 (.bool false):=⟨Tryz.underlying138,by kernel_rfl,rfl,by kernel_rfl⟩
instance:Byt Tryz.prog 138 5:=⟨by kernel_rfl⟩
instance:TyR Tryz.prog 139 rVal:=⟨by kernel_rfl⟩
instance:TyR Tryz.prog 140 rVal:=⟨by kernel_rfl⟩
instance:TyR Tryz.prog 141 rVal:=⟨by kernel_rfl⟩
instance:TyR Tryz.prog 142 rVal:=⟨by kernel_rfl⟩
instance:TyR Tryz.prog 143 rVal:=⟨by kernel_rfl⟩
instance:TyR Tryz.prog 144 rVal:=⟨by kernel_rfl⟩
instance:TyR Tryz.prog 145 rVal:=⟨by kernel_rfl⟩
instance:FOff Tryz.prog 146 0 0:=⟨by kernel_rfl⟩
instance:FOff Tryz.prog 146 1 1:=⟨by kernel_rfl⟩
instance:FOff Tryz.prog 146 2 2:=⟨by kernel_rfl⟩
instance:FOff Tryz.prog 146 3 3:=⟨by kernel_rfl⟩
instance:FOff Tryz.prog 146 4 4:=⟨by kernel_rfl⟩
instance:Zero Tryz.prog 146 (.agg #[.string ⟨#[]⟩,.int .i64 0,.string ⟨#[]⟩,.int .i64 0,.bool false]):=⟨by kernel_rfl⟩
instance:ZF Tryz.prog 146 [.string ⟨#[]⟩,.int .i64 0,.string ⟨#[]⟩,.int .i64 0,.bool false]:=⟨by kernel_rfl,by kernel_rfl⟩
instance:FlatS Tryz.prog 146 [.str,.int,.str,.int,.bool]:=⟨by kernel_rfl,by kernel_rfl,by kernel_rfl⟩
instance:Byt Tryz.prog 146 56:=⟨by kernel_rfl⟩
instance:FOff Tryz.prog 147 0 0:=⟨by kernel_rfl⟩
instance:FOff Tryz.prog 147 1 1:=⟨by kernel_rfl⟩
instance:FOff Tryz.prog 147 2 2:=⟨by kernel_rfl⟩
instance:FOff Tryz.prog 147 3 3:=⟨by kernel_rfl⟩
instance:FOff Tryz.prog 147 4 4:=⟨by kernel_rfl⟩
instance:Zero Tryz.prog 147 (.agg #[.string ⟨#[]⟩,.int .i64 0,.string ⟨#[]⟩,.int .i64 0,.bool false]):=⟨by kernel_rfl⟩
instance:ZF Tryz.prog 147 [.string ⟨#[]⟩,.int .i64 0,.string ⟨#[]⟩,.int .i64 0,.bool false]:=⟨by kernel_rfl,by kernel_rfl⟩
instance:FlatS Tryz.prog 147 [.str,.int,.str,.int,.bool]:=⟨by kernel_rfl,by kernel_rfl,by kernel_rfl⟩
instance:Conc Tryz.prog 147:=⟨by kernel_rfl⟩
instance:Byt Tryz.prog 147 56:=⟨by kernel_rfl⟩
instance:TyR Tryz.prog 147 rOwner:=⟨by kernel_rfl⟩
instance:TyR Tryz.prog 148 rVal:=⟨by kernel_rfl⟩
instance:TyR Tryz.prog 149 rVal:=⟨by kernel_rfl⟩
instance:TyR Tryz.prog 150 rVal:=⟨by kernel_rfl⟩
instance:TyR Tryz.prog 151 rVal:=⟨by kernel_rfl⟩
instance:TyR Tryz.prog 152 rVal:=⟨by kernel_rfl⟩
instance:TyR Tryz.prog 153 rVal:=⟨by kernel_rfl⟩
instance:TyR Tryz.prog 154 rVal:=⟨by kernel_rfl⟩
instance:TyR Tryz.prog 155 rVal:=⟨by kernel_rfl⟩
instance:TyR Tryz.prog 156 rVal:=⟨by kernel_rfl⟩
instance:Und Tryz.prog 157 (.int .u64):=⟨Tryz.underlying157⟩
instance:Zero Tryz.prog 157 (.int .u64 0):=⟨by kernel_rfl⟩
instance:Byt Tryz.prog 157 8:=⟨by kernel_rfl⟩
instance:TyR Tryz.prog 157 (rInt .u64):=⟨by kernel_rfl⟩
instance:TyR Tryz.prog 159 rVal:=⟨by kernel_rfl⟩
instance:TyR Tryz.prog 160 rVal:=⟨by kernel_rfl⟩
instance:TyR Tryz.prog 161 rVal:=⟨by kernel_rfl⟩
instance:TyR Tryz.prog 162 rVal:=⟨by kernel_rfl⟩
instance:Und Tryz.prog 163 (.pointer 167):=⟨Tryz.underlying163⟩
instance:Zero Tryz.prog 163 (.pointer none):=⟨by kernel_rfl⟩
instance:Byt Tryz.prog 163 8:=⟨by kernel_rfl⟩
instance:TyR Tryz.prog 163 rVal:=⟨by kernel_rfl⟩
instance:TyR Tryz.prog 164 rVal:=⟨by kernel_rfl⟩
instance:Und Tryz.prog 165 (.map 3 3):=⟨Tryz.underlying165⟩
instance:Zero Tryz.prog 165 (.map none):=⟨by kernel_rfl⟩
instance:Byt Tryz.prog 165 8:=⟨by kernel_rfl⟩
instance:TyR Tryz.prog 165 rVal:=⟨by kernel_rfl⟩
instance:FOff Tryz.prog 166 0 0:=⟨by kernel_rfl⟩
instance:FOff Tryz.prog 166 1 3:=⟨by kernel_rfl⟩
instance:FOff Tryz.prog 166 2 4:=⟨by kernel_rfl⟩
instance:FOff Tryz.prog 166 3 5:=⟨by kernel_rfl⟩
instance:FOff Tryz.prog 166 4 6:=⟨by kernel_rfl⟩
instance:Zero Tryz.prog 166 (.agg #[.slice none 0 0,.slice none 0 0,.slice none 0 0,.slice none 0 0,.slice none 0 0,.slice none 0 0,.map none]):=⟨by kernel_rfl⟩
instance:ZF Tryz.prog 166 [.agg #[.slice none 0 0,.slice none 0 0,.slice none 0 0],.slice none 0 0,.slice none 0 0,.slice none 0 0,.map none]:=⟨by kernel_rfl,by kernel_rfl⟩
instance:Byt Tryz.prog 166 152:=⟨by kernel_rfl⟩
instance:FOff Tryz.prog 167 0 0:=⟨by kernel_rfl⟩
instance:FOff Tryz.prog 167 1 3:=⟨by kernel_rfl⟩
instance:FOff Tryz.prog 167 2 4:=⟨by kernel_rfl⟩
instance:FOff Tryz.prog 167 3 5:=⟨by kernel_rfl⟩
instance:FOff Tryz.prog 167 4 6:=⟨by kernel_rfl⟩
instance:Zero Tryz.prog 167 (.agg #[.slice none 0 0,.slice none 0 0,.slice none 0 0,.slice none 0 0,.slice none 0 0,.slice none 0 0,.map none]):=⟨by kernel_rfl⟩
instance:ZF Tryz.prog 167 [.agg #[.slice none 0 0,.slice none 0 0,.slice none 0 0],.slice none 0 0,.slice none 0 0,.slice none 0 0,.map none]:=⟨by kernel_rfl,by kernel_rfl⟩
instance:Conc Tryz.prog 167:=⟨by kernel_rfl⟩
instance:Byt Tryz.prog 167 152:=⟨by kernel_rfl⟩
instance:TyR Tryz.prog 168 rVal:=⟨by kernel_rfl⟩
instance:TyR Tryz.prog 169 rVal:=⟨by kernel_rfl⟩
instance:TyR Tryz.prog 170 rVal:=⟨by kernel_rfl⟩
instance:TyR Tryz.prog 171 rVal:=⟨by kernel_rfl⟩
instance:FOff Tryz.prog 172 0 0:=⟨by kernel_rfl⟩
instance:FOff Tryz.prog 172 1 3:=⟨by kernel_rfl⟩
instance:FOff Tryz.prog 172 2 4:=⟨by kernel_rfl⟩
instance:Zero Tryz.prog 172 (.agg #[.slice none 0 0,.slice none 0 0,.slice none 0 0,.slice none 0 0,.int .i64 0]):=⟨by kernel_rfl⟩
instance:ZF Tryz.prog 172 [.agg #[.slice none 0 0,.slice none 0 0,.slice none 0 0],.slice none 0 0,.int .i64 0]:=⟨by kernel_rfl,by kernel_rfl⟩
instance:Byt Tryz.prog 172 104:=⟨by kernel_rfl⟩
instance:FOff Tryz.prog 173 0 0:=⟨by kernel_rfl⟩
instance:FOff Tryz.prog 173 1 3:=⟨by kernel_rfl⟩
instance:FOff Tryz.prog 173 2 4:=⟨by kernel_rfl⟩
instance:Zero Tryz.prog 173 (.agg #[.slice none 0 0,.slice none 0 0,.slice none 0 0,.slice none 0 0,.int .i64 0]):=⟨by kernel_rfl⟩
instance:ZF Tryz.prog 173 [.agg #[.slice none 0 0,.slice none 0 0,.slice none 0 0],.slice none 0 0,.int .i64 0]:=⟨by kernel_rfl,by kernel_rfl⟩
instance:Conc Tryz.prog 173:=⟨by kernel_rfl⟩
instance:Byt Tryz.prog 173 104:=⟨by kernel_rfl⟩
instance:TyR Tryz.prog 174 rVal:=⟨by kernel_rfl⟩
instance:TyR Tryz.prog 175 rVal:=⟨by kernel_rfl⟩
instance:TyR Tryz.prog 176 rVal:=⟨by kernel_rfl⟩
instance:TyR Tryz.prog 177 rVal:=⟨by kernel_rfl⟩
instance:TyR Tryz.prog 178 rVal:=⟨by kernel_rfl⟩
instance:TyR Tryz.prog 179 rVal:=⟨by kernel_rfl⟩
instance:TyR Tryz.prog 180 rVal:=⟨by kernel_rfl⟩
instance:TyR Tryz.prog 181 rVal:=⟨by kernel_rfl⟩
instance:TyR Tryz.prog 182 rVal:=⟨by kernel_rfl⟩
instance:TyR Tryz.prog 183 rVal:=⟨by kernel_rfl⟩
instance:TyR Tryz.prog 184 rVal:=⟨by kernel_rfl⟩
instance:TyR Tryz.prog 185 rVal:=⟨by kernel_rfl⟩
instance:TyR Tryz.prog 187 rVal:=⟨by kernel_rfl⟩
instance:Und Tryz.prog 188 (.slice 91):=⟨Tryz.underlying188⟩
instance:Zero Tryz.prog 188 (.slice none 0 0):=⟨by kernel_rfl⟩
instance:Byt Tryz.prog 188 24:=⟨by kernel_rfl⟩
instance:TyR Tryz.prog 188 (rSlice 40 (rArr 5)):=⟨by kernel_rfl⟩
instance:TyR Tryz.prog 189 rVal:=⟨by kernel_rfl⟩
instance:TyR Tryz.prog 190 rVal:=⟨by kernel_rfl⟩
instance:TyR Tryz.prog 191 rVal:=⟨by kernel_rfl⟩
instance:TyR Tryz.prog 192 rVal:=⟨by kernel_rfl⟩
instance:TyR Tryz.prog 193 rVal:=⟨by kernel_rfl⟩
instance:TyR Tryz.prog 194 rVal:=⟨by kernel_rfl⟩
instance:TyR Tryz.prog 195 rVal:=⟨by kernel_rfl⟩
instance:TyR Tryz.prog 196 rVal:=⟨by kernel_rfl⟩
instance:TyR Tryz.prog 198 rVal:=⟨by kernel_rfl⟩
instance:FOff Tryz.prog 199 0 0:=⟨by kernel_rfl⟩
instance:FOff Tryz.prog 199 1 3:=⟨by kernel_rfl⟩
instance:FOff Tryz.prog 199 2 4:=⟨by kernel_rfl⟩
instance:FOff Tryz.prog 199 3 13:=⟨by kernel_rfl⟩
instance:FOff Tryz.prog 199 4 14:=⟨by kernel_rfl⟩
instance:Zero Tryz.prog 199 (.agg #[.slice none 0 0,.slice none 0 0,.slice none 0 0,.slice none 0 0,.int .i64 0,.int .i64 0,.int .i64 0,.int .i64 0,.int .i64 0,.slice none 0 0,.int .i64 0,.int .i64 0,.bool false,.slice none 0 0,.slice none 0 0]):=⟨by kernel_rfl⟩
instance:ZF Tryz.prog 199 [.agg #[.slice none 0 0,.slice none 0 0,.slice none 0 0],.slice none 0 0,.agg #[.int .i64 0,.int .i64 0,.int .i64 0,.int .i64 0,.int .i64 0,.slice none 0 0,.int .i64 0,.int .i64 0,.bool false],.slice none 0 0,.slice none 0 0]:=⟨by kernel_rfl,by kernel_rfl⟩
instance:Byt Tryz.prog 199 232:=⟨by kernel_rfl⟩
instance:FOff Tryz.prog 200 0 0:=⟨by kernel_rfl⟩
instance:FOff Tryz.prog 200 1 3:=⟨by kernel_rfl⟩
instance:FOff Tryz.prog 200 2 4:=⟨by kernel_rfl⟩
instance:FOff Tryz.prog 200 3 13:=⟨by kernel_rfl⟩
instance:FOff Tryz.prog 200 4 14:=⟨by kernel_rfl⟩
instance:Zero Tryz.prog 200 (.agg #[.slice none 0 0,.slice none 0 0,.slice none 0 0,.slice none 0 0,.int .i64 0,.int .i64 0,.int .i64 0,.int .i64 0,.int .i64 0,.slice none 0 0,.int .i64 0,.int .i64 0,.bool false,.slice none 0 0,.slice none 0 0]):=⟨by kernel_rfl⟩
instance:ZF Tryz.prog 200 [.agg #[.slice none 0 0,.slice none 0 0,.slice none 0 0],.slice none 0 0,.agg #[.int .i64 0,.int .i64 0,.int .i64 0,.int .i64 0,.int .i64 0,.slice none 0 0,.int .i64 0,.int .i64 0,.bool false],.slice none 0 0,.slice none 0 0]:=⟨by kernel_rfl,by kernel_rfl⟩
instance:Conc Tryz.prog 200:=⟨by kernel_rfl⟩
instance:Byt Tryz.prog 200 232:=⟨by kernel_rfl⟩
instance:Und Tryz.prog 201 (.slice 205):=⟨Tryz.underlying201⟩
instance:Zero Tryz.prog 201 (.slice none 0 0):=⟨by kernel_rfl⟩
instance:Byt Tryz.prog 201 24:=⟨by kernel_rfl⟩
instance:TyR Tryz.prog 202 rVal:=⟨by kernel_rfl⟩
instance:TyR Tryz.prog 203 rVal:=⟨by kernel_rfl⟩
instance:FOff Tryz.prog 204 0 0:=⟨by kernel_rfl⟩
instance:FOff Tryz.prog 204 1 1:=⟨by kernel_rfl⟩
instance:FOff Tryz.prog 204 2 2:=⟨by kernel_rfl⟩
instance:Zero Tryz.prog 204 (.agg #[.int .i64 0,.int .i64 0,.nilFunc]):=⟨by kernel_rfl⟩
instance:ZF Tryz.prog 204 [.int .i64 0,.int .i64 0,.nilFunc]:=⟨by kernel_rfl,by kernel_rfl⟩
instance:Byt Tryz.prog 204 24:=⟨by kernel_rfl⟩
instance:FOff Tryz.prog 205 0 0:=⟨by kernel_rfl⟩
instance:FOff Tryz.prog 205 1 1:=⟨by kernel_rfl⟩
instance:FOff Tryz.prog 205 2 2:=⟨by kernel_rfl⟩
instance:Zero Tryz.prog 205 (.agg #[.int .i64 0,.int .i64 0,.nilFunc]):=⟨by kernel_rfl⟩
instance:ZF Tryz.prog 205 [.int .i64 0,.int .i64 0,.nilFunc]:=⟨by kernel_rfl,by kernel_rfl⟩
instance:Conc Tryz.prog 205:=⟨by kernel_rfl⟩
instance:Byt Tryz.prog 205 24:=⟨by kernel_rfl⟩
instance:TyR Tryz.prog 206 rVal:=⟨by kernel_rfl⟩
instance:Und Tryz.prog 207 (.slice 137):=⟨Tryz.underlying207⟩
instance:Zero Tryz.prog 207 (.slice none 0 0):=⟨by kernel_rfl⟩
instance:Byt Tryz.prog 207 24:=⟨by kernel_rfl⟩
instance:TyR Tryz.prog 209 rVal:=⟨by kernel_rfl⟩
instance:TyR Tryz.prog 210 rVal:=⟨by kernel_rfl⟩
instance:TyR Tryz.prog 211 rVal:=⟨by kernel_rfl⟩
instance:FOff Tryz.prog 212 0 0:=⟨by kernel_rfl⟩
instance:FOff Tryz.prog 212 1 1:=⟨by kernel_rfl⟩
instance:Zero Tryz.prog 212 (.agg #[.string ⟨#[]⟩,.string ⟨#[]⟩]):=⟨by kernel_rfl⟩
instance:ZF Tryz.prog 212 [.string ⟨#[]⟩,.string ⟨#[]⟩]:=⟨by kernel_rfl,by kernel_rfl⟩
instance:FlatS Tryz.prog 212 [.str,.str]:=⟨by kernel_rfl,by kernel_rfl,by kernel_rfl⟩
instance:Byt Tryz.prog 212 32:=⟨by kernel_rfl⟩
instance:FOff Tryz.prog 213 0 0:=⟨by kernel_rfl⟩
instance:FOff Tryz.prog 213 1 1:=⟨by kernel_rfl⟩
instance:Zero Tryz.prog 213 (.agg #[.string ⟨#[]⟩,.string ⟨#[]⟩]):=⟨by kernel_rfl⟩
instance:ZF Tryz.prog 213 [.string ⟨#[]⟩,.string ⟨#[]⟩]:=⟨by kernel_rfl,by kernel_rfl⟩
instance:FlatS Tryz.prog 213 [.str,.str]:=⟨by kernel_rfl,by kernel_rfl,by kernel_rfl⟩
instance:Conc Tryz.prog 213:=⟨by kernel_rfl⟩
instance:Byt Tryz.prog 213 32:=⟨by kernel_rfl⟩
instance:TyR Tryz.prog 213 rLabel:=⟨by kernel_rfl⟩
instance:FOff Tryz.prog 214 0 0:=⟨by kernel_rfl⟩
instance:FOff Tryz.prog 214 1 1:=⟨by kernel_rfl⟩
instance:FOff Tryz.prog 214 2 2:=⟨by kernel_rfl⟩
instance:Zero Tryz.prog 214 (.agg #[.int .i64 0,.string ⟨#[]⟩,.string ⟨#[]⟩]):=⟨by kernel_rfl⟩
instance:ZF Tryz.prog 214 [.int .i64 0,.string ⟨#[]⟩,.string ⟨#[]⟩]:=⟨by kernel_rfl,by kernel_rfl⟩
instance:FlatS Tryz.prog 214 [.int,.str,.str]:=⟨by kernel_rfl,by kernel_rfl,by kernel_rfl⟩
instance:Byt Tryz.prog 214 40:=⟨by kernel_rfl⟩
instance:FOff Tryz.prog 215 0 0:=⟨by kernel_rfl⟩
instance:FOff Tryz.prog 215 1 1:=⟨by kernel_rfl⟩
instance:FOff Tryz.prog 215 2 2:=⟨by kernel_rfl⟩
instance:Zero Tryz.prog 215 (.agg #[.int .i64 0,.string ⟨#[]⟩,.string ⟨#[]⟩]):=⟨by kernel_rfl⟩
instance:ZF Tryz.prog 215 [.int .i64 0,.string ⟨#[]⟩,.string ⟨#[]⟩]:=⟨by kernel_rfl,by kernel_rfl⟩
instance:FlatS Tryz.prog 215 [.int,.str,.str]:=⟨by kernel_rfl,by kernel_rfl,by kernel_rfl⟩
instance:Conc Tryz.prog 215:=⟨by kernel_rfl⟩
instance:Byt Tryz.prog 215 40:=⟨by kernel_rfl⟩
instance:TyR Tryz.prog 215 rTerm:=⟨by kernel_rfl⟩
instance:TyR Tryz.prog 216 rVal:=⟨by kernel_rfl⟩
instance:TyR Tryz.prog 217 rVal:=⟨by kernel_rfl⟩
instance:TyR Tryz.prog 218 rVal:=⟨by kernel_rfl⟩
instance:Byt Tryz.prog 219 8:=⟨by kernel_rfl⟩
instance:TyR Tryz.prog 219 rVal:=⟨by kernel_rfl⟩
instance:TyR Tryz.prog 220 rVal:=⟨by kernel_rfl⟩
instance:Und Tryz.prog 221 (.pointer 276):=⟨Tryz.underlying221⟩
instance:Zero Tryz.prog 221 (.pointer none):=⟨by kernel_rfl⟩
instance:Byt Tryz.prog 221 8:=⟨by kernel_rfl⟩
instance:TyR Tryz.prog 221 rVal:=⟨by kernel_rfl⟩
instance:TyR Tryz.prog 223 rVal:=⟨by kernel_rfl⟩
instance:TyR Tryz.prog 224 rVal:=⟨by kernel_rfl⟩
instance:TyR Tryz.prog 225 rVal:=⟨by kernel_rfl⟩
instance:TyR Tryz.prog 226 rVal:=⟨by kernel_rfl⟩
instance:TyR Tryz.prog 227 rVal:=⟨by kernel_rfl⟩
instance:TyR Tryz.prog 228 rVal:=⟨by kernel_rfl⟩
instance:TyR Tryz.prog 229 rVal:=⟨by kernel_rfl⟩
instance:Byt Tryz.prog 230 8:=⟨by kernel_rfl⟩
instance:TyR Tryz.prog 230 rVal:=⟨by kernel_rfl⟩
instance:TyR Tryz.prog 231 rVal:=⟨by kernel_rfl⟩
instance:TyR Tryz.prog 232 rVal:=⟨by kernel_rfl⟩
instance:Und Tryz.prog 233 (.int .i64):=⟨Tryz.underlying233⟩
instance:Zero Tryz.prog 233 (.int .i64 0):=⟨by kernel_rfl⟩
instance:Byt Tryz.prog 233 8:=⟨by kernel_rfl⟩
instance:TyR Tryz.prog 233 rI64:=⟨by kernel_rfl⟩
instance:TyR Tryz.prog 235 rVal:=⟨by kernel_rfl⟩
instance:TyR Tryz.prog 236 rVal:=⟨by kernel_rfl⟩
instance:TyR Tryz.prog 237 rVal:=⟨by kernel_rfl⟩
instance:TyR Tryz.prog 238 rVal:=⟨by kernel_rfl⟩
instance:Und Tryz.prog 240 (.int .u32):=⟨Tryz.underlying240⟩
instance:Zero Tryz.prog 240 (.int .u32 0):=⟨by kernel_rfl⟩
instance:Byt Tryz.prog 240 4:=⟨by kernel_rfl⟩
instance:TyR Tryz.prog 240 (rInt .u32):=⟨by kernel_rfl⟩
instance:TyR Tryz.prog 241 rVal:=⟨by kernel_rfl⟩
instance:Und Tryz.prog 242 (.int .u64):=⟨Tryz.underlying242⟩
instance:Zero Tryz.prog 242 (.int .u64 0):=⟨by kernel_rfl⟩
instance:Byt Tryz.prog 242 8:=⟨by kernel_rfl⟩
instance:TyR Tryz.prog 242 (rInt .u64):=⟨by kernel_rfl⟩
instance:TyR Tryz.prog 243 rVal:=⟨by kernel_rfl⟩
instance:TyR Tryz.prog 244 rVal:=⟨by kernel_rfl⟩
instance:TyR Tryz.prog 245 rVal:=⟨by kernel_rfl⟩
instance:TyR Tryz.prog 246 rVal:=⟨by kernel_rfl⟩
instance:TyR Tryz.prog 247 rVal:=⟨by kernel_rfl⟩
instance:TyR Tryz.prog 248 rVal:=⟨by kernel_rfl⟩
instance:TyR Tryz.prog 249 rVal:=⟨by kernel_rfl⟩
instance:TyR Tryz.prog 250 rVal:=⟨by kernel_rfl⟩
instance:TyR Tryz.prog 251 rVal:=⟨by kernel_rfl⟩
instance:TyR Tryz.prog 252 rVal:=⟨by kernel_rfl⟩
instance:TyR Tryz.prog 253 rVal:=⟨by kernel_rfl⟩
instance:TyR Tryz.prog 254 rVal:=⟨by kernel_rfl⟩
instance:TyR Tryz.prog 256 rVal:=⟨by kernel_rfl⟩
instance:TyR Tryz.prog 257 rVal:=⟨by kernel_rfl⟩
instance:TyR Tryz.prog 259 rVal:=⟨by kernel_rfl⟩
instance:TyR Tryz.prog 260 rVal:=⟨by kernel_rfl⟩
instance:Und Tryz.prog 261 (.slice 31):=⟨Tryz.underlying261⟩
instance:Zero Tryz.prog 261 (.slice none 0 0):=⟨by kernel_rfl⟩
instance:Byt Tryz.prog 261 24:=⟨by kernel_rfl⟩
instance:TyR Tryz.prog 261 (rSlice 8 rI64):=⟨by kernel_rfl⟩
instance:TyR Tryz.prog 263 rVal:=⟨by kernel_rfl⟩
instance:TyR Tryz.prog 264 rVal:=⟨by kernel_rfl⟩
instance:TyR Tryz.prog 265 rVal:=⟨by kernel_rfl⟩
instance:TyR Tryz.prog 266 rVal:=⟨by kernel_rfl⟩
instance:TyR Tryz.prog 267 rVal:=⟨by kernel_rfl⟩
instance:TyR Tryz.prog 268 rVal:=⟨by kernel_rfl⟩
instance:TyR Tryz.prog 269 rVal:=⟨by kernel_rfl⟩
instance:TyR Tryz.prog 270 rVal:=⟨by kernel_rfl⟩
instance:TyR Tryz.prog 271 rVal:=⟨by kernel_rfl⟩
instance:TyR Tryz.prog 272 rVal:=⟨by kernel_rfl⟩
instance:TyR Tryz.prog 273 rVal:=⟨by kernel_rfl⟩
instance:Und Tryz.prog 274 (.map 9 356):=⟨Tryz.underlying274⟩
instance:Zero Tryz.prog 274 (.map none):=⟨by kernel_rfl⟩
instance:Byt Tryz.prog 274 8:=⟨by kernel_rfl⟩
instance:TyR Tryz.prog 274 rVal:=⟨by kernel_rfl⟩
instance:FOff Tryz.prog 275 0 0:=⟨by kernel_rfl⟩
instance:FOff Tryz.prog 275 1 3:=⟨by kernel_rfl⟩
instance:FOff Tryz.prog 275 2 4:=⟨by kernel_rfl⟩
instance:FOff Tryz.prog 275 3 5:=⟨by kernel_rfl⟩
instance:Zero Tryz.prog 275 (.agg #[.slice none 0 0,.slice none 0 0,.slice none 0 0,.slice none 0 0,.slice none 0 0,.map none]):=⟨by kernel_rfl⟩
instance:ZF Tryz.prog 275 [.agg #[.slice none 0 0,.slice none 0 0,.slice none 0 0],.slice none 0 0,.slice none 0 0,.map none]:=⟨by kernel_rfl,by kernel_rfl⟩
instance:Byt Tryz.prog 275 128:=⟨by kernel_rfl⟩
instance:FOff Tryz.prog 276 0 0:=⟨by kernel_rfl⟩
instance:FOff Tryz.prog 276 1 3:=⟨by kernel_rfl⟩
instance:FOff Tryz.prog 276 2 4:=⟨by kernel_rfl⟩
instance:FOff Tryz.prog 276 3 5:=⟨by kernel_rfl⟩
instance:Zero Tryz.prog 276 (.agg #[.slice none 0 0,.slice none 0 0,.slice none 0 0,.slice none 0 0,.slice none 0 0,.map none]):=⟨by kernel_rfl⟩
instance:ZF Tryz.prog 276 [.agg #[.slice none 0 0,.slice none 0 0,.slice none 0 0],.slice none 0 0,.slice none 0 0,.map none]:=⟨by kernel_rfl,by kernel_rfl⟩
instance:Conc Tryz.prog 276:=⟨by kernel_rfl⟩
instance:Byt Tryz.prog 276 128:=⟨by kernel_rfl⟩
instance:TyR Tryz.prog 277 rVal:=⟨by kernel_rfl⟩
instance:Und Tryz.prog 278 (.int .i64):=⟨Tryz.underlying278⟩
instance:Zero Tryz.prog 278 (.int .i64 0):=⟨by kernel_rfl⟩
instance:Conc Tryz.prog 278:=⟨by kernel_rfl⟩
instance:Byt Tryz.prog 278 8:=⟨by kernel_rfl⟩
instance:TyR Tryz.prog 278 rI64:=⟨by kernel_rfl⟩
instance:Und Tryz.prog 279 (.int .i64):=⟨Tryz.underlying279⟩
instance:Zero Tryz.prog 279 (.int .i64 0):=⟨by kernel_rfl⟩
instance:Conc Tryz.prog 279:=⟨by kernel_rfl⟩
instance:Byt Tryz.prog 279 8:=⟨by kernel_rfl⟩
instance:TyR Tryz.prog 279 rI64:=⟨by kernel_rfl⟩
instance:Und Tryz.prog 280 (.int .i64):=⟨Tryz.underlying280⟩
instance:Zero Tryz.prog 280 (.int .i64 0):=⟨by kernel_rfl⟩
instance:Conc Tryz.prog 280:=⟨by kernel_rfl⟩
instance:Byt Tryz.prog 280 8:=⟨by kernel_rfl⟩
instance:TyR Tryz.prog 280 rI64:=⟨by kernel_rfl⟩
instance:TyR Tryz.prog 281 rVal:=⟨by kernel_rfl⟩
instance:TyR Tryz.prog 282 rVal:=⟨by kernel_rfl⟩
instance:Und Tryz.prog 283 (.int .u64):=⟨Tryz.underlying283⟩
instance:Zero Tryz.prog 283 (.int .u64 0):=⟨by kernel_rfl⟩
instance:Byt Tryz.prog 283 8:=⟨by kernel_rfl⟩
instance:TyR Tryz.prog 283 (rInt .u64):=⟨by kernel_rfl⟩
instance:TyR Tryz.prog 284 rVal:=⟨by kernel_rfl⟩
instance:TyR Tryz.prog 285 rVal:=⟨by kernel_rfl⟩
instance:TyR Tryz.prog 286 rVal:=⟨by kernel_rfl⟩
instance:Und Tryz.prog 287 (.pointer 3):=⟨Tryz.underlying287⟩
instance:Zero Tryz.prog 287 (.pointer none):=⟨by kernel_rfl⟩
instance:Byt Tryz.prog 287 8:=⟨by kernel_rfl⟩
instance:TyR Tryz.prog 287 rVal:=⟨by kernel_rfl⟩
instance:TyR Tryz.prog 288 rVal:=⟨by kernel_rfl⟩
instance:TyR Tryz.prog 289 rVal:=⟨by kernel_rfl⟩
instance:TyR Tryz.prog 290 rVal:=⟨by kernel_rfl⟩
instance:TyR Tryz.prog 291 rVal:=⟨by kernel_rfl⟩
instance:TyR Tryz.prog 292 rVal:=⟨by kernel_rfl⟩
instance:TyR Tryz.prog 293 rVal:=⟨by kernel_rfl⟩
instance:TyR Tryz.prog 295 rVal:=⟨by kernel_rfl⟩
instance:TyR Tryz.prog 297 rVal:=⟨by kernel_rfl⟩
instance:TyR Tryz.prog 298 rVal:=⟨by kernel_rfl⟩
instance:TyR Tryz.prog 299 rVal:=⟨by kernel_rfl⟩
instance:TyR Tryz.prog 300 rVal:=⟨by kernel_rfl⟩
instance:TyR Tryz.prog 301 rVal:=⟨by kernel_rfl⟩
instance:TyR Tryz.prog 302 rVal:=⟨by kernel_rfl⟩
instance:TyR Tryz.prog 303 rVal:=⟨by kernel_rfl⟩
instance:TyR Tryz.prog 304 rVal:=⟨by kernel_rfl⟩
instance:TyR Tryz.prog 305 rVal:=⟨by kernel_rfl⟩
instance:TyR Tryz.prog 306 rVal:=⟨by kernel_rfl⟩
instance:TyR Tryz.prog 307 rVal:=⟨by kernel_rfl⟩
instance:TyR Tryz.prog 308 rVal:=⟨by kernel_rfl⟩
instance:Byt Tryz.prog 309 16:=⟨by kernel_rfl⟩
instance:TyR Tryz.prog 309 rVal:=⟨by kernel_rfl⟩
instance:TyR Tryz.prog 310 rVal:=⟨by kernel_rfl⟩
instance:TyR Tryz.prog 311 rVal:=⟨by kernel_rfl⟩
instance:FOff Tryz.prog 312 0 0:=⟨by kernel_rfl⟩
instance:Zero Tryz.prog 312 (.agg #[.nilFunc]):=⟨by kernel_rfl⟩
instance:ZF Tryz.prog 312 [.nilFunc]:=⟨by kernel_rfl,by kernel_rfl⟩
instance:Byt Tryz.prog 312 8:=⟨by kernel_rfl⟩
instance:FOff Tryz.prog 313 0 0:=⟨by kernel_rfl⟩
instance:Zero Tryz.prog 313 (.agg #[.nilFunc]):=⟨by kernel_rfl⟩
instance:ZF Tryz.prog 313 [.nilFunc]:=⟨by kernel_rfl,by kernel_rfl⟩
instance:Conc Tryz.prog 313:=⟨by kernel_rfl⟩
instance:Byt Tryz.prog 313 8:=⟨by kernel_rfl⟩
instance:Und Tryz.prog 314 (.map 3 313):=⟨Tryz.underlying314⟩
instance:Zero Tryz.prog 314 (.map none):=⟨by kernel_rfl⟩
instance:Byt Tryz.prog 314 8:=⟨by kernel_rfl⟩
instance:TyR Tryz.prog 314 rVal:=⟨by kernel_rfl⟩
instance:TyR Tryz.prog 315 rVal:=⟨by kernel_rfl⟩
instance:TyR Tryz.prog 316 rVal:=⟨by kernel_rfl⟩
instance:TyR Tryz.prog 318 rVal:=⟨by kernel_rfl⟩
instance:Und Tryz.prog 319 (.pointer 283):=⟨Tryz.underlying319⟩
instance:Zero Tryz.prog 319 (.pointer none):=⟨by kernel_rfl⟩
instance:Byt Tryz.prog 319 8:=⟨by kernel_rfl⟩
instance:TyR Tryz.prog 319 rVal:=⟨by kernel_rfl⟩
instance:TyR Tryz.prog 321 rVal:=⟨by kernel_rfl⟩
instance:TyR Tryz.prog 322 rVal:=⟨by kernel_rfl⟩
instance:TyR Tryz.prog 323 rVal:=⟨by kernel_rfl⟩
instance:TyR Tryz.prog 324 rVal:=⟨by kernel_rfl⟩
instance:TyR Tryz.prog 325 rVal:=⟨by kernel_rfl⟩
instance:Und Tryz.prog 326 (.map 9 3):=⟨Tryz.underlying326⟩
instance:Zero Tryz.prog 326 (.map none):=⟨by kernel_rfl⟩
instance:Byt Tryz.prog 326 8:=⟨by kernel_rfl⟩
instance:TyR Tryz.prog 326 rVal:=⟨by kernel_rfl⟩
instance:TyR Tryz.prog 327 rVal:=⟨by kernel_rfl⟩
instance:TyR Tryz.prog 328 rVal:=⟨by kernel_rfl⟩
instance:Byt Tryz.prog 329 8:=⟨by kernel_rfl⟩
instance:TyR Tryz.prog 329 rVal:=⟨by kernel_rfl⟩
instance:TyR Tryz.prog 330 rVal:=⟨by kernel_rfl⟩
instance:TyR Tryz.prog 331 rVal:=⟨by kernel_rfl⟩
instance:TyR Tryz.prog 332 rVal:=⟨by kernel_rfl⟩
instance:TyR Tryz.prog 333 rVal:=⟨by kernel_rfl⟩
instance:TyR Tryz.prog 334 rVal:=⟨by kernel_rfl⟩
instance:TyR Tryz.prog 335 rVal:=⟨by kernel_rfl⟩
instance:TyR Tryz.prog 336 rVal:=⟨by kernel_rfl⟩
instance:TyR Tryz.prog 337 rVal:=⟨by kernel_rfl⟩
instance:TyR Tryz.prog 338 rVal:=⟨by kernel_rfl⟩
instance:TyR Tryz.prog 339 rVal:=⟨by kernel_rfl⟩
instance:TyR Tryz.prog 340 rVal:=⟨by kernel_rfl⟩
instance:TyR Tryz.prog 341 rVal:=⟨by kernel_rfl⟩
instance:TyR Tryz.prog 342 rVal:=⟨by kernel_rfl⟩
instance:TyR Tryz.prog 343 rVal:=⟨by kernel_rfl⟩
instance:TyR Tryz.prog 344 rVal:=⟨by kernel_rfl⟩
instance:TyR Tryz.prog 345 rVal:=⟨by kernel_rfl⟩
instance:TyR Tryz.prog 346 rVal:=⟨by kernel_rfl⟩
instance:TyR Tryz.prog 347 rVal:=⟨by kernel_rfl⟩
instance:TyR Tryz.prog 348 rVal:=⟨by kernel_rfl⟩
instance:TyR Tryz.prog 350 rVal:=⟨by kernel_rfl⟩
instance:TyR Tryz.prog 351 rVal:=⟨by kernel_rfl⟩
instance:TyR Tryz.prog 353 rVal:=⟨by kernel_rfl⟩
instance:TyR Tryz.prog 354 rVal:=⟨by kernel_rfl⟩
instance:TyR Tryz.prog 355 rVal:=⟨by kernel_rfl⟩
instance:Und Tryz.prog 356 (.slice 359):=⟨Tryz.underlying356⟩
instance:Zero Tryz.prog 356 (.slice none 0 0):=⟨by kernel_rfl⟩
instance:Byt Tryz.prog 356 24:=⟨by kernel_rfl⟩
instance:FOff Tryz.prog 358 0 0:=⟨by kernel_rfl⟩
instance:FOff Tryz.prog 358 1 1:=⟨by kernel_rfl⟩
instance:Zero Tryz.prog 358 (.agg #[.string ⟨#[]⟩,.bool false]):=⟨by kernel_rfl⟩
instance:ZF Tryz.prog 358 [.string ⟨#[]⟩,.bool false]:=⟨by kernel_rfl,by kernel_rfl⟩
instance:FlatS Tryz.prog 358 [.str,.bool]:=⟨by kernel_rfl,by kernel_rfl,by kernel_rfl⟩
instance:Byt Tryz.prog 358 24:=⟨by kernel_rfl⟩
instance:FOff Tryz.prog 359 0 0:=⟨by kernel_rfl⟩
instance:FOff Tryz.prog 359 1 1:=⟨by kernel_rfl⟩
instance:Zero Tryz.prog 359 (.agg #[.string ⟨#[]⟩,.bool false]):=⟨by kernel_rfl⟩
instance:ZF Tryz.prog 359 [.string ⟨#[]⟩,.bool false]:=⟨by kernel_rfl,by kernel_rfl⟩
instance:FlatS Tryz.prog 359 [.str,.bool]:=⟨by kernel_rfl,by kernel_rfl,by kernel_rfl⟩
instance:Conc Tryz.prog 359:=⟨by kernel_rfl⟩
instance:Byt Tryz.prog 359 24:=⟨by kernel_rfl⟩
instance:TyR Tryz.prog 362 rVal:=⟨by kernel_rfl⟩
instance:TyR Tryz.prog 363 rVal:=⟨by kernel_rfl⟩
instance:TyR Tryz.prog 364 rVal:=⟨by kernel_rfl⟩
instance:TyR Tryz.prog 365 rVal:=⟨by kernel_rfl⟩
instance:TyR Tryz.prog 366 rVal:=⟨by kernel_rfl⟩
instance:TyR Tryz.prog 367 rVal:=⟨by kernel_rfl⟩
instance:Zero Tryz.prog 370 (.agg #[.pointer none,.pointer none,.pointer none,.string ⟨#[]⟩]):=⟨by kernel_rfl⟩
instance:Zero Tryz.prog 371 (.agg #[.pointer none,.pointer none,.pointer none,.string ⟨#[]⟩]):=⟨by kernel_rfl⟩
instance:Und Tryz.prog 372 (.array 0 16):=⟨Tryz.underlying372⟩
instance:Zero Tryz.prog 372 (.agg #[]):=⟨by kernel_rfl⟩
instance:Byt Tryz.prog 372 0:=⟨by kernel_rfl⟩
instance:Zero Tryz.prog 373 (.agg #[]):=⟨by kernel_rfl⟩
instance:Zero Tryz.prog 374 (.agg #[]):=⟨by kernel_rfl⟩
instance:Und Tryz.prog 375 (.int .u8):=⟨Tryz.underlying375⟩
instance:Zero Tryz.prog 375 (.int .u8 0):=⟨by kernel_rfl⟩
instance:Byt Tryz.prog 375 1:=⟨by kernel_rfl⟩
instance:TyR Tryz.prog 375 (rInt .u8):=⟨by kernel_rfl⟩
instance:Und Tryz.prog 376 (.int .u8):=⟨Tryz.underlying376⟩
instance:Zero Tryz.prog 376 (.int .u8 0):=⟨by kernel_rfl⟩
instance:Byt Tryz.prog 376 1:=⟨by kernel_rfl⟩
instance:TyR Tryz.prog 376 (rInt .u8):=⟨by kernel_rfl⟩
instance:TyR Tryz.prog 377 rVal:=⟨by kernel_rfl⟩
instance:Und Tryz.prog 378 (.pointer 5):=⟨Tryz.underlying378⟩
instance:Zero Tryz.prog 378 (.pointer none):=⟨by kernel_rfl⟩
instance:Byt Tryz.prog 378 8:=⟨by kernel_rfl⟩
instance:TyR Tryz.prog 378 rVal:=⟨by kernel_rfl⟩
instance:Und Tryz.prog 379 (.int .i32):=⟨Tryz.underlying379⟩
instance:Zero Tryz.prog 379 (.int .i32 0):=⟨by kernel_rfl⟩
instance:Byt Tryz.prog 379 4:=⟨by kernel_rfl⟩
instance:TyR Tryz.prog 379 (rInt .i32):=⟨by kernel_rfl⟩
instance:Und Tryz.prog 380 (.int .i32):=⟨Tryz.underlying380⟩
instance:Zero Tryz.prog 380 (.int .i32 0):=⟨by kernel_rfl⟩
instance:Byt Tryz.prog 380 4:=⟨by kernel_rfl⟩
instance:TyR Tryz.prog 380 (rInt .i32):=⟨by kernel_rfl⟩
instance:Zero Tryz.prog 381 (.agg #[.int .u64 0,.int .u64 0,.int .u32 0,.int .u8 0,.int .u8 0,.int .u8 0,.int .u8 0,.nilFunc,.pointer none,.int .i32 0,.int .i32 0]):=⟨by kernel_rfl⟩
instance:Zero Tryz.prog 382 (.agg #[.int .u64 0,.int .u64 0,.int .u32 0,.int .u8 0,.int .u8 0,.int .u8 0,.int .u8 0,.nilFunc,.pointer none,.int .i32 0,.int .i32 0]):=⟨by kernel_rfl⟩
instance:Ent Tryz.prog 3:=⟨by kernel_rfl⟩
instance:Ent Tryz.prog 4:=⟨by kernel_rfl⟩
instance:Ent Tryz.prog 5:=⟨by kernel_rfl⟩
instance:Ent Tryz.prog 6:=⟨by kernel_rfl⟩
instance:Ent Tryz.prog 7:=⟨by kernel_rfl⟩
instance:Ent Tryz.prog 8:=⟨by kernel_rfl⟩
instance:Ent Tryz.prog 9:=⟨by kernel_rfl⟩
instance:Ent Tryz.prog 10:=⟨by kernel_rfl⟩
instance:Ent Tryz.prog 11:=⟨by kernel_rfl⟩
instance:Ent Tryz.prog 12:=⟨by kernel_rfl⟩
instance:Ent Tryz.prog 13:=⟨by kernel_rfl⟩
instance:Ent Tryz.prog 14:=⟨by kernel_rfl⟩
instance:Ent Tryz.prog 15:=⟨by kernel_rfl⟩
instance:Ent Tryz.prog 16:=⟨by kernel_rfl⟩
instance:Ent Tryz.prog 17:=⟨by kernel_rfl⟩
instance:Ent Tryz.prog 18:=⟨by kernel_rfl⟩
instance:Ent Tryz.prog 19:=⟨by kernel_rfl⟩
instance:Ent Tryz.prog 20:=⟨by kernel_rfl⟩
instance:Ent Tryz.prog 21:=⟨by kernel_rfl⟩
instance:Ent Tryz.prog 22:=⟨by kernel_rfl⟩
instance:Ent Tryz.prog 23:=⟨by kernel_rfl⟩
instance:Ent Tryz.prog 24:=⟨by kernel_rfl⟩
instance:Ent Tryz.prog 25:=⟨by kernel_rfl⟩
instance:Ent Tryz.prog 26:=⟨by kernel_rfl⟩
instance:Ent Tryz.prog 27:=⟨by kernel_rfl⟩
instance:Ent Tryz.prog 28:=⟨by kernel_rfl⟩
instance:Ent Tryz.prog 29:=⟨by kernel_rfl⟩
instance:Ent Tryz.prog 30:=⟨by kernel_rfl⟩
instance:Ent Tryz.prog 31:=⟨by kernel_rfl⟩
instance:Ent Tryz.prog 32:=⟨by kernel_rfl⟩
instance:Ent Tryz.prog 33:=⟨by kernel_rfl⟩
instance:Ent Tryz.prog 34:=⟨by kernel_rfl⟩
instance:Ent Tryz.prog 35:=⟨by kernel_rfl⟩
instance:Ent Tryz.prog 36:=⟨by kernel_rfl⟩
instance:Ent Tryz.prog 37:=⟨by kernel_rfl⟩
instance:Ent Tryz.prog 38:=⟨by kernel_rfl⟩
instance:Ent Tryz.prog 39:=⟨by kernel_rfl⟩
instance:Ent Tryz.prog 40:=⟨by kernel_rfl⟩
instance:Ent Tryz.prog 41:=⟨by kernel_rfl⟩
instance:Ent Tryz.prog 42:=⟨by kernel_rfl⟩
instance:Ent Tryz.prog 43:=⟨by kernel_rfl⟩
instance:Ent Tryz.prog 44:=⟨by kernel_rfl⟩
instance:Ent Tryz.prog 45:=⟨by kernel_rfl⟩
instance:Ent Tryz.prog 46:=⟨by kernel_rfl⟩
instance:Ent Tryz.prog 47:=⟨by kernel_rfl⟩
instance:Ent Tryz.prog 48:=⟨by kernel_rfl⟩
instance:Ent Tryz.prog 49:=⟨by kernel_rfl⟩
instance:Ent Tryz.prog 50:=⟨by kernel_rfl⟩
instance:Ent Tryz.prog 51:=⟨by kernel_rfl⟩
instance:Ent Tryz.prog 52:=⟨by kernel_rfl⟩
instance:Ent Tryz.prog 53:=⟨by kernel_rfl⟩
instance:Ent Tryz.prog 54:=⟨by kernel_rfl⟩
instance:Ent Tryz.prog 55:=⟨by kernel_rfl⟩
instance:Ent Tryz.prog 56:=⟨by kernel_rfl⟩
instance:Ent Tryz.prog 57:=⟨by kernel_rfl⟩
instance:Ent Tryz.prog 58:=⟨by kernel_rfl⟩
instance:Ent Tryz.prog 59:=⟨by kernel_rfl⟩
instance:Ent Tryz.prog 60:=⟨by kernel_rfl⟩
instance:Ent Tryz.prog 61:=⟨by kernel_rfl⟩
instance:Ent Tryz.prog 62:=⟨by kernel_rfl⟩
instance:Ent Tryz.prog 63:=⟨by kernel_rfl⟩
instance:Ent Tryz.prog 64:=⟨by kernel_rfl⟩
instance:Ent Tryz.prog 65:=⟨by kernel_rfl⟩
instance:Ent Tryz.prog 66:=⟨by kernel_rfl⟩
instance:Ent Tryz.prog 67:=⟨by kernel_rfl⟩
instance:Ent Tryz.prog 68:=⟨by kernel_rfl⟩
instance:Ent Tryz.prog 69:=⟨by kernel_rfl⟩
instance:Ent Tryz.prog 70:=⟨by kernel_rfl⟩
instance:Ent Tryz.prog 71:=⟨by kernel_rfl⟩
instance:Ent Tryz.prog 72:=⟨by kernel_rfl⟩
instance:Ent Tryz.prog 73:=⟨by kernel_rfl⟩
instance:Ent Tryz.prog 74:=⟨by kernel_rfl⟩
instance:Ent Tryz.prog 75:=⟨by kernel_rfl⟩
instance:Ent Tryz.prog 76:=⟨by kernel_rfl⟩
instance:Ent Tryz.prog 77:=⟨by kernel_rfl⟩
instance:Ent Tryz.prog 78:=⟨by kernel_rfl⟩
instance:Ent Tryz.prog 79:=⟨by kernel_rfl⟩
instance:Ent Tryz.prog 80:=⟨by kernel_rfl⟩
instance:Ent Tryz.prog 81:=⟨by kernel_rfl⟩
instance:Ent Tryz.prog 82:=⟨by kernel_rfl⟩
instance:Ent Tryz.prog 83:=⟨by kernel_rfl⟩
instance:Ent Tryz.prog 84:=⟨by kernel_rfl⟩
instance:Ent Tryz.prog 85:=⟨by kernel_rfl⟩
instance:Ent Tryz.prog 86:=⟨by kernel_rfl⟩
instance:Ent Tryz.prog 87:=⟨by kernel_rfl⟩
instance:Ent Tryz.prog 88:=⟨by kernel_rfl⟩
instance:Ent Tryz.prog 89:=⟨by kernel_rfl⟩
instance:Ent Tryz.prog 90:=⟨by kernel_rfl⟩
instance:Ent Tryz.prog 91:=⟨by kernel_rfl⟩
instance:Ent Tryz.prog 92:=⟨by kernel_rfl⟩
instance:Ent Tryz.prog 93:=⟨by kernel_rfl⟩
instance:Ent Tryz.prog 94:=⟨by kernel_rfl⟩
instance:Ent Tryz.prog 95:=⟨by kernel_rfl⟩
instance:Ent Tryz.prog 96:=⟨by kernel_rfl⟩
instance:Ent Tryz.prog 97:=⟨by kernel_rfl⟩
instance:Ent Tryz.prog 98:=⟨by kernel_rfl⟩
instance:Ent Tryz.prog 99:=⟨by kernel_rfl⟩
instance:Ent Tryz.prog 100:=⟨by kernel_rfl⟩
instance:Ent Tryz.prog 101:=⟨by kernel_rfl⟩
instance:Ent Tryz.prog 102:=⟨by kernel_rfl⟩
instance:Ent Tryz.prog 103:=⟨by kernel_rfl⟩
instance:Ent Tryz.prog 104:=⟨by kernel_rfl⟩
instance:Ent Tryz.prog 105:=⟨by kernel_rfl⟩
instance:Ent Tryz.prog 106:=⟨by kernel_rfl⟩
instance:Ent Tryz.prog 107:=⟨by kernel_rfl⟩
instance:Ent Tryz.prog 108:=⟨by kernel_rfl⟩
instance:Ent Tryz.prog 109:=⟨by kernel_rfl⟩
instance:Ent Tryz.prog 110:=⟨by kernel_rfl⟩
instance:Ent Tryz.prog 111:=⟨by kernel_rfl⟩
instance:Ent Tryz.prog 112:=⟨by kernel_rfl⟩
instance:Ent Tryz.prog 113:=⟨by kernel_rfl⟩
instance:Ent Tryz.prog 114:=⟨by kernel_rfl⟩
instance:Ent Tryz.prog 115:=⟨by kernel_rfl⟩
instance:Ent Tryz.prog 116:=⟨by kernel_rfl⟩
instance:Ent Tryz.prog 117:=⟨by kernel_rfl⟩
instance:Ent Tryz.prog 118:=⟨by kernel_rfl⟩
instance:Ent Tryz.prog 119:=⟨by kernel_rfl⟩
instance:Ent Tryz.prog 120:=⟨by kernel_rfl⟩
instance:Ent Tryz.prog 121:=⟨by kernel_rfl⟩
instance:Ent Tryz.prog 122:=⟨by kernel_rfl⟩
instance:Ent Tryz.prog 123:=⟨by kernel_rfl⟩
instance:Ent Tryz.prog 124:=⟨by kernel_rfl⟩
instance:Ent Tryz.prog 125:=⟨by kernel_rfl⟩
instance:Ent Tryz.prog 126:=⟨by kernel_rfl⟩
instance:Ent Tryz.prog 127:=⟨by kernel_rfl⟩
instance:Ent Tryz.prog 128:=⟨by kernel_rfl⟩
instance:Ent Tryz.prog 129:=⟨by kernel_rfl⟩
instance:Ent Tryz.prog 130:=⟨by kernel_rfl⟩
instance:Ent Tryz.prog 131:=⟨by kernel_rfl⟩
instance:Ent Tryz.prog 132:=⟨by kernel_rfl⟩
instance:Ent Tryz.prog 133:=⟨by kernel_rfl⟩
instance:Ent Tryz.prog 134:=⟨by kernel_rfl⟩
instance:Ent Tryz.prog 135:=⟨by kernel_rfl⟩
instance:Ent Tryz.prog 136:=⟨by kernel_rfl⟩
instance:Ent Tryz.prog 137:=⟨by kernel_rfl⟩
instance:Ent Tryz.prog 138:=⟨by kernel_rfl⟩
instance:Ent Tryz.prog 139:=⟨by kernel_rfl⟩
instance:Ent Tryz.prog 140:=⟨by kernel_rfl⟩
instance:Ent Tryz.prog 141:=⟨by kernel_rfl⟩
instance:Ent Tryz.prog 142:=⟨by kernel_rfl⟩
instance:Ent Tryz.prog 143:=⟨by kernel_rfl⟩
instance:Ent Tryz.prog 144:=⟨by kernel_rfl⟩
instance:Ent Tryz.prog 145:=⟨by kernel_rfl⟩
instance:Ent Tryz.prog 146:=⟨by kernel_rfl⟩
instance:Ent Tryz.prog 147:=⟨by kernel_rfl⟩
instance:Ent Tryz.prog 148:=⟨by kernel_rfl⟩
instance:Ent Tryz.prog 149:=⟨by kernel_rfl⟩
instance:Ent Tryz.prog 150:=⟨by kernel_rfl⟩
instance:Ent Tryz.prog 151:=⟨by kernel_rfl⟩
instance:Ent Tryz.prog 152:=⟨by kernel_rfl⟩
instance:Ent Tryz.prog 153:=⟨by kernel_rfl⟩
instance:Ent Tryz.prog 154:=⟨by kernel_rfl⟩
instance:Ent Tryz.prog 155:=⟨by kernel_rfl⟩
instance:Ent Tryz.prog 156:=⟨by kernel_rfl⟩
instance:Ent Tryz.prog 157:=⟨by kernel_rfl⟩
instance:Ent Tryz.prog 158:=⟨by kernel_rfl⟩
instance:Ent Tryz.prog 159:=⟨by kernel_rfl⟩
instance:Ent Tryz.prog 160:=⟨by kernel_rfl⟩
instance:Ent Tryz.prog 161:=⟨by kernel_rfl⟩
instance:Ent Tryz.prog 162:=⟨by kernel_rfl⟩
instance:Ent Tryz.prog 163:=⟨by kernel_rfl⟩
instance:Ent Tryz.prog 164:=⟨by kernel_rfl⟩
instance:Ent Tryz.prog 165:=⟨by kernel_rfl⟩
instance:Ent Tryz.prog 166:=⟨by kernel_rfl⟩
instance:Ent Tryz.prog 167:=⟨by kernel_rfl⟩
instance:Ent Tryz.prog 168:=⟨by kernel_rfl⟩
instance:Ent Tryz.prog 169:=⟨by kernel_rfl⟩
instance:Ent Tryz.prog 170:=⟨by kernel_rfl⟩
instance:Ent Tryz.prog 171:=⟨by kernel_rfl⟩
instance:Ent Tryz.prog 172:=⟨by kernel_rfl⟩
instance:Ent Tryz.prog 173:=⟨by kernel_rfl⟩
instance:Ent Tryz.prog 174:=⟨by kernel_rfl⟩
instance:Ent Tryz.prog 175:=⟨by kernel_rfl⟩
instance:Ent Tryz.prog 176:=⟨by kernel_rfl⟩
instance:Ent Tryz.prog 177:=⟨by kernel_rfl⟩
instance:Ent Tryz.prog 178:=⟨by kernel_rfl⟩
instance:Ent Tryz.prog 179:=⟨by kernel_rfl⟩
instance:Ent Tryz.prog 180:=⟨by kernel_rfl⟩
instance:Ent Tryz.prog 181:=⟨by kernel_rfl⟩
instance:Ent Tryz.prog 182:=⟨by kernel_rfl⟩
instance:Ent Tryz.prog 183:=⟨by kernel_rfl⟩
instance:Ent Tryz.prog 184:=⟨by kernel_rfl⟩
instance:Ent Tryz.prog 185:=⟨by kernel_rfl⟩
instance:Ent Tryz.prog 186:=⟨by kernel_rfl⟩
instance:Ent Tryz.prog 187:=⟨by kernel_rfl⟩
instance:Ent Tryz.prog 188:=⟨by kernel_rfl⟩
instance:Ent Tryz.prog 189:=⟨by kernel_rfl⟩
instance:Ent Tryz.prog 190:=⟨by kernel_rfl⟩
instance:Ent Tryz.prog 191:=⟨by kernel_rfl⟩
instance:Ent Tryz.prog 192:=⟨by kernel_rfl⟩
instance:Ent Tryz.prog 193:=⟨by kernel_rfl⟩
instance:Ent Tryz.prog 194:=⟨by kernel_rfl⟩
instance:Ent Tryz.prog 195:=⟨by kernel_rfl⟩
instance:Ent Tryz.prog 196:=⟨by kernel_rfl⟩
instance:Ent Tryz.prog 197:=⟨by kernel_rfl⟩
instance:Ent Tryz.prog 198:=⟨by kernel_rfl⟩
instance:Ent Tryz.prog 199:=⟨by kernel_rfl⟩
instance:Ent Tryz.prog 200:=⟨by kernel_rfl⟩
instance:Ent Tryz.prog 201:=⟨by kernel_rfl⟩
instance:Ent Tryz.prog 202:=⟨by kernel_rfl⟩
instance:Ent Tryz.prog 203:=⟨by kernel_rfl⟩
instance:Ent Tryz.prog 204:=⟨by kernel_rfl⟩
instance:Ent Tryz.prog 205:=⟨by kernel_rfl⟩
instance:Ent Tryz.prog 206:=⟨by kernel_rfl⟩
instance:Ent Tryz.prog 207:=⟨by kernel_rfl⟩
instance:Ent Tryz.prog 208:=⟨by kernel_rfl⟩
instance:Ent Tryz.prog 209:=⟨by kernel_rfl⟩
instance:Ent Tryz.prog 210:=⟨by kernel_rfl⟩
instance:Ent Tryz.prog 211:=⟨by kernel_rfl⟩
instance:Ent Tryz.prog 212:=⟨by kernel_rfl⟩
instance:Ent Tryz.prog 213:=⟨by kernel_rfl⟩
instance:Ent Tryz.prog 214:=⟨by kernel_rfl⟩
instance:Ent Tryz.prog 215:=⟨by kernel_rfl⟩
instance:Ent Tryz.prog 216:=⟨by kernel_rfl⟩
instance:Ent Tryz.prog 217:=⟨by kernel_rfl⟩
instance:Ent Tryz.prog 218:=⟨by kernel_rfl⟩
instance:Ent Tryz.prog 219:=⟨by kernel_rfl⟩
instance:Ent Tryz.prog 220:=⟨by kernel_rfl⟩
instance:Ent Tryz.prog 221:=⟨by kernel_rfl⟩
instance:Ent Tryz.prog 222:=⟨by kernel_rfl⟩
instance:Ent Tryz.prog 223:=⟨by kernel_rfl⟩
instance:Ent Tryz.prog 224:=⟨by kernel_rfl⟩
instance:Ent Tryz.prog 225:=⟨by kernel_rfl⟩
instance:Ent Tryz.prog 226:=⟨by kernel_rfl⟩
instance:Ent Tryz.prog 227:=⟨by kernel_rfl⟩
instance:Ent Tryz.prog 228:=⟨by kernel_rfl⟩
instance:Ent Tryz.prog 229:=⟨by kernel_rfl⟩
instance:Ent Tryz.prog 230:=⟨by kernel_rfl⟩
instance:Ent Tryz.prog 231:=⟨by kernel_rfl⟩
instance:Ent Tryz.prog 232:=⟨by kernel_rfl⟩
instance:Ent Tryz.prog 233:=⟨by kernel_rfl⟩
instance:Ent Tryz.prog 234:=⟨by kernel_rfl⟩
instance:Ent Tryz.prog 235:=⟨by kernel_rfl⟩
instance:Ent Tryz.prog 236:=⟨by kernel_rfl⟩
instance:Ent Tryz.prog 237:=⟨by kernel_rfl⟩
instance:Ent Tryz.prog 238:=⟨by kernel_rfl⟩
instance:Ent Tryz.prog 240:=⟨by kernel_rfl⟩
instance:Ent Tryz.prog 241:=⟨by kernel_rfl⟩
instance:Ent Tryz.prog 242:=⟨by kernel_rfl⟩
instance:Ent Tryz.prog 243:=⟨by kernel_rfl⟩
instance:Ent Tryz.prog 244:=⟨by kernel_rfl⟩
instance:Ent Tryz.prog 245:=⟨by kernel_rfl⟩
instance:Ent Tryz.prog 246:=⟨by kernel_rfl⟩
instance:Ent Tryz.prog 247:=⟨by kernel_rfl⟩
instance:Ent Tryz.prog 248:=⟨by kernel_rfl⟩
instance:Ent Tryz.prog 249:=⟨by kernel_rfl⟩
instance:Ent Tryz.prog 250:=⟨by kernel_rfl⟩
instance:Ent Tryz.prog 251:=⟨by kernel_rfl⟩
instance:Ent Tryz.prog 252:=⟨by kernel_rfl⟩
instance:Ent Tryz.prog 253:=⟨by kernel_rfl⟩
instance:Ent Tryz.prog 254:=⟨by kernel_rfl⟩
instance:Ent Tryz.prog 256:=⟨by kernel_rfl⟩
instance:Ent Tryz.prog 257:=⟨by kernel_rfl⟩
instance:Ent Tryz.prog 259:=⟨by kernel_rfl⟩
instance:Ent Tryz.prog 260:=⟨by kernel_rfl⟩
instance:Ent Tryz.prog 261:=⟨by kernel_rfl⟩
instance:Ent Tryz.prog 263:=⟨by kernel_rfl⟩
instance:Ent Tryz.prog 264:=⟨by kernel_rfl⟩
instance:Ent Tryz.prog 265:=⟨by kernel_rfl⟩
instance:Ent Tryz.prog 266:=⟨by kernel_rfl⟩
instance:Ent Tryz.prog 267:=⟨by kernel_rfl⟩
instance:Ent Tryz.prog 268:=⟨by kernel_rfl⟩
instance:Ent Tryz.prog 269:=⟨by kernel_rfl⟩
instance:Ent Tryz.prog 270:=⟨by kernel_rfl⟩
instance:Ent Tryz.prog 271:=⟨by kernel_rfl⟩
instance:Ent Tryz.prog 272:=⟨by kernel_rfl⟩
instance:Ent Tryz.prog 273:=⟨by kernel_rfl⟩
instance:Ent Tryz.prog 274:=⟨by kernel_rfl⟩
instance:Ent Tryz.prog 275:=⟨by kernel_rfl⟩
instance:Ent Tryz.prog 276:=⟨by kernel_rfl⟩
instance:Ent Tryz.prog 277:=⟨by kernel_rfl⟩
instance:Ent Tryz.prog 278:=⟨by kernel_rfl⟩
instance:Ent Tryz.prog 279:=⟨by kernel_rfl⟩
instance:Ent Tryz.prog 280:=⟨by kernel_rfl⟩
instance:Ent Tryz.prog 281:=⟨by kernel_rfl⟩
instance:Ent Tryz.prog 282:=⟨by kernel_rfl⟩
instance:Ent Tryz.prog 283:=⟨by kernel_rfl⟩
instance:Ent Tryz.prog 284:=⟨by kernel_rfl⟩
instance:Ent Tryz.prog 285:=⟨by kernel_rfl⟩
instance:Ent Tryz.prog 286:=⟨by kernel_rfl⟩
instance:Ent Tryz.prog 287:=⟨by kernel_rfl⟩
instance:Ent Tryz.prog 288:=⟨by kernel_rfl⟩
instance:Ent Tryz.prog 289:=⟨by kernel_rfl⟩
instance:Ent Tryz.prog 290:=⟨by kernel_rfl⟩
instance:Ent Tryz.prog 291:=⟨by kernel_rfl⟩
instance:Ent Tryz.prog 292:=⟨by kernel_rfl⟩
instance:Ent Tryz.prog 293:=⟨by kernel_rfl⟩
instance:Ent Tryz.prog 295:=⟨by kernel_rfl⟩
instance:Ent Tryz.prog 297:=⟨by kernel_rfl⟩
instance:Ent Tryz.prog 298:=⟨by kernel_rfl⟩
instance:Ent Tryz.prog 299:=⟨by kernel_rfl⟩
instance:Ent Tryz.prog 300:=⟨by kernel_rfl⟩
instance:Ent Tryz.prog 301:=⟨by kernel_rfl⟩
instance:Ent Tryz.prog 302:=⟨by kernel_rfl⟩
instance:Ent Tryz.prog 303:=⟨by kernel_rfl⟩
instance:Ent Tryz.prog 304:=⟨by kernel_rfl⟩
instance:Ent Tryz.prog 305:=⟨by kernel_rfl⟩
instance:Ent Tryz.prog 306:=⟨by kernel_rfl⟩
instance:Ent Tryz.prog 307:=⟨by kernel_rfl⟩
instance:Ent Tryz.prog 308:=⟨by kernel_rfl⟩
instance:Ent Tryz.prog 309:=⟨by kernel_rfl⟩
instance:Ent Tryz.prog 310:=⟨by kernel_rfl⟩
instance:Ent Tryz.prog 311:=⟨by kernel_rfl⟩
instance:Ent Tryz.prog 312:=⟨by kernel_rfl⟩
instance:Ent Tryz.prog 313:=⟨by kernel_rfl⟩
instance:Ent Tryz.prog 314:=⟨by kernel_rfl⟩
instance:Ent Tryz.prog 315:=⟨by kernel_rfl⟩
instance:Ent Tryz.prog 316:=⟨by kernel_rfl⟩
instance:Ent Tryz.prog 317:=⟨by kernel_rfl⟩
instance:Ent Tryz.prog 318:=⟨by kernel_rfl⟩
instance:Ent Tryz.prog 319:=⟨by kernel_rfl⟩
instance:Ent Tryz.prog 320:=⟨by kernel_rfl⟩
instance:Ent Tryz.prog 321:=⟨by kernel_rfl⟩
instance:Ent Tryz.prog 322:=⟨by kernel_rfl⟩
instance:Ent Tryz.prog 323:=⟨by kernel_rfl⟩
instance:Ent Tryz.prog 324:=⟨by kernel_rfl⟩
instance:Ent Tryz.prog 325:=⟨by kernel_rfl⟩
instance:Ent Tryz.prog 326:=⟨by kernel_rfl⟩
instance:Ent Tryz.prog 327:=⟨by kernel_rfl⟩
instance:Ent Tryz.prog 328:=⟨by kernel_rfl⟩
instance:Ent Tryz.prog 329:=⟨by kernel_rfl⟩
instance:Ent Tryz.prog 330:=⟨by kernel_rfl⟩
instance:Ent Tryz.prog 331:=⟨by kernel_rfl⟩
instance:Ent Tryz.prog 332:=⟨by kernel_rfl⟩
instance:Ent Tryz.prog 333:=⟨by kernel_rfl⟩
instance:Ent Tryz.prog 334:=⟨by kernel_rfl⟩
instance:Ent Tryz.prog 335:=⟨by kernel_rfl⟩
instance:Ent Tryz.prog 336:=⟨by kernel_rfl⟩
instance:Ent Tryz.prog 337:=⟨by kernel_rfl⟩
instance:Ent Tryz.prog 338:=⟨by kernel_rfl⟩
instance:Ent Tryz.prog 339:=⟨by kernel_rfl⟩
instance:Ent Tryz.prog 340:=⟨by kernel_rfl⟩
instance:Ent Tryz.prog 341:=⟨by kernel_rfl⟩
instance:Ent Tryz.prog 342:=⟨by kernel_rfl⟩
instance:Ent Tryz.prog 343:=⟨by kernel_rfl⟩
instance:Ent Tryz.prog 344:=⟨by kernel_rfl⟩
instance:Ent Tryz.prog 345:=⟨by kernel_rfl⟩
instance:Ent Tryz.prog 346:=⟨by kernel_rfl⟩
instance:Ent Tryz.prog 347:=⟨by kernel_rfl⟩
instance:Ent Tryz.prog 348:=⟨by kernel_rfl⟩
instance:Ent Tryz.prog 350:=⟨by kernel_rfl⟩
instance:Ent Tryz.prog 351:=⟨by kernel_rfl⟩
instance:Ent Tryz.prog 353:=⟨by kernel_rfl⟩
instance:Ent Tryz.prog 354:=⟨by kernel_rfl⟩
instance:Ent Tryz.prog 355:=⟨by kernel_rfl⟩
instance:Ent Tryz.prog 356:=⟨by kernel_rfl⟩
instance:Ent Tryz.prog 357:=⟨by kernel_rfl⟩
instance:Ent Tryz.prog 358:=⟨by kernel_rfl⟩
instance:Ent Tryz.prog 359:=⟨by kernel_rfl⟩
instance:Ent Tryz.prog 362:=⟨by kernel_rfl⟩
instance:Ent Tryz.prog 363:=⟨by kernel_rfl⟩
instance:Ent Tryz.prog 364:=⟨by kernel_rfl⟩
instance:Ent Tryz.prog 365:=⟨by kernel_rfl⟩
instance:Ent Tryz.prog 366:=⟨by kernel_rfl⟩
instance:Ent Tryz.prog 367:=⟨by kernel_rfl⟩
instance:Ent Tryz.prog 370:=⟨by kernel_rfl⟩
instance:Ent Tryz.prog 371:=⟨by kernel_rfl⟩
instance:Ent Tryz.prog 372:=⟨by kernel_rfl⟩
instance:Ent Tryz.prog 373:=⟨by kernel_rfl⟩
instance:Ent Tryz.prog 374:=⟨by kernel_rfl⟩
instance:Ent Tryz.prog 375:=⟨by kernel_rfl⟩
instance:Ent Tryz.prog 377:=⟨by kernel_rfl⟩
instance:Ent Tryz.prog 378:=⟨by kernel_rfl⟩
instance:Ent Tryz.prog 379:=⟨by kernel_rfl⟩
instance:Ent Tryz.prog 380:=⟨by kernel_rfl⟩
instance:Ent Tryz.prog 381:=⟨by kernel_rfl⟩
instance:Ent Tryz.prog 382:=⟨by kernel_rfl⟩
instance:Ent Tryz.prog 383:=⟨by kernel_rfl⟩
instance:Ent Tryz.prog 384:=⟨by kernel_rfl⟩
instance:Ent Tryz.prog 385:=⟨by kernel_rfl⟩
instance:Ent Tryz.prog 386:=⟨by kernel_rfl⟩
instance:Ent Tryz.prog 387:=⟨by kernel_rfl⟩
instance:Ent Tryz.prog 388:=⟨by kernel_rfl⟩
instance:Ent Tryz.prog 389:=⟨by kernel_rfl⟩
instance:Ent Tryz.prog 405:=⟨by kernel_rfl⟩
instance:Ent Tryz.prog 406:=⟨by kernel_rfl⟩
instance:Ent Tryz.prog 407:=⟨by kernel_rfl⟩
theorem Tryz_mixed:Tryz.prog.follows .mixedOrders=true:=by kernel_rfl
end Go.Dr
namespace Go.Dr
open Go.Proofs
set_option maxRecDepth 20000
set_option linter.unusedSimpArgs false
set_option linter.unusedVariables false
def idxF {α:Type} (p:α→Bool) (xs:List α):Int:=match xs.findIdx? p with|some i=>i|none=>-1
theorem idxF_nn {α:Type} (p:α→Bool) (xs:List α):decide (0≤idxF p xs)=xs.any p:=by
 unfold idxF
 cases h:xs.findIdx? p with
 | none=>
  have:=List.findIdx?_eq_none_iff.1 h
  have h2:xs.any p=false:=by
   rw [List.any_eq_false];intro x hx;simpa using this x hx
  rw [h2];rfl
 | some i=>
  have:xs.any p=true:=by
   rw [← List.findIdx?_isSome,h];rfl
  rw [this];simp
theorem idx_step {α:Type} {p:α→Bool} {xs:List α} {x:α} {k:Nat} (hd:xs.drop k=x::xs.drop (k+1)) (hp:p x=false)
  (hi:xs.findIdx? p=((xs.drop k).findIdx? p).map (·+k)):xs.findIdx? p=((xs.drop (k+1)).findIdx? p).map (·+(k+1)):=by
 rw [hi,hd,List.findIdx?_cons,hp]
 cases (xs.drop (k+1)).findIdx? p<;>simp<;>omega
theorem idx_hit {α:Type} {p:α→Bool} {xs:List α} {x:α} {k:Nat} (hd:xs.drop k=x::xs.drop (k+1)) (hp:p x=true)
  (hi:xs.findIdx? p=((xs.drop k).findIdx? p).map (·+k)):idxF p xs=(k:Int):=by
 unfold idxF
 rw [hi,hd,List.findIdx?_cons,hp];simp
theorem idx_miss {α:Type} {p:α→Bool} {xs:List α} {k:Nat} (hd:xs.drop k=[])
  (hi:xs.findIdx? p=((xs.drop k).findIdx? p).map (·+k)):idxF p xs=-1:=by
 unfold idxF
 rw [hi,hd];rfl
theorem p_IndexFunc_Label {S:SHeap} {v:Value} {xs:List Label} {f:FuncId} {fs cs:Array Value} (p:Label→Bool) (hv:(rSlice 32 rLabel).V S v xs) (hE:Ent Tryz.prog f)
  (hf:∀ S',S.le S'→∀ u x,rLabel.V S' u x→FnV Tryz.prog f (fs.toList++[u]++cs.toList).toArray S' (.bool (p x))):FnV Tryz.prog 353 #[v,.func (.func f) fs cs] S (.int .i64 (idxF p xs)):=by
 obtain ⟨a,c,rfl,_,_,hb,_⟩:=V_slice.1 hv
 unfold big at hb
 (refine Fn.enter (args:=[.slice a xs.length c,.func (.func f) fs cs]) Tryz.func353 rfl Tryz.ntmps353 rfl ?_;intro w0)
 repeat (first|(refine Walk ?_;intros)|refine JC.block ?_)
 refine JC.loop (σ:=SHeap × Nat) (fun q=>q.1) (fun _=>[]) (fun q=>[(0,.slice a xs.length c),(1,.func (.func f) fs cs),(7,.int .i64 xs.length),(8,.int .i64 q.2)]) (fun q=>S.le q.1∧q.2≤xs.length∧xs.findIdx? p=((xs.drop q.2).findIdx? p).map (·+q.2)) (fun q=>xs.length - q.2) (S,0) ⟨SHeap.le.refl _,Nat.zero_le _,by simp⟩ rfl rfl (by exact sba) ?_
 rintro ⟨S1,k⟩ ⟨hl1,hk,hi⟩
 dsimp only at hl1 hk hi ⊢
 repeat (first|(refine Walk ?_;intros)|refine JC.block ?_)
 refine JC.cond rfl (fun hc=>?_) (fun hc=>?_)
 ·have hk':=dlt hc
  obtain ⟨x,hx,hd⟩:=drop_at hk'
  repeat (first|(refine Walk ?_;intros)|refine JC.block ?_)
  (refine JO.eff rfl rfl rfl (JEff.dynV rfl (by assumption) rfl ((hf _ (by exact lea) _ x (by assumption))) rfl ?_);intro _ _)
  repeat (first|(refine Walk ?_;intros)|refine JC.block ?_)
  refine JC.cond rfl (fun h1=>?_) (fun h1=>?_)
  ·repeat (first|(refine Walk ?_;intros)|refine JC.block ?_)
   refine JX.ret1 Tryz.results353 (ResV.tmp rfl) (List.nil_sublist _) ?_
   exact ⟨rfl,by rw [idx_hit hd h1 hi]⟩
  ·repeat (first|(refine Walk ?_;intros)|refine JC.block ?_)
   exact JX.round (_,k+1) ⟨by exact lea,hk',idx_step hd h1 hi⟩ (by simp;omega) rfl rfl (by exact sba)
 ·have hk':=dnlt hc
  repeat (first|(refine Walk ?_;intros)|refine JC.block ?_)
  refine JX.ret1 Tryz.results353 (ResV.tmp rfl) (List.nil_sublist _) ?_
  exact ⟨rfl,by rw [idx_miss (List.drop_eq_nil_of_le hk') hi]⟩
theorem p_ContainsFunc_Label {S:SHeap} {v:Value} {xs:List Label} {f:FuncId} {fs cs:Array Value} (p:Label→Bool) (hv:(rSlice 32 rLabel).V S v xs) (hE:Ent Tryz.prog f)
  (hf:∀ S',S.le S'→∀ u x,rLabel.V S' u x→FnV Tryz.prog f (fs.toList++[u]++cs.toList).toArray S' (.bool (p x))):FnV Tryz.prog 363 #[v,.func (.func f) fs cs] S (.bool (xs.any p)):=by
 (refine Fn.enter (args:=[v,.func (.func f) fs cs]) Tryz.func363 rfl Tryz.ntmps363 rfl ?_;intro w0)
 repeat (first|(refine Walk ?_;intros)|refine JC.block ?_)
 (refine JO.eff rfl rfl rfl (JEff.callV rfl (p_IndexFunc_Label p (by exact vta) hE (fun S' h=>hf S' (by exact lea))) rfl ?_);intro _ _)
 repeat (first|(refine Walk ?_;intros)|refine JC.block ?_)
 refine JX.ret1 Tryz.results363 (ResV.tmp rfl) (List.nil_sublist _) ?_
 exact ⟨rfl,by rw [← idxF_nn]⟩
theorem p_IndexFunc_Node {S:SHeap} {v:Value} {xs:List Node} {f:FuncId} {fs cs:Array Value} (p:Node→Bool) (hv:(rSlice 112 rNode).V S v xs) (hE:Ent Tryz.prog f)
  (hf:∀ S',S.le S'→∀ u x,rNode.V S' u x→FnV Tryz.prog f (fs.toList++[u]++cs.toList).toArray S' (.bool (p x))):FnV Tryz.prog 201 #[v,.func (.func f) fs cs] S (.int .i64 (idxF p xs)):=by
 obtain ⟨a,c,rfl,_,_,hb,_⟩:=V_slice.1 hv
 unfold big at hb
 (refine Fn.enter (args:=[.slice a xs.length c,.func (.func f) fs cs]) Tryz.func201 rfl Tryz.ntmps201 rfl ?_;intro w0)
 repeat (first|(refine Walk ?_;intros)|refine JC.block ?_)
 refine JC.loop (σ:=SHeap × Nat) (fun q=>q.1) (fun _=>[]) (fun q=>[(0,.slice a xs.length c),(1,.func (.func f) fs cs),(7,.int .i64 xs.length),(8,.int .i64 q.2)]) (fun q=>S.le q.1∧q.2≤xs.length∧xs.findIdx? p=((xs.drop q.2).findIdx? p).map (·+q.2)) (fun q=>xs.length - q.2) (S,0) ⟨SHeap.le.refl _,Nat.zero_le _,by simp⟩ rfl rfl (by exact sba) ?_
 rintro ⟨S1,k⟩ ⟨hl1,hk,hi⟩
 dsimp only at hl1 hk hi ⊢
 repeat (first|(refine Walk ?_;intros)|refine JC.block ?_)
 refine JC.cond rfl (fun hc=>?_) (fun hc=>?_)
 ·have hk':=dlt hc
  obtain ⟨x,hx,hd⟩:=drop_at hk'
  repeat (first|(refine Walk ?_;intros)|refine JC.block ?_)
  (refine JO.eff rfl rfl rfl (JEff.dynV rfl (by assumption) rfl ((hf _ (by exact lea) _ x (by assumption))) rfl ?_);intro _ _)
  repeat (first|(refine Walk ?_;intros)|refine JC.block ?_)
  refine JC.cond rfl (fun h1=>?_) (fun h1=>?_)
  ·repeat (first|(refine Walk ?_;intros)|refine JC.block ?_)
   refine JX.ret1 Tryz.results201 (ResV.tmp rfl) (List.nil_sublist _) ?_
   exact ⟨rfl,by rw [idx_hit hd h1 hi]⟩
  ·repeat (first|(refine Walk ?_;intros)|refine JC.block ?_)
   exact JX.round (_,k+1) ⟨by exact lea,hk',idx_step hd h1 hi⟩ (by simp;omega) rfl rfl (by exact sba)
 ·have hk':=dnlt hc
  repeat (first|(refine Walk ?_;intros)|refine JC.block ?_)
  refine JX.ret1 Tryz.results201 (ResV.tmp rfl) (List.nil_sublist _) ?_
  exact ⟨rfl,by rw [idx_miss (List.drop_eq_nil_of_le hk') hi]⟩
theorem p_ContainsFunc_Node {S:SHeap} {v:Value} {xs:List Node} {f:FuncId} {fs cs:Array Value} (p:Node→Bool) (hv:(rSlice 112 rNode).V S v xs) (hE:Ent Tryz.prog f)
  (hf:∀ S',S.le S'→∀ u x,rNode.V S' u x→FnV Tryz.prog f (fs.toList++[u]++cs.toList).toArray S' (.bool (p x))):FnV Tryz.prog 130 #[v,.func (.func f) fs cs] S (.bool (xs.any p)):=by
 (refine Fn.enter (args:=[v,.func (.func f) fs cs]) Tryz.func130 rfl Tryz.ntmps130 rfl ?_;intro w0)
 repeat (first|(refine Walk ?_;intros)|refine JC.block ?_)
 (refine JO.eff rfl rfl rfl (JEff.callV rfl (p_IndexFunc_Node p (by exact vta) hE (fun S' h=>hf S' (by exact lea))) rfl ?_);intro _ _)
 repeat (first|(refine Walk ?_;intros)|refine JC.block ?_)
 refine JX.ret1 Tryz.results130 (ResV.tmp rfl) (List.nil_sublist _) ?_
 exact ⟨rfl,by rw [← idxF_nn]⟩
theorem p_IndexFunc_Pod {S:SHeap} {v:Value} {xs:List Pod} {f:FuncId} {fs cs:Array Value} (p:Pod→Bool) (hv:(rSlice 240 rPod).V S v xs) (hE:Ent Tryz.prog f)
  (hf:∀ S',S.le S'→∀ u x,rPod.V S' u x→FnV Tryz.prog f (fs.toList++[u]++cs.toList).toArray S' (.bool (p x))):FnV Tryz.prog 205 #[v,.func (.func f) fs cs] S (.int .i64 (idxF p xs)):=by
 obtain ⟨a,c,rfl,_,_,hb,_⟩:=V_slice.1 hv
 unfold big at hb
 (refine Fn.enter (args:=[.slice a xs.length c,.func (.func f) fs cs]) Tryz.func205 rfl Tryz.ntmps205 rfl ?_;intro w0)
 repeat (first|(refine Walk ?_;intros)|refine JC.block ?_)
 refine JC.loop (σ:=SHeap × Nat) (fun q=>q.1) (fun _=>[]) (fun q=>[(0,.slice a xs.length c),(1,.func (.func f) fs cs),(7,.int .i64 xs.length),(8,.int .i64 q.2)]) (fun q=>S.le q.1∧q.2≤xs.length∧xs.findIdx? p=((xs.drop q.2).findIdx? p).map (·+q.2)) (fun q=>xs.length - q.2) (S,0) ⟨SHeap.le.refl _,Nat.zero_le _,by simp⟩ rfl rfl (by exact sba) ?_
 rintro ⟨S1,k⟩ ⟨hl1,hk,hi⟩
 dsimp only at hl1 hk hi ⊢
 repeat (first|(refine Walk ?_;intros)|refine JC.block ?_)
 refine JC.cond rfl (fun hc=>?_) (fun hc=>?_)
 ·have hk':=dlt hc
  obtain ⟨x,hx,hd⟩:=drop_at hk'
  repeat (first|(refine Walk ?_;intros)|refine JC.block ?_)
  (refine JO.eff rfl rfl rfl (JEff.dynV rfl (by assumption) rfl ((hf _ (by exact lea) _ x (by assumption))) rfl ?_);intro _ _)
  repeat (first|(refine Walk ?_;intros)|refine JC.block ?_)
  refine JC.cond rfl (fun h1=>?_) (fun h1=>?_)
  ·repeat (first|(refine Walk ?_;intros)|refine JC.block ?_)
   refine JX.ret1 Tryz.results205 (ResV.tmp rfl) (List.nil_sublist _) ?_
   exact ⟨rfl,by rw [idx_hit hd h1 hi]⟩
  ·repeat (first|(refine Walk ?_;intros)|refine JC.block ?_)
   exact JX.round (_,k+1) ⟨by exact lea,hk',idx_step hd h1 hi⟩ (by simp;omega) rfl rfl (by exact sba)
 ·have hk':=dnlt hc
  repeat (first|(refine Walk ?_;intros)|refine JC.block ?_)
  refine JX.ret1 Tryz.results205 (ResV.tmp rfl) (List.nil_sublist _) ?_
  exact ⟨rfl,by rw [idx_miss (List.drop_eq_nil_of_le hk') hi]⟩
theorem p_ContainsFunc_Pod {S:SHeap} {v:Value} {xs:List Pod} {f:FuncId} {fs cs:Array Value} (p:Pod→Bool) (hv:(rSlice 240 rPod).V S v xs) (hE:Ent Tryz.prog f)
  (hf:∀ S',S.le S'→∀ u x,rPod.V S' u x→FnV Tryz.prog f (fs.toList++[u]++cs.toList).toArray S' (.bool (p x))):FnV Tryz.prog 136 #[v,.func (.func f) fs cs] S (.bool (xs.any p)):=by
 (refine Fn.enter (args:=[v,.func (.func f) fs cs]) Tryz.func136 rfl Tryz.ntmps136 rfl ?_;intro w0)
 repeat (first|(refine Walk ?_;intros)|refine JC.block ?_)
 (refine JO.eff rfl rfl rfl (JEff.callV rfl (p_IndexFunc_Pod p (by exact vta) hE (fun S' h=>hf S' (by exact lea))) rfl ?_);intro _ _)
 repeat (first|(refine Walk ?_;intros)|refine JC.block ?_)
 refine JX.ret1 Tryz.results136 (ResV.tmp rfl) (List.nil_sublist _) ?_
 exact ⟨rfl,by rw [← idxF_nn]⟩
theorem p_IndexFunc_Owner {S:SHeap} {v:Value} {xs:List Owner} {f:FuncId} {fs cs:Array Value} (p:Owner→Bool) (hv:(rSlice 56 rOwner).V S v xs) (hE:Ent Tryz.prog f)
  (hf:∀ S',S.le S'→∀ u x,rOwner.V S' u x→FnV Tryz.prog f (fs.toList++[u]++cs.toList).toArray S' (.bool (p x))):FnV Tryz.prog 204 #[v,.func (.func f) fs cs] S (.int .i64 (idxF p xs)):=by
 obtain ⟨a,c,rfl,_,_,hb,_⟩:=V_slice.1 hv
 unfold big at hb
 (refine Fn.enter (args:=[.slice a xs.length c,.func (.func f) fs cs]) Tryz.func204 rfl Tryz.ntmps204 rfl ?_;intro w0)
 repeat (first|(refine Walk ?_;intros)|refine JC.block ?_)
 refine JC.loop (σ:=SHeap × Nat) (fun q=>q.1) (fun _=>[]) (fun q=>[(0,.slice a xs.length c),(1,.func (.func f) fs cs),(7,.int .i64 xs.length),(8,.int .i64 q.2)]) (fun q=>S.le q.1∧q.2≤xs.length∧xs.findIdx? p=((xs.drop q.2).findIdx? p).map (·+q.2)) (fun q=>xs.length - q.2) (S,0) ⟨SHeap.le.refl _,Nat.zero_le _,by simp⟩ rfl rfl (by exact sba) ?_
 rintro ⟨S1,k⟩ ⟨hl1,hk,hi⟩
 dsimp only at hl1 hk hi ⊢
 repeat (first|(refine Walk ?_;intros)|refine JC.block ?_)
 refine JC.cond rfl (fun hc=>?_) (fun hc=>?_)
 ·have hk':=dlt hc
  obtain ⟨x,hx,hd⟩:=drop_at hk'
  repeat (first|(refine Walk ?_;intros)|refine JC.block ?_)
  (refine JO.eff rfl rfl rfl (JEff.dynV rfl (by assumption) rfl ((hf _ (by exact lea) _ x (by assumption))) rfl ?_);intro _ _)
  repeat (first|(refine Walk ?_;intros)|refine JC.block ?_)
  refine JC.cond rfl (fun h1=>?_) (fun h1=>?_)
  ·repeat (first|(refine Walk ?_;intros)|refine JC.block ?_)
   refine JX.ret1 Tryz.results204 (ResV.tmp rfl) (List.nil_sublist _) ?_
   exact ⟨rfl,by rw [idx_hit hd h1 hi]⟩
  ·repeat (first|(refine Walk ?_;intros)|refine JC.block ?_)
   exact JX.round (_,k+1) ⟨by exact lea,hk',idx_step hd h1 hi⟩ (by simp;omega) rfl rfl (by exact sba)
 ·have hk':=dnlt hc
  repeat (first|(refine Walk ?_;intros)|refine JC.block ?_)
  refine JX.ret1 Tryz.results204 (ResV.tmp rfl) (List.nil_sublist _) ?_
  exact ⟨rfl,by rw [idx_miss (List.drop_eq_nil_of_le hk') hi]⟩
theorem p_ContainsFunc_Owner {S:SHeap} {v:Value} {xs:List Owner} {f:FuncId} {fs cs:Array Value} (p:Owner→Bool) (hv:(rSlice 56 rOwner).V S v xs) (hE:Ent Tryz.prog f)
  (hf:∀ S',S.le S'→∀ u x,rOwner.V S' u x→FnV Tryz.prog f (fs.toList++[u]++cs.toList).toArray S' (.bool (p x))):FnV Tryz.prog 133 #[v,.func (.func f) fs cs] S (.bool (xs.any p)):=by
 (refine Fn.enter (args:=[v,.func (.func f) fs cs]) Tryz.func133 rfl Tryz.ntmps133 rfl ?_;intro w0)
 repeat (first|(refine Walk ?_;intros)|refine JC.block ?_)
 (refine JO.eff rfl rfl rfl (JEff.callV rfl (p_IndexFunc_Owner p (by exact vta) hE (fun S' h=>hf S' (by exact lea))) rfl ?_);intro _ _)
 repeat (first|(refine Walk ?_;intros)|refine JC.block ?_)
 refine JX.ret1 Tryz.results133 (ResV.tmp rfl) (List.nil_sublist _) ?_
 exact ⟨rfl,by rw [← idxF_nn]⟩
theorem p_IndexFunc_Clause {S:SHeap} {v:Value} {xs:List Clause} {f:FuncId} {fs cs:Array Value} (p:Clause→Bool) (hv:(rSlice 32 rClause).V S v xs) (hE:Ent Tryz.prog f)
  (hf:∀ S',S.le S'→∀ u x,rClause.V S' u x→FnV Tryz.prog f (fs.toList++[u]++cs.toList).toArray S' (.bool (p x))):FnV Tryz.prog 104 #[v,.func (.func f) fs cs] S (.int .i64 (idxF p xs)):=by
 obtain ⟨a,c,rfl,_,_,hb,_⟩:=V_slice.1 hv
 unfold big at hb
 (refine Fn.enter (args:=[.slice a xs.length c,.func (.func f) fs cs]) Tryz.func104 rfl Tryz.ntmps104 rfl ?_;intro w0)
 repeat (first|(refine Walk ?_;intros)|refine JC.block ?_)
 refine JC.loop (σ:=SHeap × Nat) (fun q=>q.1) (fun _=>[]) (fun q=>[(0,.slice a xs.length c),(1,.func (.func f) fs cs),(7,.int .i64 xs.length),(8,.int .i64 q.2)]) (fun q=>S.le q.1∧q.2≤xs.length∧xs.findIdx? p=((xs.drop q.2).findIdx? p).map (·+q.2)) (fun q=>xs.length - q.2) (S,0) ⟨SHeap.le.refl _,Nat.zero_le _,by simp⟩ rfl rfl (by exact sba) ?_
 rintro ⟨S1,k⟩ ⟨hl1,hk,hi⟩
 dsimp only at hl1 hk hi ⊢
 repeat (first|(refine Walk ?_;intros)|refine JC.block ?_)
 refine JC.cond rfl (fun hc=>?_) (fun hc=>?_)
 ·have hk':=dlt hc
  obtain ⟨x,hx,hd⟩:=drop_at hk'
  repeat (first|(refine Walk ?_;intros)|refine JC.block ?_)
  (refine JO.eff rfl rfl rfl (JEff.dynV rfl (by assumption) rfl ((hf _ (by exact lea) _ x (by assumption))) rfl ?_);intro _ _)
  repeat (first|(refine Walk ?_;intros)|refine JC.block ?_)
  refine JC.cond rfl (fun h1=>?_) (fun h1=>?_)
  ·repeat (first|(refine Walk ?_;intros)|refine JC.block ?_)
   refine JX.ret1 Tryz.results104 (ResV.tmp rfl) (List.nil_sublist _) ?_
   exact ⟨rfl,by rw [idx_hit hd h1 hi]⟩
  ·repeat (first|(refine Walk ?_;intros)|refine JC.block ?_)
   exact JX.round (_,k+1) ⟨by exact lea,hk',idx_step hd h1 hi⟩ (by simp;omega) rfl rfl (by exact sba)
 ·have hk':=dnlt hc
  repeat (first|(refine Walk ?_;intros)|refine JC.block ?_)
  refine JX.ret1 Tryz.results104 (ResV.tmp rfl) (List.nil_sublist _) ?_
  exact ⟨rfl,by rw [idx_miss (List.drop_eq_nil_of_le hk') hi]⟩
theorem p_IndexFunc_int {S:SHeap} {v:Value} {xs:List Int} {f:FuncId} {fs cs:Array Value} (p:Int→Bool) (hv:(rSlice 8 rI64).V S v xs) (hE:Ent Tryz.prog f)
  (hf:∀ S',S.le S'→∀ u x,rI64.V S' u x→FnV Tryz.prog f (fs.toList++[u]++cs.toList).toArray S' (.bool (p x))):FnV Tryz.prog 145 #[v,.func (.func f) fs cs] S (.int .i64 (idxF p xs)):=by
 obtain ⟨a,c,rfl,_,_,hb,_⟩:=V_slice.1 hv
 unfold big at hb
 (refine Fn.enter (args:=[.slice a xs.length c,.func (.func f) fs cs]) Tryz.func145 rfl Tryz.ntmps145 rfl ?_;intro w0)
 repeat (first|(refine Walk ?_;intros)|refine JC.block ?_)
 refine JC.loop (σ:=SHeap × Nat) (fun q=>q.1) (fun _=>[]) (fun q=>[(0,.slice a xs.length c),(1,.func (.func f) fs cs),(7,.int .i64 xs.length),(8,.int .i64 q.2)]) (fun q=>S.le q.1∧q.2≤xs.length∧xs.findIdx? p=((xs.drop q.2).findIdx? p).map (·+q.2)) (fun q=>xs.length - q.2) (S,0) ⟨SHeap.le.refl _,Nat.zero_le _,by simp⟩ rfl rfl (by exact sba) ?_
 rintro ⟨S1,k⟩ ⟨hl1,hk,hi⟩
 dsimp only at hl1 hk hi ⊢
 repeat (first|(refine Walk ?_;intros)|refine JC.block ?_)
 refine JC.cond rfl (fun hc=>?_) (fun hc=>?_)
 ·have hk':=dlt hc
  obtain ⟨x,hx,hd⟩:=drop_at hk'
  repeat (first|(refine Walk ?_;intros)|refine JC.block ?_)
  (refine JO.eff rfl rfl rfl (JEff.dynV rfl (by assumption) rfl ((hf _ (by exact lea) _ x (V_i64.2 ⟨rfl,by assumption⟩))) rfl ?_);intro _ _)
  repeat (first|(refine Walk ?_;intros)|refine JC.block ?_)
  refine JC.cond rfl (fun h1=>?_) (fun h1=>?_)
  ·repeat (first|(refine Walk ?_;intros)|refine JC.block ?_)
   refine JX.ret1 Tryz.results145 (ResV.tmp rfl) (List.nil_sublist _) ?_
   exact ⟨rfl,by rw [idx_hit hd h1 hi]⟩
  ·repeat (first|(refine Walk ?_;intros)|refine JC.block ?_)
   exact JX.round (_,k+1) ⟨by exact lea,hk',idx_step hd h1 hi⟩ (by simp;omega) rfl rfl (by exact sba)
 ·have hk':=dnlt hc
  repeat (first|(refine Walk ?_;intros)|refine JC.block ?_)
  refine JX.ret1 Tryz.results145 (ResV.tmp rfl) (List.nil_sublist _) ?_
  exact ⟨rfl,by rw [idx_miss (List.drop_eq_nil_of_le hk') hi]⟩
theorem p_ContainsFunc_int {S:SHeap} {v:Value} {xs:List Int} {f:FuncId} {fs cs:Array Value} (p:Int→Bool) (hv:(rSlice 8 rI64).V S v xs) (hE:Ent Tryz.prog f)
  (hf:∀ S',S.le S'→∀ u x,rI64.V S' u x→FnV Tryz.prog f (fs.toList++[u]++cs.toList).toArray S' (.bool (p x))):FnV Tryz.prog 63 #[v,.func (.func f) fs cs] S (.bool (xs.any p)):=by
 (refine Fn.enter (args:=[v,.func (.func f) fs cs]) Tryz.func63 rfl Tryz.ntmps63 rfl ?_;intro w0)
 repeat (first|(refine Walk ?_;intros)|refine JC.block ?_)
 (refine JO.eff rfl rfl rfl (JEff.callV rfl (p_IndexFunc_int p (by exact vta) hE (fun S' h=>hf S' (by exact lea))) rfl ?_);intro _ _)
 repeat (first|(refine Walk ?_;intros)|refine JC.block ?_)
 refine JX.ret1 Tryz.results63 (ResV.tmp rfl) (List.nil_sublist _) ?_
 exact ⟨rfl,by rw [← idxF_nn]⟩
theorem p_IndexFunc_string {S:SHeap} {v:Value} {xs:List ByteArray} {f:FuncId} {fs cs:Array Value} (p:ByteArray→Bool) (hv:(rSlice 16 rStr).V S v xs) (hE:Ent Tryz.prog f)
  (hf:∀ S',S.le S'→∀ u x,rStr.V S' u x→FnV Tryz.prog f (fs.toList++[u]++cs.toList).toArray S' (.bool (p x))):FnV Tryz.prog 263 #[v,.func (.func f) fs cs] S (.int .i64 (idxF p xs)):=by
 obtain ⟨a,c,rfl,_,_,hb,_⟩:=V_slice.1 hv
 unfold big at hb
 (refine Fn.enter (args:=[.slice a xs.length c,.func (.func f) fs cs]) Tryz.func263 rfl Tryz.ntmps263 rfl ?_;intro w0)
 repeat (first|(refine Walk ?_;intros)|refine JC.block ?_)
 refine JC.loop (σ:=SHeap × Nat) (fun q=>q.1) (fun _=>[]) (fun q=>[(0,.slice a xs.length c),(1,.func (.func f) fs cs),(7,.int .i64 xs.length),(8,.int .i64 q.2)]) (fun q=>S.le q.1∧q.2≤xs.length∧xs.findIdx? p=((xs.drop q.2).findIdx? p).map (·+q.2)) (fun q=>xs.length - q.2) (S,0) ⟨SHeap.le.refl _,Nat.zero_le _,by simp⟩ rfl rfl (by exact sba) ?_
 rintro ⟨S1,k⟩ ⟨hl1,hk,hi⟩
 dsimp only at hl1 hk hi ⊢
 repeat (first|(refine Walk ?_;intros)|refine JC.block ?_)
 refine JC.cond rfl (fun hc=>?_) (fun hc=>?_)
 ·have hk':=dlt hc
  obtain ⟨x,hx,hd⟩:=drop_at hk'
  repeat (first|(refine Walk ?_;intros)|refine JC.block ?_)
  (refine JO.eff rfl rfl rfl (JEff.dynV rfl (by assumption) rfl ((hf _ (by exact lea) _ x (V_str.2 ⟨rfl,by assumption⟩))) rfl ?_);intro _ _)
  repeat (first|(refine Walk ?_;intros)|refine JC.block ?_)
  refine JC.cond rfl (fun h1=>?_) (fun h1=>?_)
  ·repeat (first|(refine Walk ?_;intros)|refine JC.block ?_)
   refine JX.ret1 Tryz.results263 (ResV.tmp rfl) (List.nil_sublist _) ?_
   exact ⟨rfl,by rw [idx_hit hd h1 hi]⟩
  ·repeat (first|(refine Walk ?_;intros)|refine JC.block ?_)
   exact JX.round (_,k+1) ⟨by exact lea,hk',idx_step hd h1 hi⟩ (by simp;omega) rfl rfl (by exact sba)
 ·have hk':=dnlt hc
  repeat (first|(refine Walk ?_;intros)|refine JC.block ?_)
  refine JX.ret1 Tryz.results263 (ResV.tmp rfl) (List.nil_sublist _) ?_
  exact ⟨rfl,by rw [idx_miss (List.drop_eq_nil_of_le hk') hi]⟩
theorem p_ContainsFunc_string {S:SHeap} {v:Value} {xs:List ByteArray} {f:FuncId} {fs cs:Array Value} (p:ByteArray→Bool) (hv:(rSlice 16 rStr).V S v xs) (hE:Ent Tryz.prog f)
  (hf:∀ S',S.le S'→∀ u x,rStr.V S' u x→FnV Tryz.prog f (fs.toList++[u]++cs.toList).toArray S' (.bool (p x))):FnV Tryz.prog 190 #[v,.func (.func f) fs cs] S (.bool (xs.any p)):=by
 (refine Fn.enter (args:=[v,.func (.func f) fs cs]) Tryz.func190 rfl Tryz.ntmps190 rfl ?_;intro w0)
 repeat (first|(refine Walk ?_;intros)|refine JC.block ?_)
 (refine JO.eff rfl rfl rfl (JEff.callV rfl (p_IndexFunc_string p (by exact vta) hE (fun S' h=>hf S' (by exact lea))) rfl ?_);intro _ _)
 repeat (first|(refine Walk ?_;intros)|refine JC.block ?_)
 refine JX.ret1 Tryz.results190 (ResV.tmp rfl) (List.nil_sublist _) ?_
 exact ⟨rfl,by rw [← idxF_nn]⟩
theorem p_IndexFunc_Errno {S:SHeap} {v:Value} {xs:List Int} {f:FuncId} {fs cs:Array Value} (p:Int→Bool) (hv:(rSlice 8 rI64).V S v xs) (hE:Ent Tryz.prog f)
  (hf:∀ S',S.le S'→∀ u x,rI64.V S' u x→FnV Tryz.prog f (fs.toList++[u]++cs.toList).toArray S' (.bool (p x))):FnV Tryz.prog 275 #[v,.func (.func f) fs cs] S (.int .i64 (idxF p xs)):=by
 obtain ⟨a,c,rfl,_,_,hb,_⟩:=V_slice.1 hv
 unfold big at hb
 (refine Fn.enter (args:=[.slice a xs.length c,.func (.func f) fs cs]) Tryz.func275 rfl Tryz.ntmps275 rfl ?_;intro w0)
 repeat (first|(refine Walk ?_;intros)|refine JC.block ?_)
 refine JC.loop (σ:=SHeap × Nat) (fun q=>q.1) (fun _=>[]) (fun q=>[(0,.slice a xs.length c),(1,.func (.func f) fs cs),(7,.int .i64 xs.length),(8,.int .i64 q.2)]) (fun q=>S.le q.1∧q.2≤xs.length∧xs.findIdx? p=((xs.drop q.2).findIdx? p).map (·+q.2)) (fun q=>xs.length - q.2) (S,0) ⟨SHeap.le.refl _,Nat.zero_le _,by simp⟩ rfl rfl (by exact sba) ?_
 rintro ⟨S1,k⟩ ⟨hl1,hk,hi⟩
 dsimp only at hl1 hk hi ⊢
 repeat (first|(refine Walk ?_;intros)|refine JC.block ?_)
 refine JC.cond rfl (fun hc=>?_) (fun hc=>?_)
 ·have hk':=dlt hc
  obtain ⟨x,hx,hd⟩:=drop_at hk'
  repeat (first|(refine Walk ?_;intros)|refine JC.block ?_)
  (refine JO.eff rfl rfl rfl (JEff.dynV rfl (by assumption) rfl ((hf _ (by exact lea) _ x (V_i64.2 ⟨rfl,by assumption⟩))) rfl ?_);intro _ _)
  repeat (first|(refine Walk ?_;intros)|refine JC.block ?_)
  refine JC.cond rfl (fun h1=>?_) (fun h1=>?_)
  ·repeat (first|(refine Walk ?_;intros)|refine JC.block ?_)
   refine JX.ret1 Tryz.results275 (ResV.tmp rfl) (List.nil_sublist _) ?_
   exact ⟨rfl,by rw [idx_hit hd h1 hi]⟩
  ·repeat (first|(refine Walk ?_;intros)|refine JC.block ?_)
   exact JX.round (_,k+1) ⟨by exact lea,hk',idx_step hd h1 hi⟩ (by simp;omega) rfl rfl (by exact sba)
 ·have hk':=dnlt hc
  repeat (first|(refine Walk ?_;intros)|refine JC.block ?_)
  refine JX.ret1 Tryz.results275 (ResV.tmp rfl) (List.nil_sublist _) ?_
  exact ⟨rfl,by rw [idx_miss (List.drop_eq_nil_of_le hk') hi]⟩
theorem p_ContainsFunc_Errno {S:SHeap} {v:Value} {xs:List Int} {f:FuncId} {fs cs:Array Value} (p:Int→Bool) (hv:(rSlice 8 rI64).V S v xs) (hE:Ent Tryz.prog f)
  (hf:∀ S',S.le S'→∀ u x,rI64.V S' u x→FnV Tryz.prog f (fs.toList++[u]++cs.toList).toArray S' (.bool (p x))):FnV Tryz.prog 213 #[v,.func (.func f) fs cs] S (.bool (xs.any p)):=by
 (refine Fn.enter (args:=[v,.func (.func f) fs cs]) Tryz.func213 rfl Tryz.ntmps213 rfl ?_;intro w0)
 repeat (first|(refine Walk ?_;intros)|refine JC.block ?_)
 (refine JO.eff rfl rfl rfl (JEff.callV rfl (p_IndexFunc_Errno p (by exact vta) hE (fun S' h=>hf S' (by exact lea))) rfl ?_);intro _ _)
 repeat (first|(refine Walk ?_;intros)|refine JC.block ?_)
 refine JX.ret1 Tryz.results213 (ResV.tmp rfl) (List.nil_sublist _) ?_
 exact ⟨rfl,by rw [← idxF_nn]⟩
end Go.Dr
namespace Go.Dr
def riseN:Option ByteArray→List ByteArray→Bool
 | _,[]=>true
 | p,s::r=>nameB s&&(match p with|some a=>ltS a s|none=>true)&&riseN (some s) r
def z0 (x:Int):Bool:=decide (x=0)
def nodeB (n:Node):Bool:=z0 (checkV n.cap)&&z0 (checkL false n.labels)&&z0 (checkL false n.taints)
def nearB (n:Near):Bool:=if n.topo=noS then decide (n.terms.length=0) else nameB n.topo&&z0 (checkT n.terms)
def idxS (l:List ByteArray) (name:ByteArray):Int:=idxF (fun x=>decide (x=name)) l
def nNames (s:Snap):List ByteArray:=s.nodes.map Node.name
def pNames (s:Snap):List ByteArray:=s.pods.map Pod.name
def oNames (s:Snap):List ByteArray:=s.owners.map Owner.name
def lostAt (s:Snap) (i:Int):Bool:=match s.nodes[i.toNat]? with|some n=>n.lost|none=>false
def podB (s:Snap) (p:Pod):Bool:=
 (decide (p.owner=noS)||decide (0≤idxS (oNames s) p.owner))&&(decide (p.on=noS)||(decide (0≤idxS (nNames s) p.on)&&!lostAt s (idxS (nNames s) p.on))) &&
  (z0 (checkV p.req)&&z0 (checkL false p.labels)&&z0 (checkT p.wher)&&z0 (checkL true p.bears))&&nearB p.with_&&nearB p.apart
def ownerB (o:Owner):Bool:=
 (if o.topo=noS then decide (o.skew=0) else nameB o.topo&&decide (1≤o.skew)&&decide (o.skew≤24))&&decide (0≤o.min)&&decide (o.min≤24)
def manyB (s:Snap):Bool:=decide ((8:Int) < (s.nodes.length:Int))||decide ((24:Int) < (s.pods.length:Int))||decide ((8:Int) < (s.owners.length:Int))
def shapedB (s:Snap):Bool:=
 !manyB s&&(riseN none (nNames s)&&riseN none (pNames s)&&riseN none (oNames s))&&(s.nodes.all nodeB&&s.pods.all (podB s)&&s.owners.all ownerB)
def caps (s:Snap):List (List Int):=s.nodes.map Node.cap
def reqs (s:Snap):List (List Int):=s.pods.map Pod.req
def checkS (s:Snap):Int:=if shapedB s then (if z0 (plusV (caps s)).2&&z0 (plusV (reqs s)).2 then 0 else 10) else 50
theorem idxS_map {α:Type} (f:α→ByteArray) (l:List α) (name:ByteArray):idxS (l.map f) name=idxF (fun x=>decide (f x=name)) l:=by
 unfold idxS idxF
 rw [List.findIdx?_map]
 rfl
theorem idxF_lt {α:Type} (p:α→Bool) (l:List α):idxF p l < l.length:=by
 unfold idxF
 cases h:l.findIdx? p with
 | none=>simp;omega
 | some i=>have:=(List.findIdx?_eq_some_iff_getElem.1 h).1;simp only [];omega
theorem idxF_ge {α:Type} (p:α→Bool) (l:List α):-1≤idxF p l:=by
 unfold idxF
 cases h:l.findIdx? p<;>simp only []<;>omega
end Go.Dr
namespace Go.Dr
def oddP (s:Snap) (n:Int):Bool:=decide (n < -1)||decide ((s.nodes.length:Int)≤n)||(decide (0≤n)&&lostAt s n)
def checkP (s:Snap) (p:List Int):Int:=if !z0 (checkS s) then checkS s else if !decide (p.length=s.pods.length)||p.any (oddP s) then 2 else 0
def valB (n:Node) (key:ByteArray):ByteArray × Bool:=if n.lost then (noS,false) else getL n.labels key
def onN (s:Snap) (p:List Int) (node:Int):List Pod:=((p.zip s.pods).filter (fun x=>decide (x.1=node))).map (fun x=>x.2)
def usedV (s:Snap) (p:List Int) (node:Int):List Int:=(List.range 5).map (fun j=>((onN s p node).map (fun x=>at0 x.req j)).sum)
def ownName (s:Snap) (o:Nat):ByteArray:=match s.owners[o]? with|some x=>x.name|none=>noS
def ownedL (s:Snap) (p:List Int) (o:Nat):List Int:=((p.zip s.pods).filter (fun x=>decide (0≤x.1)&&decide (x.2.owner=ownName s o))).map (fun x=>x.1)
def placedN (s:Snap) (p:List Int) (o:Nat):Int:=(ownedL s p o).length
def countsL (s:Snap) (p:List Int) (o:Nat):List Int:=(List.range s.nodes.length).map (fun (n:Nat)=>(((ownedL s p o).filter (fun x=>decide (x=(n:Int)))).length:Int))
theorem checkP_ok {s:Snap} {p:List Int} (h:checkP s p=0):checkS s=0∧p.length=s.pods.length∧∀ n∈p,oddP s n=false:=by
 unfold checkP at h
 cases h1:z0 (checkS s) with
 | false=>
  rw [h1] at h
  simp [z0] at h1
  simp at h
  exact absurd h h1
 | true=>
  rw [h1] at h
  have h1:checkS s=0:=by simpa [z0] using h1
  refine ⟨h1,?_⟩
  simp only [Bool.not_true,Bool.false_eq_true,if_false] at h
  split at h
  ·cases h
  ·rename_i h2
   simp only [Bool.or_eq_true,not_or,Bool.not_eq_true',decide_eq_false_iff_not,Classical.not_not,Bool.not_eq_true,List.any_eq_false] at h2
   exact ⟨h2.1,fun n hn=>by simpa using h2.2 n hn⟩
end Go.Dr
namespace Go.Dr
def near8 (s:Snap) (a b:Nat) (key:ByteArray):Bool:=
 match s.nodes[a]?,s.nodes[b]? with
 | some x,some y=>(valB x key).2&&(valB y key).2&&decide ((valB x key).1=(valB y key).1)
 | _,_=>false
def termsN (l:List Term) (labels:List Label):Int:=(l.filter (fun t=>!holdsB [t] labels)).length
def taintsN (l bears:List Label):Int:=(l.filter (fun t=>!bearsB bears [t])).length
def single8 (s:Snap) (name:ByteArray):Bool:=match s.owners.find? (fun o=>decide (o.name=name)) with|some o=>o.single|none=>false
theorem filt_take {α:Type} {l:List α} {f:α→Bool} {k:Nat} {x:α} (h:l[k]?=some x):(((l.take (k+1)).filter f).length:Int)=((l.take k).filter f).length+(if f x=true then 1 else 0):=by
 rw [List.take_add_one,h]
 cases hf:f x<;>simp [List.filter_append,List.filter_cons,hf]
theorem filt_le {α:Type} (l:List α) (f:α→Bool) (k:Nat):((l.take k).filter f).length≤k:=Nat.le_trans (List.length_filter_le _ _) (by simp;omega)
theorem cut1 {α:Type} {l:List α} {k:Nat} {x:α} (h:l[k]?=some x):(l.drop ((k:Int)).toNat).take ((k:Int)+1 - (k:Int)).toNat=[x]:=by
 obtain ⟨hl,hx⟩:=List.getElem?_eq_some_iff.1 h
 have e:((k:Int)+1 - (k:Int)).toNat=1:=by omega
 have e2:((k:Int)).toNat=k:=by omega
 rw [e,e2,List.drop_eq_getElem_cons hl,hx];rfl
end Go.Dr
namespace Go.Dr
def cntI (n:Nat) (f:Nat→Bool):Int:=((List.range n).filter f).length
theorem cntI_step (n:Nat) (f:Nat→Bool):cntI (n+1) f=cntI n f+(if f n=true then 1 else 0):=by
 unfold cntI
 rw [List.range_succ,List.filter_append]
 cases hf:f n<;>simp [hf]
theorem cntI_rng (n:Nat) (f:Nat→Bool):0≤cntI n f∧cntI n f≤n:=by
 unfold cntI
 have:=List.length_filter_le f (List.range n)
 simp at this ⊢;omega
def aboutF (s:Snap) (p:List Int) (i:Nat) (x:Near) (others:Bool) (j:Nat):Bool:=
 match p[j]?,s.pods[j]?,p[i]? with
 | some n,some q,some m=>decide (0≤n)&&!(others&&decide (j=i))&&near8 s n.toNat m.toNat x.topo&&holdsB x.terms q.labels
 | _,_,_=>false
def about8 (s:Snap) (p:List Int) (i:Nat) (x:Near) (others:Bool):Int:=cntI p.length (aboutF s p i x others)
def doubleF (s:Snap) (p:List Int) (i:Nat) (j:Nat):Bool:=
 match p[j]?,s.pods[j]?,p[i]?,s.pods[i]? with
 | some n,some q,some m,some r=>!decide (j=i)&&decide (n=m)&&decide (q.owner=r.owner)
 | _,_,_,_=>false
def double8 (s:Snap) (p:List Int) (i:Nat):Int:=cntI p.length (doubleF s p i)
end Go.Dr
namespace Go.Dr
def domIns (v:ByteArray) (out:List ByteArray):List ByteArray:=
 out.takeWhile (fun x=>ltS x v)++(match out.dropWhile (fun x=>ltS x v) with|[]=>[v]|x::r=>if x=v then x::r else v::x::r)
def domStep (key:ByteArray) (out:List ByteArray) (n:Node):List ByteArray:=if (valB n key).2=true then domIns (valB n key).1 out else out
def domL (s:Snap) (key:ByteArray):List ByteArray:=s.nodes.foldl (domStep key) []
def inDom (s:Snap) (key v:ByteArray) (n:Nat):Bool:=match s.nodes[n]? with|some x=>(valB x key).2&&decide ((valB x key).1=v)|none=>false
def topoOf (s:Snap) (o:Nat):ByteArray:=match s.owners[o]? with|some x=>x.topo|none=>noS
def domCount (s:Snap) (p:List Int) (o:Nat) (v:ByteArray):Int:=((List.range s.nodes.length).map (fun n=>if inDom s (topoOf s o) v n=true then at0 (countsL s p o) n else 0)).sum
def spreadL (s:Snap) (p:List Int) (o:Nat):List Int:=(domL s (topoOf s o)).map (domCount s p o)
def applyP (s:Snap) (p:List Int) (x:Step):List Int × Int:=
 if !z0 (checkP s p) then ([],checkP s p)
 else if !decide (x.kind=1)&&!decide (x.kind=2) then ([],2)
 else if decide (x.pod < 0)||decide ((p.length:Int)≤x.pod)||decide (x.node < 0)||(decide (x.kind=2)&&decide ((s.nodes.length:Int)≤x.node))||(decide (x.kind=1)&&!decide (x.node=0)) then ([],9)
 else if (decide (at0 p x.pod.toNat=-1)==decide (x.kind=1))||(decide (x.kind=2)&&lostAt s x.node) then ([],110)
 else (p.set x.pod.toNat (if x.kind=2 then x.node else -1),0)
end Go.Dr
namespace Go.Dr
def minL:List Int→Int
 | []=>0
 | x::l=>l.foldl min x
def maxL:List Int→Int
 | []=>0
 | x::l=>l.foldl max x
theorem fold_min_lt (c:Int):∀ (l:List Int) (z:Int),decide (l.foldl min z < c)=(decide (z < c)||l.any (fun x=>decide (x < c)))
 | [],z=>by rw [List.any_nil,Bool.or_false];rfl
 | x::l,z=>by
  rw [List.foldl_cons,fold_min_lt c l,List.any_cons]
  by_cases h1:z < c<;>by_cases h2:x < c<;>simp [h1,h2]<;>omega
theorem fold_max_gt (c:Int):∀ (l:List Int) (z:Int),decide (c < l.foldl max z)=(decide (c < z)||l.any (fun x=>decide (c < x)))
 | [],z=>by rw [List.any_nil,Bool.or_false];rfl
 | x::l,z=>by
  rw [List.foldl_cons,fold_max_gt c l,List.any_cons]
  by_cases h1:c < z<;>by_cases h2:c < x<;>simp [h1,h2]<;>omega
theorem minL_neg {l:List Int} (h:l≠[]):decide (minL l < 0)=l.any negB:=by
 cases l with
 | nil=>exact absurd rfl h
 | cons x l=>rw [minL,fold_min_lt,List.any_cons];rfl
theorem maxL_over {l:List Int} (h:l≠[]):decide (Qty < maxL l)=l.any overB:=by
 cases l with
 | nil=>exact absurd rfl h
 | cons x l=>rw [maxL,fold_max_gt,List.any_cons];rfl
theorem fold_rng {f:Int→Int→Int} (hf:∀ a b,f a b=a∨f a b=b) {lo hi:Int}:∀ {l:List Int} {z:Int},lo≤z→z≤hi→(∀ x∈l,lo≤x∧x≤hi)→lo≤l.foldl f z∧l.foldl f z≤hi
 | [],z,h1,h2,_=>⟨h1,h2⟩
 | x::l,z,h1,h2,h=>by
  have hx:=h x (by simp)
  rw [List.foldl_cons]
  rcases hf z x with e|e<;>rw [e]
  ·exact fold_rng hf h1 h2 (fun y hy=>h y (by simp [hy]))
  ·exact fold_rng hf hx.1 hx.2 (fun y hy=>h y (by simp [hy]))
theorem min_or (a b:Int):min a b=a∨min a b=b:=by omega
theorem max_or (a b:Int):max a b=a∨max a b=b:=by omega
def eachV (g:Nat→Int × Int):List Int × Int:=
 match (List.range 5).find? (fun i=>!decide ((g i).2=0)) with
 | some i=>([0,0,0,0,0],(g i).2)
 | none=>((List.range 5).map (fun i=>(g i).1),0)
theorem plusV_each (l:List (List Int)):plusV l=eachV (colQ l):=rfl
def eachTo (g:Nat→Int × Int) (k:Nat):List Int:=(List.range k).map (fun i=>(g i).1)++List.replicate (5 - k) 0
theorem eachTo_len (g:Nat→Int × Int) {k:Nat} (h:k≤5):(eachTo g k).length=5:=by simp [eachTo];omega
theorem eachTo_rng {g:Nat→Int × Int} (hg:∀ i,Rng (g i).1) (k:Nat):∀ x∈eachTo g k,Rng x:=by
 intro x hx
 rcases List.mem_append.1 hx with hx|hx
 ·obtain ⟨i,_,rfl⟩:=List.mem_map.1 hx
  exact hg i
 ·rw [List.mem_replicate] at hx
  rw [hx.2];unfold Rng;omega
theorem eachTo_set (g:Nat→Int × Int) {k:Nat} (h:k < 5):(eachTo g k).set k (g k).1=eachTo g (k+1):=by
 unfold eachTo
 rw [List.set_append_right _ _ (by simp),List.range_succ,List.map_append]
 obtain ⟨j,hj⟩:∃ j,5 - k=j+1:=⟨5 - k - 1,by omega⟩
 rw [hj,show 5 - (k+1)=j by omega,List.replicate_succ]
 simp
def okE (g:Nat→Int × Int) (k:Nat):Prop:=∀ i,i < k→(g i).2=0
theorem okE_step {g:Nat→Int × Int} {k:Nat} (h:okE g k) (h1:(g k).2=0):okE g (k+1):=by
 intro i hi
 rcases Nat.lt_or_ge i k with h2|h2
 ·exact h i h2
 ·rw [show i=k by omega];exact h1
theorem each_bad {g:Nat→Int × Int} {k:Nat} (h:okE g k) (hk:k < 5) (h1:¬ (g k).2=0):eachV g=([0,0,0,0,0],(g k).2):=by
 have:(List.range 5).find? (fun i=>!decide ((g i).2=0))=some k:=by
  rw [List.find?_range_eq_some]
  exact ⟨by simpa using h1,by simpa using hk,fun j hj=>by simpa using h j hj⟩
 rw [eachV,this]
theorem each_good {g:Nat→Int × Int} (h:okE g 5):eachV g=(eachTo g 5,0):=by
 have:(List.range 5).find? (fun i=>!decide ((g i).2=0))=none:=by
  rw [List.find?_range_eq_none]
  exact fun j hj=>by simpa using h j hj
 rw [eachV,this]
 simp [eachTo]
end Go.Dr
namespace Go.Dr
def skewOf (s:Snap) (o:Nat):Int:=match s.owners[o]? with|some x=>x.skew|none=>0
def minOf (s:Snap) (o:Nat):Int:=match s.owners[o]? with|some x=>x.min|none=>0
def capOf (s:Snap) (n:Nat):List Int:=match s.nodes[n]? with|some x=>x.cap|none=>[]
def skewV (s:Snap) (p:List Int) (o:Nat):Int:=if (spreadL s p o).length=0 then 0 else max 0 (maxL (spreadL s p o) - minL (spreadL s p o) - skewOf s o)
def capN (s:Snap) (p:List Int) (n k:Nat):Clause:=⟨1,n,k,max 0 (at0 (usedV s p n) k - at0 (capOf s n) k)⟩
def capTo (s:Snap) (p:List Int) (n k:Nat):List Clause:=(List.range n).flatMap (fun i=>(List.range 5).map (capN s p i))++(List.range k).map (capN s p n)
def capsC (s:Snap) (p:List Int):List Clause:=capTo s p s.nodes.length 0
def of8 (s:Snap) (p:List Int) (kind:Int) (i:Nat):Int × Bool:=
 match p[i]?,s.pods[i]? with
 | some m,some x=>
  if m < 0 then (0,false) else
  match s.nodes[m.toNat]? with
  | some n=>
   if kind=2 then (termsN x.wher n.labels,true)
   else if kind=3 then (taintsN n.taints x.bears,true)
   else if kind=4 then (if x.with_.topo=noS then (0,false) else (max 0 (1 - about8 s p i x.with_ false),true))
   else if kind=5 then (if x.apart.topo=noS then (0,false) else (about8 s p i x.apart true,true))
   else if x.owner=noS then (0,false) else if !single8 s x.owner then (0,false) else (double8 s p i,true)
  | none=>(0,false)
 | _,_=>(0,false)
def podC1 (s:Snap) (p:List Int) (kind:Int) (i:Nat):List Clause:=if (of8 s p kind i).2=true then [⟨kind,i,0,(of8 s p kind i).1⟩] else []
def podsTo (s:Snap) (p:List Int) (kind:Int) (i:Nat):List Clause:=(List.range i).flatMap (podC1 s p kind)
def kindsTo (s:Snap) (p:List Int) (j:Nat):List Clause:=(List.range j).flatMap (fun (t:Nat)=>podsTo s p ((t:Int)+2) p.length)
def spreadC1 (s:Snap) (p:List Int) (o:Nat):List Clause:=if topoOf s o=noS then [] else [⟨7,o,0,skewV s p o⟩]
def spreadTo (s:Snap) (p:List Int) (o:Nat):List Clause:=(List.range o).flatMap (spreadC1 s p)
def minC1 (s:Snap) (p:List Int) (o:Nat):Clause:=⟨8,o,0,max 0 (minOf s o - placedN s p o)⟩
def minTo (s:Snap) (p:List Int) (o:Nat):List Clause:=(List.range o).map (minC1 s p)
def allC (s:Snap) (p:List Int):List Clause:=capsC s p++kindsTo s p 5++spreadTo s p s.owners.length++minTo s p s.owners.length
def allL (s:Snap) (p:List Int):List Clause:=if checkP s p=0 then allC s p else []
def isC (kind a b:Int) (c:Clause):Bool:=decide (c.kind=kind)&&decide (c.a=a)&&decide (c.b=b)
def ofC (s:Snap) (p:List Int) (kind a b:Int):Int × Bool:=match (allL s p).find? (isC kind a b) with|some c=>(c.by_,true)|none=>(0,false)
def badC (c:Clause):Bool:=decide (0 < c.by_)
def brokenC (s:Snap) (p:List Int):List Clause:=(allL s p).filter badC
theorem capTo_len (s:Snap) (p:List Int) (n k:Nat):(capTo s p n k).length=5*n+k:=by
 unfold capTo
 simp [List.length_flatMap,List.map_const',List.sum_replicate_nat];omega
theorem podsTo_step (s:Snap) (p:List Int) (kind:Int) (i:Nat):podsTo s p kind (i+1)=podsTo s p kind i++podC1 s p kind i:=by
 unfold podsTo;rw [List.range_succ];simp
theorem podC1_len (s:Snap) (p:List Int) (kind:Int) (i:Nat):(podC1 s p kind i).length≤1:=by unfold podC1;split<;>simp
theorem podsTo_len (s:Snap) (p:List Int) (kind:Int):∀ i,(podsTo s p kind i).length≤i
 | 0=>by simp [podsTo]
 | i+1=>by rw [podsTo_step,List.length_append];have:=podsTo_len s p kind i;have:=podC1_len s p kind i;omega
theorem kindsTo_step (s:Snap) (p:List Int) (j:Nat):kindsTo s p (j+1)=kindsTo s p j++podsTo s p ((j:Int)+2) p.length:=by
 unfold kindsTo;rw [List.range_succ];simp
theorem kindsTo_len (s:Snap) (p:List Int):∀ j,(kindsTo s p j).length≤j*p.length
 | 0=>by simp [kindsTo]
 | j+1=>by rw [kindsTo_step,List.length_append,Nat.add_mul];have:=kindsTo_len s p j;have:=podsTo_len s p ((j:Int)+2) p.length;omega
theorem spreadTo_step (s:Snap) (p:List Int) (o:Nat):spreadTo s p (o+1)=spreadTo s p o++spreadC1 s p o:=by
 unfold spreadTo;rw [List.range_succ];simp
theorem spreadTo_len (s:Snap) (p:List Int):∀ o,(spreadTo s p o).length≤o
 | 0=>by simp [spreadTo]
 | o+1=>by
  rw [spreadTo_step,List.length_append]
  have:=spreadTo_len s p o
  have:(spreadC1 s p o).length≤1:=by unfold spreadC1;split<;>simp
  omega
theorem minTo_step (s:Snap) (p:List Int) (o:Nat):minTo s p (o+1)=minTo s p o++[minC1 s p o]:=by
 unfold minTo;rw [List.range_succ];simp
theorem minTo_len (s:Snap) (p:List Int) (o:Nat):(minTo s p o).length=o:=by simp [minTo]
theorem filter_step {α:Type} {l:List α} {f:α→Bool} {k:Nat} {x:α} (h:l[k]?=some x):(l.take (k+1)).filter f=(l.take k).filter f++(if f x=true then [x] else []):=by
 rw [List.take_add_one,h]
 cases hf:f x<;>simp [List.filter_append,List.filter_cons,hf]
theorem filter_len {α:Type} (l:List α) (f:α→Bool) (k:Nat):((l.take k).filter f).length≤k:=Nat.le_trans (List.length_filter_le _ _) (by simp;omega)
end Go.Dr
namespace Go.Dr
def findC (l:List Clause) (c:Clause):Int:=match l.find? (isC c.kind c.a c.b) with|some d=>d.by_|none=>0
def worseF (l:List Clause) (c:Clause):Bool:=decide (findC l c < c.by_)
def worseV (s:Snap) (p q:List Int):List Clause × Int:=
 if ¬ checkP s p=0 then ([],checkP s p) else if ¬ checkP s q=0 then ([],checkP s q) else ((allL s q).filter (worseF (allL s p)),0)
def weight (c:Clause):Int:=if c.kind=1 then min c.by_ 1 else c.by_
def sumC (l:List Clause):Int:=(l.map weight).sum
def sumV (s:Snap) (p:List Int):Int:=sumC (allL s p)
def safeB (s:Snap) (p:List Int):Bool:=decide (checkP s p=0)&&decide (sumV s p=0)
end Go.Dr
namespace Go.Dr
def noC:Clause:=⟨0,0,0,0⟩
def cordonAt (s:Snap) (n:Int):Bool:=match s.nodes[n.toNat]? with|some x=>x.cordon|none=>false
def stepV (s:Snap) (p:List Int) (x:Step):List Int × Clause × Int:=
 if ¬ (applyP s p x).2=0 then ([],noC,(applyP s p x).2)
 else if x.kind=2∧cordonAt s x.node=true then ([],noC,100)
 else match (worseV s p (applyP s p x).1).1 with
  | c::_=>([],c,100)
  | []=>((applyP s p x).1,noC,0)
def mayV (s:Snap) (p:List Int) (x:Step):Bool:=decide ((stepV s p x).2.2=0)
def waysV (s:Snap) (p:List Int) (pod:Int):List Int:=((List.range s.nodes.length).filter (fun (n:Nat)=>mayV s p ⟨2,pod,(n:Int)⟩)).map (fun (n:Nat)=>(n:Int))
def runGo (s:Snap):List Int→Int→List Step→List Int × Int × Int
 | q,i,[]=>(q,i,0)
 | q,i,x::l=>if ¬ (stepV s q x).2.2=0 then ([],i,(stepV s q x).2.2) else runGo s (stepV s q x).1 (i+1) l
end Go.Dr
namespace Go.Dr
def adjB {α:Type} (p:α→α→Bool):List α→Bool
 | x::y::l=>p x y&&adjB p (y::l)
 | _=>true
theorem adj_iff {α:Type} {p:α→α→Bool}:∀ {l:List α},adjB p l=true↔∀ (j:Nat) (x y:α),l[j]?=some x→l[j+1]?=some y→p x y=true
 | []=>by simp [adjB]
 | [x]=>by
  simp only [adjB,true_iff]
  intro j a b _ hb
  simp at hb
 | x::y::l=>by
  have ih:=adj_iff (p:=p) (l:=y::l)
  simp only [adjB,Bool.and_eq_true,ih]
  constructor
  ·rintro ⟨h1,h2⟩ j a b ha hb
   cases j with
   | zero=>simp at ha hb;subst ha;subst hb;exact h1
   | succ j=>exact h2 j a b (by simpa using ha) (by simpa using hb)
  ·intro h
   exact ⟨h 0 x y rfl rfl,fun j a b ha hb=>h (j+1) a b (by simpa using ha) (by simpa using hb)⟩
def sortedB (l:List ByteArray):Bool:=adjB (fun a b=>!ltS b a) l
def uniqB (l:List ByteArray):Bool:=adjB (fun a b=>!decide (b=a)) l
theorem bytesLess_irr:∀ a:List UInt8,Op.bytesLess a a=false
 | []=>rfl
 | x::a=>by
  simp only [Op.bytesLess,bytesLess_irr a]
  have:¬ x < x:=fun h=>by have:=UInt8.lt_iff_toNat_lt.1 h;omega
  simp [this]
theorem ltS_total (a b:ByteArray):ltS a b=(!ltS b a&&!decide (b=a)):=by
 unfold ltS
 have h:=bytesLess_total a.data.toList b.data.toList
 have e:=str_eq a b
 rw [h,e]
 by_cases hab:a=b
 ·subst hab
  rw [bytesLess_irr];simp
 ·have:¬ b=a:=fun h=>hab h.symm
  simp [hab,this]
theorem rise_parts:∀ (l:List ByteArray) (p:Option ByteArray),riseN p l=(l.all nameB&&(match p with|some a=>sortedB (a::l)&&uniqB (a::l)|none=>sortedB l&&uniqB l))
 | [],p=>by cases p<;>rfl
 | x::l,p=>by
  simp only [riseN]
  rw [rise_parts l (some x),List.all_cons]
  cases p with
  | none=>cases nameB x<;>simp
  | some a=>
   simp only [sortedB,uniqB,adjB,ltS_total a x]
   cases nameB x<;>cases l.all nameB<;>cases ltS x a<;>cases decide (x=a)<;>simp
theorem rise_eq (l:List ByteArray):riseN none l=(l.all nameB&&sortedB l&&uniqB l):=by rw [rise_parts];simp [Bool.and_assoc]
end Go.Dr
namespace Go.Dr
theorem bytesLess_trans:∀ a b c:List UInt8,Op.bytesLess a b=true→Op.bytesLess b c=true→Op.bytesLess a c=true
 | [],[],_,h,_=>by simp [Op.bytesLess] at h
 | [],_::_,[],_,h=>by simp [Op.bytesLess] at h
 | [],_::_,_::_,_,_=>by simp [Op.bytesLess]
 | _::_,[],_,h,_=>by simp [Op.bytesLess] at h
 | _::_,_::_,[],_,h=>by simp [Op.bytesLess] at h
 | x::a,y::b,z::c,h1,h2=>by
  have ih:=bytesLess_trans a b c
  simp only [Op.bytesLess,Bool.or_eq_true,Bool.and_eq_true,decide_eq_true_eq,beq_iff_eq,UInt8.lt_iff_toNat_lt] at h1 h2 ⊢
  rcases h1 with h1|⟨rfl,h1⟩
  ·rcases h2 with h2|⟨rfl,h2⟩
   ·exact .inl (by omega)
   ·exact .inl h1
  ·rcases h2 with h2|⟨rfl,h2⟩
   ·exact .inl h2
   ·exact .inr ⟨rfl,ih h1 h2⟩
theorem ltS_trans {a b c:ByteArray} (h1:ltS a b=true) (h2:ltS b c=true):ltS a c=true:=bytesLess_trans _ _ _ h1 h2
theorem ltS_irr (a:ByteArray):ltS a a=false:=bytesLess_irr _
abbrev pwS (l:List ByteArray):Prop:=l.Pairwise (fun a b=>ltS a b=true)
theorem chain_pw:∀ {l:List ByteArray},(∀ k x y,l[k]?=some x→l[k+1]?=some y→ltS x y=true)→pwS l
 | [],_=>List.Pairwise.nil
 | [x],_=>by simp [pwS]
 | x::y::l,h=>by
  have ih:pwS (y::l):=chain_pw (fun k a b ha hb=>h (k+1) a b (by simpa using ha) (by simpa using hb))
  have hxy:=h 0 x y rfl rfl
  refine List.pairwise_cons.2 ⟨fun z hz=>?_,ih⟩
  rcases List.mem_cons.1 hz with rfl|hz
  ·exact hxy
  ·exact ltS_trans hxy ((List.pairwise_cons.1 ih).1 z hz)
theorem pw_eq:∀ {l m:List ByteArray},pwS l→pwS m→(∀ x,x∈l↔x∈m)→l=m
 | [],[],_,_,_=>rfl
 | [],y::m,_,_,h=>by have:=(h y).2 (by simp);cases this
 | x::l,[],_,_,h=>by have:=(h x).1 (by simp);cases this
 | x::l,y::m,h1,h2,h=>by
  obtain ⟨a1,a2⟩:=List.pairwise_cons.1 h1
  obtain ⟨b1,b2⟩:=List.pairwise_cons.1 h2
  have hxy:x=y:=by
   rcases List.mem_cons.1 ((h x).1 (by simp)) with e|e
   ·exact e
   ·rcases List.mem_cons.1 ((h y).2 (by simp)) with e'|e'
    ·exact e'.symm
    ·have:=ltS_trans (b1 x e) (a1 y e')
     rw [ltS_irr] at this;cases this
  subst hxy
  rw [pw_eq a2 b2 (fun z=>?_)]
  constructor
  ·intro hz
   rcases List.mem_cons.1 ((h z).1 (by simp [hz])) with rfl|hz'
   ·have:=a1 z hz;rw [ltS_irr] at this;cases this
   ·exact hz'
  ·intro hz
   rcases List.mem_cons.1 ((h z).2 (by simp [hz])) with rfl|hz'
   ·have:=b1 z hz;rw [ltS_irr] at this;cases this
   ·exact hz'
theorem lt_of_not {x v:ByteArray} (h:ltS x v=false) (hne:¬ x=v):ltS v x=true:=by
 rw [ltS_total,h];simp [hne]
theorem domIns_mem (v x:ByteArray) (out:List ByteArray):x∈domIns v out↔x=v∨x∈out:=by
 have h:out=out.takeWhile (fun x=>ltS x v)++out.dropWhile (fun x=>ltS x v):=(List.takeWhile_append_dropWhile).symm
 unfold domIns
 conv=>rhs;rw [h]
 generalize out.takeWhile (fun x=>ltS x v)=A
 generalize out.dropWhile (fun x=>ltS x v)=B
 match B with
 | []=>simp [or_comm]
 | y::r=>
  by_cases hy:y=v
  ·subst hy
   simp only [if_true,List.mem_append,List.mem_cons]
   constructor
   ·intro hh;exact .inr hh
   ·rintro (rfl|hh)
    ·exact .inr (.inl rfl)
    ·exact hh
  ·simp only [if_neg hy,List.mem_append,List.mem_cons]
   constructor
   ·rintro (hh|hh|hh|hh)
    ·exact .inr (.inl hh)
    ·exact .inl hh
    ·exact .inr (.inr (.inl hh))
    ·exact .inr (.inr (.inr hh))
   ·rintro (hh|hh|hh|hh)
    ·exact .inr (.inl hh)
    ·exact .inl hh
    ·exact .inr (.inr (.inl hh))
    ·exact .inr (.inr (.inr hh))
theorem takeWhile_all {f:ByteArray→Bool}:∀ {l:List ByteArray} {x:ByteArray},x∈l.takeWhile f→f x=true
 | [],_,h=>by cases h
 | y::l,x,h=>by
  rw [List.takeWhile_cons] at h
  split at h
  ·rename_i hy
   rcases List.mem_cons.1 h with rfl|h
   ·exact hy
   ·exact takeWhile_all h
  ·cases h
theorem dropWhile_head {f:ByteArray→Bool}:∀ {l:List ByteArray} {y:ByteArray} {r:List ByteArray},l.dropWhile f=y::r→f y=false
 | [],_,_,h=>by cases h
 | z::l,y,r,h=>by
  rw [List.dropWhile_cons] at h
  split at h
  ·exact dropWhile_head h
  ·rename_i hz
   cases h
   simpa using hz
theorem domIns_pw {v:ByteArray} {out:List ByteArray} (h:pwS out):pwS (domIns v out):=by
 have e:out=out.takeWhile (fun x=>ltS x v)++out.dropWhile (fun x=>ltS x v):=(List.takeWhile_append_dropWhile).symm
 have hA:∀ x∈out.takeWhile (fun x=>ltS x v),ltS x v=true:=fun x hx=>takeWhile_all (f:=fun x=>ltS x v) hx
 have hB:∀ y r,out.dropWhile (fun x=>ltS x v)=y::r→ltS y v=false:=fun y r hh=>dropWhile_head (f:=fun x=>ltS x v) hh
 rw [e] at h
 unfold domIns
 generalize out.takeWhile (fun x=>ltS x v)=A at *
 generalize out.dropWhile (fun x=>ltS x v)=B at *
 obtain ⟨p1,p2,p3⟩:=List.pairwise_append.1 h
 match B,hB,p2,p3 with
 | [],_,_,_=>exact List.pairwise_append.2 ⟨p1,by simp,fun a ha b hb=>by simp at hb;subst hb;exact hA a ha⟩
 | y::r,hB,p2,p3=>
  by_cases hy:y=v
  ·simp only [if_pos hy]
   exact List.pairwise_append.2 ⟨p1,p2,p3⟩
  ·simp only [if_neg hy]
   have hvy:=lt_of_not (hB y r rfl) hy
   refine List.pairwise_append.2 ⟨p1,List.pairwise_cons.2 ⟨fun z hz=>?_,p2⟩,fun a ha b hb=>?_⟩
   ·rcases List.mem_cons.1 hz with rfl|hz
    ·exact hvy
    ·exact ltS_trans hvy ((List.pairwise_cons.1 p2).1 z hz)
   ·rcases List.mem_cons.1 hb with rfl|hb
    ·exact hA a ha
    ·exact p3 a ha b hb
def dkStep (key:ByteArray) (out:List ByteArray) (n:Node):List ByteArray:=if (valB n key).2=true then (if out.any (fun x=>decide (x=(valB n key).1))=true then out else out++[(valB n key).1]) else out
def dkL (s:Snap) (key:ByteArray) (i:Nat):List ByteArray:=(s.nodes.take i).foldl (dkStep key) []
theorem dkL_step {s:Snap} {key:ByteArray} {i:Nat} {n:Node} (h:s.nodes[i]?=some n):dkL s key (i+1)=dkStep key (dkL s key i) n:=by
 unfold dkL
 rw [List.take_add_one,h];simp [List.foldl_append]
theorem dk_same (key:ByteArray):∀ (l:List Node) (a b:List ByteArray),(∀ x,x∈a↔x∈b)→∀ x,x∈l.foldl (dkStep key) a↔x∈l.foldl (domStep key) b
 | [],_,_,h,x=>h x
 | n::l,a,b,h,x=>by
  simp only [List.foldl_cons]
  refine dk_same key l _ _ (fun z=>?_) x
  unfold dkStep domStep
  split
  ·rw [domIns_mem]
   split
   ·rename_i hm
    have hm:(valB n key).1∈a:=by
     obtain ⟨w,hw,he⟩:=List.any_eq_true.1 hm
     rw [← of_decide_eq_true he];exact hw
    constructor
    ·intro hz;exact .inr ((h z).1 hz)
    ·rintro (rfl|hz)
     ·exact hm
     ·exact (h z).2 hz
   ·rw [List.mem_append,List.mem_singleton,h z,or_comm]
  ·exact h z
theorem dom_pw (key:ByteArray):∀ (l:List Node) (b:List ByteArray),pwS b→pwS (l.foldl (domStep key) b)
 | [],_,h=>h
 | n::l,b,h=>by
  simp only [List.foldl_cons]
  refine dom_pw key l _ ?_
  unfold domStep
  split
  ·exact domIns_pw h
  ·exact h
theorem dk_nodup (key:ByteArray):∀ (l:List Node) (b:List ByteArray),b.Nodup→(l.foldl (dkStep key) b).Nodup
 | [],_,h=>h
 | n::l,b,h=>by
  simp only [List.foldl_cons]
  refine dk_nodup key l _ ?_
  unfold dkStep
  split
  ·split
   ·exact h
   ·rename_i hm
    rw [List.nodup_append]
    refine ⟨h,by simp,?_⟩
    intro a ha c hc he
    simp at hc
    subst hc;subst he
    exact hm (List.any_eq_true.2 ⟨_,ha,by simp⟩)
  ·exact h
theorem dk_len (s:Snap) (key:ByteArray):∀ i,(dkL s key i).length≤i
 | 0=>by simp [dkL]
 | i+1=>by
  have ih:=dk_len s key i
  cases h:s.nodes[i]? with
  | none=>unfold dkL at *;rw [List.take_add_one,h];simpa using Nat.le_succ_of_le ih
  | some n=>
   rw [dkL_step h]
   unfold dkStep
   split
   ·split
    ·omega
    ·simp;omega
   ·omega
theorem srt_dom {s:Snap} {key:ByteArray} {xs:List ByteArray} (hp:xs.Perm (dkL s key s.nodes.length)) (hs:∀ k x y,k+1≤xs.length - 1→xs[k]?=some x→xs[k+1]?=some y→ltS y x=false):xs=domL s key:=by
 have hfull:dkL s key s.nodes.length=s.nodes.foldl (dkStep key) []:=by unfold dkL;rw [List.take_length]
 have hnd:xs.Nodup:=hp.nodup_iff.2 (by rw [hfull];exact dk_nodup key _ _ List.nodup_nil)
 refine pw_eq (chain_pw (fun k x y hx hy=>?_)) (dom_pw key _ _ List.Pairwise.nil) (fun x=>?_)
 ·have hl:=(List.getElem?_eq_some_iff.1 hy).1
  have h1:=hs k x y (by omega) hx hy
  refine lt_of_not h1 (fun he=>?_)
  subst he
  obtain ⟨l1,e1⟩:=List.getElem?_eq_some_iff.1 hx
  obtain ⟨l2,e2⟩:=List.getElem?_eq_some_iff.1 hy
  exact List.pairwise_iff_getElem.1 hnd k (k+1) l1 l2 (by omega) (by rw [e1,e2])
 ·rw [hp.mem_iff,hfull]
  exact dk_same key _ _ _ (fun _=>Iff.rfl) x
end Go.Dr
namespace Go.Dr
def spCnt (s:Snap) (key:ByteArray) (xs:List Int) (v:ByteArray):Int:=((xs.filter (fun x=>inDom s key v x.toNat)).length:Int)
theorem sum_add2 (f g:Nat→Int):∀ N,((List.range N).map (fun n=>f n+g n)).sum=((List.range N).map f).sum+((List.range N).map g).sum
 | 0=>rfl
 | N+1=>by
  simp only [List.range_succ,List.map_append,List.sum_append,List.map_cons,List.map_nil,List.sum_cons,List.sum_nil,sum_add2 f g N];omega
theorem sum_one (c:Int) (i:Nat):∀ N,((List.range N).map (fun n=>if n=i then c else 0)).sum=if i < N then c else 0
 | 0=>rfl
 | N+1=>by
  simp only [List.range_succ,List.map_append,List.sum_append,List.map_cons,List.map_nil,List.sum_cons,List.sum_nil,sum_one c i N]
  by_cases h:i < N
  ·rw [if_pos h,if_neg (by omega),if_pos (by omega)];omega
  ·by_cases h2:N=i
   ·rw [if_neg h,if_pos h2,if_pos (by omega)];omega
   ·rw [if_neg h,if_neg h2,if_neg (by omega)];rfl
theorem spCnt_sum (s:Snap) (key v:ByteArray) (N:Nat):∀ (xs:List Int),(∀ x∈xs,0≤x∧x < N) →
  ((List.range N).map (fun n=>if inDom s key v n=true then ((xs.filter (fun x=>decide (x=(n:Int)))).length:Int) else 0)).sum=spCnt s key xs v
 | [],_=>by
  unfold spCnt
  simp [List.map_const',List.sum_replicate_int]
 | x::xs,h=>by
  have ih:=spCnt_sum s key v N xs (fun y hy=>h y (by simp [hy]))
  obtain ⟨h0,h1⟩:=h x (by simp)
  obtain ⟨i,rfl⟩:=Int.eq_ofNat_of_zero_le h0
  have e1:(fun n:Nat=>if inDom s key v n=true then ((((i:Int)::xs).filter (fun x=>decide (x=(n:Int)))).length:Int) else 0) =
    fun n=>(if inDom s key v n=true then ((xs.filter (fun x=>decide (x=(n:Int)))).length:Int) else 0)+(if n=i then (if inDom s key v i=true then 1 else 0) else 0):=by
   funext n
   by_cases hn:n=i
   ·subst hn
    rw [List.filter_cons_of_pos (by simp)]
    cases inDom s key v n<;>simp
   ·rw [List.filter_cons_of_neg (by simp;omega),if_neg hn];simp
  rw [e1,sum_add2,ih,sum_one,if_pos (by omega)]
  unfold spCnt
  cases hd:inDom s key v i with
  | true=>rw [List.filter_cons_of_pos (by simpa using hd)];simp
  | false=>rw [List.filter_cons_of_neg (by simpa using hd)];simp
theorem spread_cnt {s:Snap} {p:List Int} {o:Nat} (h:∀ x∈ownedL s p o,0≤x∧x < s.nodes.length):spreadL s p o=(domL s (topoOf s o)).map (spCnt s (topoOf s o) (ownedL s p o)):=by
 unfold spreadL
 apply List.map_congr_left
 intro v _
 rw [← spCnt_sum s (topoOf s o) v s.nodes.length _ h]
 unfold domCount
 congr 1
 apply List.map_congr_left
 intro n hn
 have hn:=List.mem_range.1 hn
 have:at0 (countsL s p o) n=(((ownedL s p o).filter (fun x=>decide (x=(n:Int)))).length:Int):=by
  simp [at0,countsL,hn]
 rw [this]
theorem spCnt_step {s:Snap} {key:ByteArray} {xs:List Int} {k:Nat} {y:Int} (h:xs[k]?=some y) (v:ByteArray):spCnt s key (xs.take (k+1)) v=spCnt s key (xs.take k) v+if inDom s key v y.toNat=true then 1 else 0:=by
 unfold spCnt
 rw [List.take_add_one,h]
 cases hd:inDom s key v y.toNat<;>simp [hd]
theorem map_set1 {D:List ByteArray} {j:Nat} {v:ByteArray} (f:ByteArray→Int) (hn:pwS D) (hj:D[j]?=some v):D.map (fun d=>f d+if d=v then 1 else 0)=(D.map f).set j (f v+1):=by
 obtain ⟨l1,e1⟩:=List.getElem?_eq_some_iff.1 hj
 apply List.ext_getElem?
 intro i
 rw [List.getElem?_set,List.getElem?_map,List.getElem?_map,List.length_map]
 by_cases hi:j=i
 ·subst hi
  rw [if_pos rfl,if_pos l1,hj];simp
 ·rw [if_neg hi]
  cases hd:D[i]? with
  | none=>rfl
  | some d=>
   obtain ⟨l2,e2⟩:=List.getElem?_eq_some_iff.1 hd
   have hne:¬ d=v:=by
    intro he
    have hp:=List.pairwise_iff_getElem.1 hn
    rcases Nat.lt_or_ge i j with hl|hl
    ·have:=hp i j l2 l1 hl
     rw [e1,e2,he,ltS_irr] at this;cases this
    ·have:=hp j i l1 l2 (by omega)
     rw [e1,e2,he,ltS_irr] at this;cases this
   simp [hne]
theorem dom_has (key:ByteArray):∀ (l:List Node) (b:List ByteArray) (v:ByteArray),(v∈b∨∃ x∈l,(valB x key).2=true∧(valB x key).1=v)→v∈l.foldl (domStep key) b
 | [],b,v,h=>by
  rcases h with h|⟨x,hx,_⟩
  ·exact h
  ·cases hx
 | n::l,b,v,h=>by
  simp only [List.foldl_cons]
  refine dom_has key l _ v ?_
  rcases h with h|⟨x,hx,h1,h2⟩
  ·left
   unfold domStep
   split
   ·rw [domIns_mem];exact .inr h
   ·exact h
  ·rcases List.mem_cons.1 hx with rfl|hx
   ·left
    unfold domStep
    rw [if_pos h1,domIns_mem];exact .inl h2.symm
   ·exact .inr ⟨x,hx,h1,h2⟩
end Go.Dr
namespace Go.Dr
def ltC (c d:Clause):Prop:=c.kind < d.kind∨(c.kind=d.kind∧(c.a < d.a∨(c.a=d.a∧c.b < d.b)))
theorem pw_flat {f:Nat→List Clause} {R:Clause→Clause→Prop}:∀ {n:Nat},(∀ i,i < n→(f i).Pairwise R)→(∀ i j,i < j→j < n→∀ x∈f i,∀ y∈f j,R x y)→((List.range n).flatMap f).Pairwise R
 | 0,_,_=>by simp
 | n+1,h1,h2=>by
  rw [List.range_succ,List.flatMap_append]
  refine List.pairwise_append.2 ⟨pw_flat (fun i hi=>h1 i (by omega)) (fun i j hij hj=>h2 i j hij (by omega)),by simpa using h1 n (by omega),?_⟩
  intro x hx y hy
  obtain ⟨i,hi,hxi⟩:=List.mem_flatMap.1 hx
  have hi:i < n:=by simpa using hi
  exact h2 i n hi (by omega) x hxi y (by simpa using hy)
theorem mem_pods {s:Snap} {p:List Int} {kind:Int} {n:Nat} {c:Clause} (h:c∈podsTo s p kind n):∃ i,i < n∧c=⟨kind,i,0,(of8 s p kind i).1⟩∧(of8 s p kind i).2=true:=by
 obtain ⟨i,hi,hc⟩:=List.mem_flatMap.1 h
 unfold podC1 at hc
 split at hc
 ·rename_i h1
  exact ⟨i,by simpa using hi,by simpa using hc,h1⟩
 ·simp at hc
theorem mem_caps {s:Snap} {p:List Int} {c:Clause} (h:c∈capsC s p):∃ n k,n < s.nodes.length∧k < 5∧c=capN s p n k:=by
 unfold capsC capTo at h
 simp only [List.range_zero,List.map_nil,List.append_nil] at h
 obtain ⟨n,hn,hc⟩:=List.mem_flatMap.1 h
 obtain ⟨k,hk,rfl⟩:=List.mem_map.1 hc
 exact ⟨n,k,by simpa using hn,by simpa using hk,rfl⟩
theorem mem_kinds {s:Snap} {p:List Int} {c:Clause} {j:Nat} (h:c∈kindsTo s p j):∃ t i,t < j∧i < p.length∧c=⟨(t:Int)+2,i,0,(of8 s p ((t:Int)+2) i).1⟩∧(of8 s p ((t:Int)+2) i).2=true:=by
 obtain ⟨t,ht,hc⟩:=List.mem_flatMap.1 h
 obtain ⟨i,hi,hc,h2⟩:=mem_pods hc
 exact ⟨t,i,by simpa using ht,hi,hc,h2⟩
theorem mem_spread {s:Snap} {p:List Int} {c:Clause} {n:Nat} (h:c∈spreadTo s p n):∃ o,o < n∧c=⟨7,o,0,skewV s p o⟩∧topoOf s o≠noS:=by
 obtain ⟨o,ho,hc⟩:=List.mem_flatMap.1 h
 unfold spreadC1 at hc
 split at hc
 ·simp at hc
 ·rename_i h1
  exact ⟨o,by simpa using ho,by simpa using hc,h1⟩
theorem mem_min {s:Snap} {p:List Int} {c:Clause} {n:Nat} (h:c∈minTo s p n):∃ o,o < n∧c=minC1 s p o:=by
 obtain ⟨o,ho,hc⟩:=List.mem_map.1 h
 exact ⟨o,by simpa using ho,hc.symm⟩
theorem allC_order (s:Snap) (p:List Int):(allC s p).Pairwise ltC:=by
 have h1:(capsC s p).Pairwise ltC:=by
  unfold capsC capTo
  simp only [List.range_zero,List.map_nil,List.append_nil]
  refine pw_flat (fun n _=>?_) (fun i j hij hj x hx y hy=>?_)
  ·refine List.pairwise_map.2 (List.Pairwise.imp ?_ List.pairwise_lt_range)
   intro a b hab
   exact .inr ⟨rfl,.inr ⟨rfl,by show (a:Int) < b;omega⟩⟩
  ·obtain ⟨a,_,rfl⟩:=List.mem_map.1 hx
   obtain ⟨b,_,rfl⟩:=List.mem_map.1 hy
   exact .inr ⟨rfl,.inl (by show (i:Int) < j;omega)⟩
 have h2:(kindsTo s p 5).Pairwise ltC:=by
  refine pw_flat (fun t _=>?_) (fun i j hij hj x hx y hy=>?_)
  ·refine pw_flat (fun i _=>?_) (fun i j hij hj x hx y hy=>?_)
   ·unfold podC1;split<;>simp
   ·unfold podC1 at hx hy
    split at hx<;>split at hy<;>first|(simp at hx;done)|(simp at hy;done)|skip
    simp only [List.mem_singleton] at hx hy
    subst hx;subst hy
    exact .inr ⟨rfl,.inl (by show (i:Int) < j;omega)⟩
  ·obtain ⟨a,_,rfl,_⟩:=mem_pods hx
   obtain ⟨b,_,rfl,_⟩:=mem_pods hy
   exact .inl (by show (i:Int)+2 < (j:Int)+2;omega)
 have h3:(spreadTo s p s.owners.length).Pairwise ltC:=by
  refine pw_flat (fun o _=>?_) (fun i j hij hj x hx y hy=>?_)
  ·unfold spreadC1;split<;>simp
  ·unfold spreadC1 at hx hy
   split at hx<;>split at hy<;>first|(simp at hx;done)|(simp at hy;done)|skip
   simp only [List.mem_singleton] at hx hy
   subst hx;subst hy
   exact .inr ⟨rfl,.inl (by show (i:Int) < j;omega)⟩
 have h4:(minTo s p s.owners.length).Pairwise ltC:=by
  refine List.pairwise_map.2 (List.Pairwise.imp ?_ List.pairwise_lt_range)
  intro a b hab
  exact .inr ⟨rfl,.inl (by show (a:Int) < b;omega)⟩
 unfold allC
 refine List.pairwise_append.2 ⟨List.pairwise_append.2 ⟨List.pairwise_append.2 ⟨h1,h2,?_⟩,h3,?_⟩,h4,?_⟩
 ·intro x hx y hy
  obtain ⟨n,k,_,_,rfl⟩:=mem_caps hx
  obtain ⟨t,i,_,_,rfl,_⟩:=mem_kinds hy
  exact .inl (by show (1:Int) < (t:Int)+2;omega)
 ·intro x hx y hy
  obtain ⟨o,_,rfl,_⟩:=mem_spread hy
  rcases List.mem_append.1 hx with hx|hx
  ·obtain ⟨n,k,_,_,rfl⟩:=mem_caps hx
   exact .inl (by show (1:Int) < 7;omega)
  ·obtain ⟨t,i,_,_,rfl,_⟩:=mem_kinds hx
   exact .inl (by show (t:Int)+2 < 7;omega)
 ·intro x hx y hy
  obtain ⟨o,_,rfl⟩:=mem_min hy
  rcases List.mem_append.1 hx with hx|hx
  ·rcases List.mem_append.1 hx with hx|hx
   ·obtain ⟨n,k,_,_,rfl⟩:=mem_caps hx
    exact .inl (by show (1:Int) < 8;omega)
   ·obtain ⟨t,i,_,_,rfl,_⟩:=mem_kinds hx
    exact .inl (by show (t:Int)+2 < 8;omega)
  ·obtain ⟨o',_,rfl,_⟩:=mem_spread hx
   exact .inl (by show (7:Int) < 8;omega)
theorem allL_order (s:Snap) (p:List Int):(allL s p).Pairwise ltC:=by
 unfold allL
 split
 ·exact allC_order s p
 ·exact .nil
def nameC (c:Clause):Int × Int × Int:=(c.kind,c.a,c.b)
theorem ltC_name {c d:Clause} (h:ltC c d):nameC c≠nameC d:=by
 intro e
 simp only [nameC,Prod.mk.injEq] at e
 unfold ltC at h
 omega
theorem allL_names (s:Snap) (p:List Int):(allL s p).Pairwise (fun c d=>nameC c≠nameC d):=(allL_order s p).imp ltC_name
theorem isC_name (c d:Clause):isC c.kind c.a c.b d=decide (nameC d=nameC c):=by
 unfold isC nameC
 rw [Bool.eq_iff_iff]
 simp [and_assoc]
theorem find_self {l:List Clause} (h:l.Pairwise (fun c d=>nameC c≠nameC d)) {c:Clause} (hc:c∈l):l.find? (isC c.kind c.a c.b)=some c:=by
 induction l with
 | nil=>cases hc
 | cons x l ih=>
  obtain ⟨h1,h2⟩:=List.pairwise_cons.1 h
  rw [List.find?_cons,isC_name]
  rcases List.mem_cons.1 hc with rfl|hc
  ·simp
  ·have:=h1 c hc
   rw [decide_eq_false this]
   exact ih h2 hc
end Go.Dr
