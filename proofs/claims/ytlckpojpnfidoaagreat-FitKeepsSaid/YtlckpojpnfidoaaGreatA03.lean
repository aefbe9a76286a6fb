/- Part 4 of the rules and of the walks that the proofs of this seat rest on; no condition. -/
import Derived.Test.YtlckpojpnfidoaaGreatA02
import Derived.Test.YtlckpojpnfidoaaGreatProg
import Derived.KernelRfl
set_option linter.unusedVariables false
set_option linter.unusedSimpArgs false
namespace Go.Dr
open Go.Proofs
instance:TyR Tryz.prog 1 rVal:=⟨by kernel_rfl⟩
instance:Und Tryz.prog 2 (.int .i64):=⟨Tryz.underlying2⟩
instance:Zero Tryz.prog 2 (.int .i64 0):=⟨by kernel_rfl⟩
instance:Byt Tryz.prog 2 8:=⟨by kernel_rfl⟩
instance:TyR Tryz.prog 2 rI64:=⟨by kernel_rfl⟩
instance:Und Tryz.prog 3 (.int .i64):=⟨Tryz.underlying3⟩
instance:Zero Tryz.prog 3 (.int .i64 0):=⟨by kernel_rfl⟩
instance:Byt Tryz.prog 3 8:=⟨by kernel_rfl⟩
instance:TyR Tryz.prog 3 rI64:=⟨by kernel_rfl⟩
instance:Und Tryz.prog 4 (.bool):=⟨Tryz.underlying4⟩
instance:Zero Tryz.prog 4 (.bool false):=⟨by kernel_rfl⟩
instance:Byt Tryz.prog 4 1:=⟨by kernel_rfl⟩
instance:TyR Tryz.prog 4 rBool:=⟨by kernel_rfl⟩
instance:Und Tryz.prog 5 (.int .u8):=⟨Tryz.underlying5⟩
instance:Zero Tryz.prog 5 (.int .u8 0):=⟨by kernel_rfl⟩
instance:Byt Tryz.prog 5 1:=⟨by kernel_rfl⟩
instance:TyR Tryz.prog 5 (rInt .u8):=⟨by kernel_rfl⟩
instance:Und Tryz.prog 6 (.int .u8):=⟨Tryz.underlying6⟩
instance:Zero Tryz.prog 6 (.int .u8 0):=⟨by kernel_rfl⟩
instance:Byt Tryz.prog 6 1:=⟨by kernel_rfl⟩
instance:TyR Tryz.prog 6 (rInt .u8):=⟨by kernel_rfl⟩
instance:Zero Tryz.prog 7 (.agg #[.int .i64 0,.int .i64 0,.bool false,.int .u8 0]):=⟨by kernel_rfl⟩
instance:Zero Tryz.prog 8 (.agg #[.int .i64 0,.int .i64 0,.bool false,.int .u8 0]):=⟨by kernel_rfl⟩
instance:Und Tryz.prog 9 (.string):=⟨Tryz.underlying9⟩
instance:Zero Tryz.prog 9 (.string ⟨#[]⟩):=⟨by kernel_rfl⟩
instance:Byt Tryz.prog 9 16:=⟨by kernel_rfl⟩
instance:TyR Tryz.prog 9 rStr:=⟨by kernel_rfl⟩
instance:Und Tryz.prog 10 (.string):=⟨Tryz.underlying10⟩
instance:Zero Tryz.prog 10 (.string ⟨#[]⟩):=⟨by kernel_rfl⟩
instance:Byt Tryz.prog 10 16:=⟨by kernel_rfl⟩
instance:TyR Tryz.prog 10 rStr:=⟨by kernel_rfl⟩
instance:Und Tryz.prog 11 (.string):=⟨Tryz.underlying11⟩
instance:Zero Tryz.prog 11 (.string ⟨#[]⟩):=⟨by kernel_rfl⟩
instance:Byt Tryz.prog 11 16:=⟨by kernel_rfl⟩
instance:TyR Tryz.prog 11 rStr:=⟨by kernel_rfl⟩
instance:Und Tryz.prog 12 (.int .u64):=⟨Tryz.underlying12⟩
instance:Zero Tryz.prog 12 (.int .u64 0):=⟨by kernel_rfl⟩
instance:Byt Tryz.prog 12 8:=⟨by kernel_rfl⟩
instance:TyR Tryz.prog 12 (rInt .u64):=⟨by kernel_rfl⟩
instance:Zero Tryz.prog 13 (.agg #[.string ⟨#[]⟩,.int .u64 0]):=⟨by kernel_rfl⟩
instance:Zero Tryz.prog 14 (.agg #[.string ⟨#[]⟩,.int .u64 0]):=⟨by kernel_rfl⟩
instance:Und Tryz.prog 15 (.pointer 371):=⟨Tryz.underlying15⟩
instance:Zero Tryz.prog 15 (.pointer none):=⟨by kernel_rfl⟩
instance:Byt Tryz.prog 15 8:=⟨by kernel_rfl⟩
instance:TyR Tryz.prog 15 rVal:=⟨by kernel_rfl⟩
instance:Und Tryz.prog 16 (.pointer 374):=⟨Tryz.underlying16⟩
instance:Zero Tryz.prog 16 (.pointer none):=⟨by kernel_rfl⟩
instance:Byt Tryz.prog 16 8:=⟨by kernel_rfl⟩
instance:TyR Tryz.prog 16 rVal:=⟨by kernel_rfl⟩
instance:Und Tryz.prog 17 (.pointer 382):=⟨Tryz.underlying17⟩
instance:Zero Tryz.prog 17 (.pointer none):=⟨by kernel_rfl⟩
instance:Byt Tryz.prog 17 8:=⟨by kernel_rfl⟩
instance:TyR Tryz.prog 17 rVal:=⟨by kernel_rfl⟩
instance:Zero Tryz.prog 18 (.agg #[.pointer none]):=⟨by kernel_rfl⟩
instance:Zero Tryz.prog 19 (.agg #[.pointer none]):=⟨by kernel_rfl⟩
instance:TyR Tryz.prog 20 rVal:=⟨by kernel_rfl⟩
instance:Und Tryz.prog 21 (.int .i32):=⟨Tryz.underlying21⟩
instance:Zero Tryz.prog 21 (.int .i32 0):=⟨by kernel_rfl⟩
instance:Byt Tryz.prog 21 4:=⟨by kernel_rfl⟩
instance:TyR Tryz.prog 21 (rInt .i32):=⟨by kernel_rfl⟩
instance:Und Tryz.prog 22 (.slice 94):=⟨Tryz.underlying22⟩
instance:Zero Tryz.prog 22 (.slice none 0 0):=⟨by kernel_rfl⟩
instance:Byt Tryz.prog 22 24:=⟨by kernel_rfl⟩
instance:TyR Tryz.prog 22 (rSlice 112 rNode):=⟨by kernel_rfl⟩
instance:Und Tryz.prog 23 (.slice 127):=⟨Tryz.underlying23⟩
instance:Zero Tryz.prog 23 (.slice none 0 0):=⟨by kernel_rfl⟩
instance:Byt Tryz.prog 23 24:=⟨by kernel_rfl⟩
instance:TyR Tryz.prog 23 (rSlice 240 rPod):=⟨by kernel_rfl⟩
instance:Und Tryz.prog 24 (.slice 147):=⟨Tryz.underlying24⟩
instance:Zero Tryz.prog 24 (.slice none 0 0):=⟨by kernel_rfl⟩
instance:Byt Tryz.prog 24 24:=⟨by kernel_rfl⟩
instance:TyR Tryz.prog 24 (rSlice 56 rOwner):=⟨by kernel_rfl⟩
instance:FOff Tryz.prog 25 0 0:=⟨by kernel_rfl⟩
instance:FOff Tryz.prog 25 1 1:=⟨by kernel_rfl⟩
instance:FOff Tryz.prog 25 2 2:=⟨by kernel_rfl⟩
instance:Zero Tryz.prog 25 (.agg #[.slice none 0 0,.slice none 0 0,.slice none 0 0]):=⟨by kernel_rfl⟩
instance:ZF Tryz.prog 25 [.slice none 0 0,.slice none 0 0,.slice none 0 0]:=⟨by kernel_rfl,by kernel_rfl⟩
instance:Byt Tryz.prog 25 72:=⟨by kernel_rfl⟩
instance:FOff Tryz.prog 26 0 0:=⟨by kernel_rfl⟩
instance:FOff Tryz.prog 26 1 1:=⟨by kernel_rfl⟩
instance:FOff Tryz.prog 26 2 2:=⟨by kernel_rfl⟩
instance:Zero Tryz.prog 26 (.agg #[.slice none 0 0,.slice none 0 0,.slice none 0 0]):=⟨by kernel_rfl⟩
instance:ZF Tryz.prog 26 [.slice none 0 0,.slice none 0 0,.slice none 0 0]:=⟨by kernel_rfl,by kernel_rfl⟩
instance:Conc Tryz.prog 26:=⟨by kernel_rfl⟩
instance:Byt Tryz.prog 26 72:=⟨by kernel_rfl⟩
instance:TyR Tryz.prog 26 rSnap:=⟨by kernel_rfl⟩
instance:Und Tryz.prog 27 (.slice 3):=⟨Tryz.underlying27⟩
instance:Zero Tryz.prog 27 (.slice none 0 0):=⟨by kernel_rfl⟩
instance:Byt Tryz.prog 27 24:=⟨by kernel_rfl⟩
instance:TyR Tryz.prog 27 (rSlice 8 rI64):=⟨by kernel_rfl⟩
instance:TyR Tryz.prog 28 rVal:=⟨by kernel_rfl⟩
instance:TyR Tryz.prog 29 rVal:=⟨by kernel_rfl⟩
instance:TyR Tryz.prog 30 rVal:=⟨by kernel_rfl⟩
instance:Und Tryz.prog 31 (.int .i64):=⟨Tryz.underlying31⟩
instance:Zero Tryz.prog 31 (.int .i64 0):=⟨by kernel_rfl⟩
instance:Conc Tryz.prog 31:=⟨by kernel_rfl⟩
instance:Byt Tryz.prog 31 8:=⟨by kernel_rfl⟩
instance:TyR Tryz.prog 31 rI64:=⟨by kernel_rfl⟩
instance:TyR Tryz.prog 33 rVal:=⟨by kernel_rfl⟩
instance:TyR Tryz.prog 34 rVal:=⟨by kernel_rfl⟩
instance:Und Tryz.prog 35 (.slice 41):=⟨Tryz.underlying35⟩
instance:Zero Tryz.prog 35 (.slice none 0 0):=⟨by kernel_rfl⟩
instance:Byt Tryz.prog 35 24:=⟨by kernel_rfl⟩
instance:TyR Tryz.prog 35 (rSlice 32 rClause):=⟨by kernel_rfl⟩
instance:TyR Tryz.prog 37 rVal:=⟨by kernel_rfl⟩
instance:TyR Tryz.prog 38 rVal:=⟨by kernel_rfl⟩
instance:TyR Tryz.prog 39 rVal:=⟨by kernel_rfl⟩
instance:FOff Tryz.prog 40 0 0:=⟨by kernel_rfl⟩
instance:FOff Tryz.prog 40 1 1:=⟨by kernel_rfl⟩
instance:FOff Tryz.prog 40 2 2:=⟨by kernel_rfl⟩
instance:FOff Tryz.prog 40 3 3:=⟨by kernel_rfl⟩
instance:Zero Tryz.prog 40 (.agg #[.int .i64 0,.int .i64 0,.int .i64 0,.int .i64 0]):=⟨by kernel_rfl⟩
instance:ZF Tryz.prog 40 [.int .i64 0,.int .i64 0,.int .i64 0,.int .i64 0]:=⟨by kernel_rfl,by kernel_rfl⟩
instance:FlatS Tryz.prog 40 [.int,.int,.int,.int]:=⟨by kernel_rfl,by kernel_rfl,by kernel_rfl⟩
instance:Byt Tryz.prog 40 32:=⟨by kernel_rfl⟩
instance:FOff Tryz.prog 41 0 0:=⟨by kernel_rfl⟩
instance:FOff Tryz.prog 41 1 1:=⟨by kernel_rfl⟩
instance:FOff Tryz.prog 41 2 2:=⟨by kernel_rfl⟩
instance:FOff Tryz.prog 41 3 3:=⟨by kernel_rfl⟩
instance:Zero Tryz.prog 41 (.agg #[.int .i64 0,.int .i64 0,.int .i64 0,.int .i64 0]):=⟨by kernel_rfl⟩
instance:ZF Tryz.prog 41 [.int .i64 0,.int .i64 0,.int .i64 0,.int .i64 0]:=⟨by kernel_rfl,by kernel_rfl⟩
instance:FlatS Tryz.prog 41 [.int,.int,.int,.int]:=⟨by kernel_rfl,by kernel_rfl,by kernel_rfl⟩
instance:Conc Tryz.prog 41:=⟨by kernel_rfl⟩
instance:Byt Tryz.prog 41 32:=⟨by kernel_rfl⟩
instance:TyR Tryz.prog 41 rClause:=⟨by kernel_rfl⟩
instance:TyR Tryz.prog 43 rVal:=⟨by kernel_rfl⟩
instance:FOff Tryz.prog 44 0 0:=⟨by kernel_rfl⟩
instance:FOff Tryz.prog 44 1 1:=⟨by kernel_rfl⟩
instance:FOff Tryz.prog 44 2 2:=⟨by kernel_rfl⟩
instance:Zero Tryz.prog 44 (.agg #[.int .i64 0,.int .i64 0,.int .i64 0]):=⟨by kernel_rfl⟩
instance:ZF Tryz.prog 44 [.int .i64 0,.int .i64 0,.int .i64 0]:=⟨by kernel_rfl,by kernel_rfl⟩
instance:FlatS Tryz.prog 44 [.int,.int,.int]:=⟨by kernel_rfl,by kernel_rfl,by kernel_rfl⟩
instance:Byt Tryz.prog 44 24:=⟨by kernel_rfl⟩
instance:FOff Tryz.prog 45 0 0:=⟨by kernel_rfl⟩
instance:FOff Tryz.prog 45 1 1:=⟨by kernel_rfl⟩
instance:FOff Tryz.prog 45 2 2:=⟨by kernel_rfl⟩
instance:Zero Tryz.prog 45 (.agg #[.int .i64 0,.int .i64 0,.int .i64 0]):=⟨by kernel_rfl⟩
instance:ZF Tryz.prog 45 [.int .i64 0,.int .i64 0,.int .i64 0]:=⟨by kernel_rfl,by kernel_rfl⟩
instance:FlatS Tryz.prog 45 [.int,.int,.int]:=⟨by kernel_rfl,by kernel_rfl,by kernel_rfl⟩
instance:Conc Tryz.prog 45:=⟨by kernel_rfl⟩
instance:Byt Tryz.prog 45 24:=⟨by kernel_rfl⟩
instance:TyR Tryz.prog 45 rStep:=⟨by kernel_rfl⟩
instance:TyR Tryz.prog 46 rVal:=⟨by kernel_rfl⟩
instance:TyR Tryz.prog 47 rVal:=⟨by kernel_rfl⟩
instance:FOff Tryz.prog 48 0 0:=⟨by kernel_rfl⟩
instance:FOff Tryz.prog 48 1 1:=⟨by kernel_rfl⟩
instance:Zero Tryz.prog 48 (.agg #[.slice none 0 0,.bool false]):=⟨by kernel_rfl⟩
instance:ZF Tryz.prog 48 [.slice none 0 0,.bool false]:=⟨by kernel_rfl,by kernel_rfl⟩
instance:Byt Tryz.prog 48 32:=⟨by kernel_rfl⟩
instance:FOff Tryz.prog 49 0 0:=⟨by kernel_rfl⟩
instance:FOff Tryz.prog 49 1 1:=⟨by kernel_rfl⟩
instance:Zero Tryz.prog 49 (.agg #[.slice none 0 0,.bool false]):=⟨by kernel_rfl⟩
instance:ZF Tryz.prog 49 [.slice none 0 0,.bool false]:=⟨by kernel_rfl,by kernel_rfl⟩
instance:Conc Tryz.prog 49:=⟨by kernel_rfl⟩
instance:Byt Tryz.prog 49 32:=⟨by kernel_rfl⟩
instance:TyR Tryz.prog 49 rAsk:=⟨by kernel_rfl⟩
instance:Und Tryz.prog 50 (.array 2 3):=⟨Tryz.underlying50⟩
instance:Zero Tryz.prog 50 (.agg #[.int .i64 0,.int .i64 0]):=⟨by kernel_rfl⟩
instance:ZA Tryz.prog 50 2 3 1 (.int .i64 0):=⟨Tryz.underlying50,by kernel_rfl,rfl,by kernel_rfl⟩
instance:Byt Tryz.prog 50 16:=⟨by kernel_rfl⟩
instance:Und Tryz.prog 51 (.slice 9):=⟨Tryz.underlying51⟩
instance:Zero Tryz.prog 51 (.slice none 0 0):=⟨by kernel_rfl⟩
instance:Byt Tryz.prog 51 24:=⟨by kernel_rfl⟩
instance:TyR Tryz.prog 51 (rSlice 16 rStr):=⟨by kernel_rfl⟩
instance:FOff Tryz.prog 52 0 0:=⟨by kernel_rfl⟩
instance:FOff Tryz.prog 52 1 2:=⟨by kernel_rfl⟩
instance:FOff Tryz.prog 52 2 4:=⟨by kernel_rfl⟩
instance:FOff Tryz.prog 52 3 5:=⟨by kernel_rfl⟩
instance:FOff Tryz.prog 52 4 6:=⟨by kernel_rfl⟩
instance:FOff Tryz.prog 52 5 7:=⟨by kernel_rfl⟩
instance:FOff Tryz.prog 52 6 8:=⟨by kernel_rfl⟩
instance:Zero Tryz.prog 52 (.agg #[.int .i64 0,.int .i64 0,.int .i64 0,.int .i64 0,.int .i64 0,.slice none 0 0,.int .i64 0,.int .i64 0,.bool false]):=⟨by kernel_rfl⟩
instance:ZF Tryz.prog 52 [.agg #[.int .i64 0,.int .i64 0],.agg #[.int .i64 0,.int .i64 0],.int .i64 0,.slice none 0 0,.int .i64 0,.int .i64 0,.bool false]:=⟨by kernel_rfl,by kernel_rfl⟩
instance:Byt Tryz.prog 52 88:=⟨by kernel_rfl⟩
instance:FOff Tryz.prog 53 0 0:=⟨by kernel_rfl⟩
instance:FOff Tryz.prog 53 1 2:=⟨by kernel_rfl⟩
instance:FOff Tryz.prog 53 2 4:=⟨by kernel_rfl⟩
instance:FOff Tryz.prog 53 3 5:=⟨by kernel_rfl⟩
instance:FOff Tryz.prog 53 4 6:=⟨by kernel_rfl⟩
instance:FOff Tryz.prog 53 5 7:=⟨by kernel_rfl⟩
instance:FOff Tryz.prog 53 6 8:=⟨by kernel_rfl⟩
instance:Zero Tryz.prog 53 (.agg #[.int .i64 0,.int .i64 0,.int .i64 0,.int .i64 0,.int .i64 0,.slice none 0 0,.int .i64 0,.int .i64 0,.bool false]):=⟨by kernel_rfl⟩
instance:ZF Tryz.prog 53 [.agg #[.int .i64 0,.int .i64 0],.agg #[.int .i64 0,.int .i64 0],.int .i64 0,.slice none 0 0,.int .i64 0,.int .i64 0,.bool false]:=⟨by kernel_rfl,by kernel_rfl⟩
instance:Conc Tryz.prog 53:=⟨by kernel_rfl⟩
instance:Byt Tryz.prog 53 88:=⟨by kernel_rfl⟩
instance:TyR Tryz.prog 53 rPol:=⟨by kernel_rfl⟩
instance:TyR Tryz.prog 54 rVal:=⟨by kernel_rfl⟩
instance:TyR Tryz.prog 55 rVal:=⟨by kernel_rfl⟩
instance:Und Tryz.prog 56 (.slice 60):=⟨Tryz.underlying56⟩
instance:Zero Tryz.prog 56 (.slice none 0 0):=⟨by kernel_rfl⟩
instance:Byt Tryz.prog 56 24:=⟨by kernel_rfl⟩
instance:TyR Tryz.prog 56 (rSlice 24 rWrong):=⟨by kernel_rfl⟩
instance:TyR Tryz.prog 57 rVal:=⟨by kernel_rfl⟩
instance:TyR Tryz.prog 58 rVal:=⟨by kernel_rfl⟩
instance:FOff Tryz.prog 59 0 0:=⟨by kernel_rfl⟩
instance:FOff Tryz.prog 59 1 1:=⟨by kernel_rfl⟩
instance:FOff Tryz.prog 59 2 2:=⟨by kernel_rfl⟩
instance:Zero Tryz.prog 59 (.agg #[.int .i64 0,.int .i64 0,.int .i64 0]):=⟨by kernel_rfl⟩
instance:ZF Tryz.prog 59 [.int .i64 0,.int .i64 0,.int .i64 0]:=⟨by kernel_rfl,by kernel_rfl⟩
instance:FlatS Tryz.prog 59 [.int,.int,.int]:=⟨by kernel_rfl,by kernel_rfl,by kernel_rfl⟩
instance:Byt Tryz.prog 59 24:=⟨by kernel_rfl⟩
instance:FOff Tryz.prog 60 0 0:=⟨by kernel_rfl⟩
instance:FOff Tryz.prog 60 1 1:=⟨by kernel_rfl⟩
instance:FOff Tryz.prog 60 2 2:=⟨by kernel_rfl⟩
instance:Zero Tryz.prog 60 (.agg #[.int .i64 0,.int .i64 0,.int .i64 0]):=⟨by kernel_rfl⟩
instance:ZF Tryz.prog 60 [.int .i64 0,.int .i64 0,.int .i64 0]:=⟨by kernel_rfl,by kernel_rfl⟩
instance:FlatS Tryz.prog 60 [.int,.int,.int]:=⟨by kernel_rfl,by kernel_rfl,by kernel_rfl⟩
instance:Conc Tryz.prog 60:=⟨by kernel_rfl⟩
instance:Byt Tryz.prog 60 24:=⟨by kernel_rfl⟩
instance:TyR Tryz.prog 60 rWrong:=⟨by kernel_rfl⟩
instance:TyR Tryz.prog 61 rVal:=⟨by kernel_rfl⟩
instance:TyR Tryz.prog 62 rVal:=⟨by kernel_rfl⟩
instance:TyR Tryz.prog 63 rVal:=⟨by kernel_rfl⟩
instance:TyR Tryz.prog 64 rVal:=⟨by kernel_rfl⟩
instance:TyR Tryz.prog 65 rVal:=⟨by kernel_rfl⟩
instance:TyR Tryz.prog 67 rVal:=⟨by kernel_rfl⟩
instance:TyR Tryz.prog 68 rVal:=⟨by kernel_rfl⟩
instance:TyR Tryz.prog 69 rVal:=⟨by kernel_rfl⟩
instance:TyR Tryz.prog 70 rVal:=⟨by kernel_rfl⟩
instance:TyR Tryz.prog 72 rVal:=⟨by kernel_rfl⟩
instance:Und Tryz.prog 73 (.slice 4):=⟨Tryz.underlying73⟩
instance:Zero Tryz.prog 73 (.slice none 0 0):=⟨by kernel_rfl⟩
instance:Byt Tryz.prog 73 24:=⟨by kernel_rfl⟩
instance:TyR Tryz.prog 73 (rSlice 1 rBool):=⟨by kernel_rfl⟩
instance:TyR Tryz.prog 74 rVal:=⟨by kernel_rfl⟩
instance:Und Tryz.prog 75 (.array 64 4):=⟨Tryz.underlying75⟩
instance:Zero Tryz.prog 75 (.agg #[.bool false,.bool false,.bool false,.bool false,.bool false,.bool false,.bool false,.bool false,.bool false,.bool false,.bool false,.bool false,.bool false,.bool false,.bool false,.bool false,.bool false,.bool false,.bool false,.bool false,.bool false,.bool false,.bool false,.bool false,.bool false,.bool false,.bool false,.bool false,.bool false,.bool false,.bool false,.bool false,.bool false,.bool false,.bool false,.bool false,.bool false,.bool false,.bool false,.bool false,.bool false,.bool false,.bool false,.bool false,.bool false,.bool false,.bool false,.bool false,.bool false,.bool false,.bool false,.bool false,.bool false,.bool false,.bool false,.bool false,.bool false,.bool false,.bool false,.bool false,.bool false,.bool false,.bool false,.bool false]):=⟨by kernel_rfl⟩
instance:ZA Tryz.prog 75 64 4 1 (.bool false):=⟨Tryz.underlying75,by kernel_rfl,rfl,by kernel_rfl⟩
instance:Byt Tryz.prog 75 64:=⟨by kernel_rfl⟩
instance:TyR Tryz.prog 76 rVal:=⟨by kernel_rfl⟩
instance:FOff Tryz.prog 77 0 0:=⟨by kernel_rfl⟩
instance:FOff Tryz.prog 77 1 1:=⟨by kernel_rfl⟩
instance:Zero Tryz.prog 77 (.agg #[.int .i64 0,.int .i64 0]):=⟨by kernel_rfl⟩
instance:ZF Tryz.prog 77 [.int .i64 0,.int .i64 0]:=⟨by kernel_rfl,by kernel_rfl⟩
instance:FlatS Tryz.prog 77 [.int,.int]:=⟨by kernel_rfl,by kernel_rfl,by kernel_rfl⟩
instance:Byt Tryz.prog 77 16:=⟨by kernel_rfl⟩
instance:FOff Tryz.prog 78 0 0:=⟨by kernel_rfl⟩
instance:FOff Tryz.prog 78 1 1:=⟨by kernel_rfl⟩
instance:Zero Tryz.prog 78 (.agg #[.int .i64 0,.int .i64 0]):=⟨by kernel_rfl⟩
instance:ZF Tryz.prog 78 [.int .i64 0,.int .i64 0]:=⟨by kernel_rfl,by kernel_rfl⟩
instance:FlatS Tryz.prog 78 [.int,.int]:=⟨by kernel_rfl,by kernel_rfl,by kernel_rfl⟩
instance:Conc Tryz.prog 78:=⟨by kernel_rfl⟩
instance:Byt Tryz.prog 78 16:=⟨by kernel_rfl⟩
instance:TyR Tryz.prog 78 rMove:=⟨by kernel_rfl⟩
instance:Und Tryz.prog 79 (.slice 45):=⟨Tryz.underlying79⟩
instance:Zero Tryz.prog 79 (.slice none 0 0):=⟨by kernel_rfl⟩
instance:Byt Tryz.prog 79 24:=⟨by kernel_rfl⟩
instance:TyR Tryz.prog 79 (rSlice 24 rStep):=⟨by kernel_rfl⟩
instance:TyR Tryz.prog 81 rVal:=⟨by kernel_rfl⟩
instance:TyR Tryz.prog 82 rVal:=⟨by kernel_rfl⟩
instance:TyR Tryz.prog 83 rVal:=⟨by kernel_rfl⟩
instance:Und Tryz.prog 84 (.slice 78):=⟨Tryz.underlying84⟩
instance:Zero Tryz.prog 84 (.slice none 0 0):=⟨by kernel_rfl⟩
instance:Byt Tryz.prog 84 24:=⟨by kernel_rfl⟩
instance:TyR Tryz.prog 84 (rSlice 16 rMove):=⟨by kernel_rfl⟩
instance:TyR Tryz.prog 85 rVal:=⟨by kernel_rfl⟩
instance:TyR Tryz.prog 87 rVal:=⟨by kernel_rfl⟩
instance:TyR Tryz.prog 88 rVal:=⟨by kernel_rfl⟩
instance:TyR Tryz.prog 89 rVal:=⟨by kernel_rfl⟩
instance:Und Tryz.prog 90 (.array 5 3):=⟨Tryz.underlying90⟩
instance:Zero Tryz.prog 90 (.agg #[.int .i64 0,.int .i64 0,.int .i64 0,.int .i64 0,.int .i64 0]):=⟨by kernel_rfl⟩
instance:ZA Tryz.prog 90 5 3 1 (.int .i64 0):=⟨Tryz.underlying90,by kernel_rfl,rfl,by kernel_rfl⟩
instance:Byt Tryz.prog 90 40:=⟨by kernel_rfl⟩
instance:Und Tryz.prog 91 (.array 5 3):=⟨Tryz.underlying91⟩
instance:Zero Tryz.prog 91 (.agg #[.int .i64 0,.int .i64 0,.int .i64 0,.int .i64 0,.int .i64 0]):=⟨by kernel_rfl⟩
instance:ZA Tryz.prog 91 5 3 1 (.int .i64 0):=⟨Tryz.underlying91,by kernel_rfl,rfl,by kernel_rfl⟩
instance:Conc Tryz.prog 91:=⟨by kernel_rfl⟩
instance:Byt Tryz.prog 91 40:=⟨by kernel_rfl⟩
instance:TyR Tryz.prog 91 (rArr 5):=⟨by kernel_rfl⟩
instance:Und Tryz.prog 92 (.slice 213):=⟨Tryz.underlying92⟩
instance:Zero Tryz.prog 92 (.slice none 0 0):=⟨by kernel_rfl⟩
instance:Byt Tryz.prog 92 24:=⟨by kernel_rfl⟩
instance:TyR Tryz.prog 92 (rSlice 32 rLabel):=⟨by kernel_rfl⟩
instance:FOff Tryz.prog 93 0 0:=⟨by kernel_rfl⟩
instance:FOff Tryz.prog 93 1 1:=⟨by kernel_rfl⟩
instance:FOff Tryz.prog 93 2 6:=⟨by kernel_rfl⟩
instance:FOff Tryz.prog 93 3 7:=⟨by kernel_rfl⟩
instance:FOff Tryz.prog 93 4 8:=⟨by kernel_rfl⟩
instance:FOff Tryz.prog 93 5 9:=⟨by kernel_rfl⟩
instance:Zero Tryz.prog 93 (.agg #[.string ⟨#[]⟩,.int .i64 0,.int .i64 0,.int .i64 0,.int .i64 0,.int .i64 0,.slice none 0 0,.slice none 0 0,.bool false,.bool false]):=⟨by kernel_rfl⟩
instance:ZF Tryz.prog 93 [.string ⟨#[]⟩,.agg #[.int .i64 0,.int .i64 0,.int .i64 0,.int .i64 0,.int .i64 0],.slice none 0 0,.slice none 0 0,.bool false,.bool false]:=⟨by kernel_rfl,by kernel_rfl⟩
instance:Byt Tryz.prog 93 112:=⟨by kernel_rfl⟩
instance:FOff Tryz.prog 94 0 0:=⟨by kernel_rfl⟩
instance:FOff Tryz.prog 94 1 1:=⟨by kernel_rfl⟩
instance:FOff Tryz.prog 94 2 6:=⟨by kernel_rfl⟩
instance:FOff Tryz.prog 94 3 7:=⟨by kernel_rfl⟩
instance:FOff Tryz.prog 94 4 8:=⟨by kernel_rfl⟩
instance:FOff Tryz.prog 94 5 9:=⟨by kernel_rfl⟩
instance:Zero Tryz.prog 94 (.agg #[.string ⟨#[]⟩,.int .i64 0,.int .i64 0,.int .i64 0,.int .i64 0,.int .i64 0,.slice none 0 0,.slice none 0 0,.bool false,.bool false]):=⟨by kernel_rfl⟩
instance:ZF Tryz.prog 94 [.string ⟨#[]⟩,.agg #[.int .i64 0,.int .i64 0,.int .i64 0,.int .i64 0,.int .i64 0],.slice none 0 0,.slice none 0 0,.bool false,.bool false]:=⟨by kernel_rfl,by kernel_rfl⟩
instance:Conc Tryz.prog 94:=⟨by kernel_rfl⟩
instance:Byt Tryz.prog 94 112:=⟨by kernel_rfl⟩
instance:TyR Tryz.prog 94 rNode:=⟨by kernel_rfl⟩
instance:TyR Tryz.prog 96 rVal:=⟨by kernel_rfl⟩
instance:TyR Tryz.prog 98 rVal:=⟨by kernel_rfl⟩
instance:TyR Tryz.prog 99 rVal:=⟨by kernel_rfl⟩
instance:TyR Tryz.prog 100 rVal:=⟨by kernel_rfl⟩
instance:TyR Tryz.prog 101 rVal:=⟨by kernel_rfl⟩
instance:TyR Tryz.prog 102 rVal:=⟨by kernel_rfl⟩
instance:TyR Tryz.prog 103 rVal:=⟨by kernel_rfl⟩
instance:TyR Tryz.prog 104 rVal:=⟨by kernel_rfl⟩
instance:Und Tryz.prog 105 (.map 110 3):=⟨Tryz.underlying105⟩
instance:Zero Tryz.prog 105 (.map none):=⟨by kernel_rfl⟩
instance:Byt Tryz.prog 105 8:=⟨by kernel_rfl⟩
instance:TyR Tryz.prog 105 rVal:=⟨by kernel_rfl⟩
instance:Und Tryz.prog 106 (.map 110 3):=⟨Tryz.underlying106⟩
instance:Zero Tryz.prog 106 (.map none):=⟨by kernel_rfl⟩
instance:Conc Tryz.prog 106:=⟨by kernel_rfl⟩
instance:Byt Tryz.prog 106 8:=⟨by kernel_rfl⟩
instance:TyR Tryz.prog 106 rVal:=⟨by kernel_rfl⟩
instance:TyR Tryz.prog 108 rVal:=⟨by kernel_rfl⟩
instance:FOff Tryz.prog 109 0 0:=⟨by kernel_rfl⟩
instance:FOff Tryz.prog 109 1 1:=⟨by kernel_rfl⟩
instance:FOff Tryz.prog 109 2 2:=⟨by kernel_rfl⟩
instance:Zero Tryz.prog 109 (.agg #[.int .i64 0,.int .i64 0,.int .i64 0]):=⟨by kernel_rfl⟩
instance:ZF Tryz.prog 109 [.int .i64 0,.int .i64 0,.int .i64 0]:=⟨by kernel_rfl,by kernel_rfl⟩
instance:FlatS Tryz.prog 109 [.int,.int,.int]:=⟨by kernel_rfl,by kernel_rfl,by kernel_rfl⟩
instance:Byt Tryz.prog 109 24:=⟨by kernel_rfl⟩
instance:FOff Tryz.prog 110 0 0:=⟨by kernel_rfl⟩
instance:FOff Tryz.prog 110 1 1:=⟨by kernel_rfl⟩
instance:FOff Tryz.prog 110 2 2:=⟨by kernel_rfl⟩
instance:Zero Tryz.prog 110 (.agg #[.int .i64 0,.int .i64 0,.int .i64 0]):=⟨by kernel_rfl⟩
instance:ZF Tryz.prog 110 [.int .i64 0,.int .i64 0,.int .i64 0]:=⟨by kernel_rfl,by kernel_rfl⟩
instance:FlatS Tryz.prog 110 [.int,.int,.int]:=⟨by kernel_rfl,by kernel_rfl,by kernel_rfl⟩
instance:Conc Tryz.prog 110:=⟨by kernel_rfl⟩
instance:Byt Tryz.prog 110 24:=⟨by kernel_rfl⟩
instance:TyR Tryz.prog 111 rVal:=⟨by kernel_rfl⟩
instance:TyR Tryz.prog 112 rVal:=⟨by kernel_rfl⟩
instance:FOff Tryz.prog 113 0 0:=⟨by kernel_rfl⟩
instance:FOff Tryz.prog 113 1 3:=⟨by kernel_rfl⟩
instance:Zero Tryz.prog 113 (.agg #[.slice none 0 0,.slice none 0 0,.slice none 0 0,.int .i64 0,.int .i64 0,.int .i64 0,.int .i64 0,.int .i64 0]):=⟨by kernel_rfl⟩
instance:ZF Tryz.prog 113 [.agg #[.slice none 0 0,.slice none 0 0,.slice none 0 0],.agg #[.int .i64 0,.int .i64 0,.int .i64 0,.int .i64 0,.int .i64 0]]:=⟨by kernel_rfl,by kernel_rfl⟩
instance:Byt Tryz.prog 113 112:=⟨by kernel_rfl⟩
instance:FOff Tryz.prog 114 0 0:=⟨by kernel_rfl⟩
instance:FOff Tryz.prog 114 1 3:=⟨by kernel_rfl⟩
instance:Zero Tryz.prog 114 (.agg #[.slice none 0 0,.slice none 0 0,.slice none 0 0,.int .i64 0,.int .i64 0,.int .i64 0,.int .i64 0,.int .i64 0]):=⟨by kernel_rfl⟩
instance:ZF Tryz.prog 114 [.agg #[.slice none 0 0,.slice none 0 0,.slice none 0 0],.agg #[.int .i64 0,.int .i64 0,.int .i64 0,.int .i64 0,.int .i64 0]]:=⟨by kernel_rfl,by kernel_rfl⟩
instance:Conc Tryz.prog 114:=⟨by kernel_rfl⟩
instance:Byt Tryz.prog 114 112:=⟨by kernel_rfl⟩
instance:TyR Tryz.prog 115 rVal:=⟨by kernel_rfl⟩
instance:TyR Tryz.prog 116 rVal:=⟨by kernel_rfl⟩
instance:TyR Tryz.prog 117 rVal:=⟨by kernel_rfl⟩
instance:TyR Tryz.prog 118 rVal:=⟨by kernel_rfl⟩
instance:Byt Tryz.prog 119 16:=⟨by kernel_rfl⟩
instance:TyR Tryz.prog 119 rVal:=⟨by kernel_rfl⟩
instance:TyR Tryz.prog 121 rVal:=⟨by kernel_rfl⟩
instance:Und Tryz.prog 123 (.slice 215):=⟨Tryz.underlying123⟩
instance:Zero Tryz.prog 123 (.slice none 0 0):=⟨by kernel_rfl⟩
instance:Byt Tryz.prog 123 24:=⟨by kernel_rfl⟩
instance:TyR Tryz.prog 123 (rSlice 40 rTerm):=⟨by kernel_rfl⟩
instance:FOff Tryz.prog 124 0 0:=⟨by kernel_rfl⟩
instance:FOff Tryz.prog 124 1 1:=⟨by kernel_rfl⟩
instance:Zero Tryz.prog 124 (.agg #[.string ⟨#[]⟩,.slice none 0 0]):=⟨by kernel_rfl⟩
instance:ZF Tryz.prog 124 [.string ⟨#[]⟩,.slice none 0 0]:=⟨by kernel_rfl,by kernel_rfl⟩
instance:Byt Tryz.prog 124 40:=⟨by kernel_rfl⟩
instance:FOff Tryz.prog 125 0 0:=⟨by kernel_rfl⟩
instance:FOff Tryz.prog 125 1 1:=⟨by kernel_rfl⟩
instance:Zero Tryz.prog 125 (.agg #[.string ⟨#[]⟩,.slice none 0 0]):=⟨by kernel_rfl⟩
instance:ZF Tryz.prog 125 [.string ⟨#[]⟩,.slice none 0 0]:=⟨by kernel_rfl,by kernel_rfl⟩
instance:Conc Tryz.prog 125:=⟨by kernel_rfl⟩
instance:Byt Tryz.prog 125 40:=⟨by kernel_rfl⟩
instance:TyR Tryz.prog 125 rNear:=⟨by kernel_rfl⟩
instance:FOff Tryz.prog 126 0 0:=⟨by kernel_rfl⟩
instance:FOff Tryz.prog 126 1 1:=⟨by kernel_rfl⟩
instance:FOff Tryz.prog 126 2 2:=⟨by kernel_rfl⟩
instance:FOff Tryz.prog 126 3 7:=⟨by kernel_rfl⟩
instance:FOff Tryz.prog 126 4 8:=⟨by kernel_rfl⟩
instance:FOff Tryz.prog 126 5 9:=⟨by kernel_rfl⟩
instance:FOff Tryz.prog 126 6 10:=⟨by kernel_rfl⟩
instance:FOff Tryz.prog 126 7 12:=⟨by kernel_rfl⟩
instance:FOff Tryz.prog 126 8 14:=⟨by kernel_rfl⟩
instance:Zero Tryz.prog 126 (.agg #[.string ⟨#[]⟩,.string ⟨#[]⟩,.int .i64 0,.int .i64 0,.int .i64 0,.int .i64 0,.int .i64 0,.slice none 0 0,.slice none 0 0,.slice none 0 0,.string ⟨#[]⟩,.slice none 0 0,.string ⟨#[]⟩,.slice none 0 0,.string ⟨#[]⟩]):=⟨by kernel_rfl⟩
instance:ZF Tryz.prog 126 [.string ⟨#[]⟩,.string ⟨#[]⟩,.agg #[.int .i64 0,.int .i64 0,.int .i64 0,.int .i64 0,.int .i64 0],.slice none 0 0,.slice none 0 0,.slice none 0 0,.agg #[.string ⟨#[]⟩,.slice none 0 0],.agg #[.string ⟨#[]⟩,.slice none 0 0],.string ⟨#[]⟩]:=⟨by kernel_rfl,by kernel_rfl⟩
instance:Byt Tryz.prog 126 240:=⟨by kernel_rfl⟩
instance:FOff Tryz.prog 127 0 0:=⟨by kernel_rfl⟩
instance:FOff Tryz.prog 127 1 1:=⟨by kernel_rfl⟩
instance:FOff Tryz.prog 127 2 2:=⟨by kernel_rfl⟩
instance:FOff Tryz.prog 127 3 7:=⟨by kernel_rfl⟩
instance:FOff Tryz.prog 127 4 8:=⟨by kernel_rfl⟩
instance:FOff Tryz.prog 127 5 9:=⟨by kernel_rfl⟩
instance:FOff Tryz.prog 127 6 10:=⟨by kernel_rfl⟩
instance:FOff Tryz.prog 127 7 12:=⟨by kernel_rfl⟩
instance:FOff Tryz.prog 127 8 14:=⟨by kernel_rfl⟩
instance:Zero Tryz.prog 127 (.agg #[.string ⟨#[]⟩,.string ⟨#[]⟩,.int .i64 0,.int .i64 0,.int .i64 0,.int .i64 0,.int .i64 0,.slice none 0 0,.slice none 0 0,.slice none 0 0,.string ⟨#[]⟩,.slice none 0 0,.string ⟨#[]⟩,.slice none 0 0,.string ⟨#[]⟩]):=⟨by kernel_rfl⟩
instance:ZF Tryz.prog 127 [.string ⟨#[]⟩,.string ⟨#[]⟩,.agg #[.int .i64 0,.int .i64 0,.int .i64 0,.int .i64 0,.int .i64 0],.slice none 0 0,.slice none 0 0,.slice none 0 0,.agg #[.string ⟨#[]⟩,.slice none 0 0],.agg #[.string ⟨#[]⟩,.slice none 0 0],.string ⟨#[]⟩]:=⟨by kernel_rfl,by kernel_rfl⟩
instance:Conc Tryz.prog 127:=⟨by kernel_rfl⟩
instance:Byt Tryz.prog 127 240:=⟨by kernel_rfl⟩
instance:TyR Tryz.prog 127 rPod:=⟨by kernel_rfl⟩
instance:TyR Tryz.prog 128 rVal:=⟨by kernel_rfl⟩
instance:TyR Tryz.prog 129 rVal:=⟨by kernel_rfl⟩
instance:TyR Tryz.prog 130 rVal:=⟨by kernel_rfl⟩
instance:Und Tryz.prog 131 (.pointer 200):=⟨Tryz.underlying131⟩
instance:Zero Tryz.prog 131 (.pointer none):=⟨by kernel_rfl⟩
instance:Byt Tryz.prog 131 8:=⟨by kernel_rfl⟩
instance:TyR Tryz.prog 131 rVal:=⟨by kernel_rfl⟩
instance:TyR Tryz.prog 133 rVal:=⟨by kernel_rfl⟩
instance:TyR Tryz.prog 134 rVal:=⟨by kernel_rfl⟩
instance:TyR Tryz.prog 135 rVal:=⟨by kernel_rfl⟩
instance:TyR Tryz.prog 136 rVal:=⟨by kernel_rfl⟩
instance:TyR Tryz.prog 137 rVal:=⟨by kernel_rfl⟩
instance:Und Tryz.prog 138 (.array 5 4):=⟨Tryz.underlying138⟩
instance:Zero Tryz.prog 138 (.agg #[.bool false,.bool false,.bool false,.bool false,.bool false]):=⟨by kernel_rfl⟩
instance:ZA Tryz.prog 138 5 4 1 (.bool false):=⟨Tryz.underlying138,by kernel_rfl,rfl,by kernel_rfl⟩
instance:Byt Tryz.prog 138 5:=⟨by kernel_rfl⟩
instance:TyR Tryz.prog 139 rVal:=⟨by kernel_rfl⟩
instance:TyR Tryz.prog 140 rVal:=⟨by kernel_rfl⟩
instance:TyR Tryz.prog 141 rVal:=⟨by kernel_rfl⟩
instance:TyR Tryz.prog 142 rVal:=⟨by kernel_rfl⟩
instance:TyR Tryz.prog 143 rVal:=⟨by kernel_rfl⟩
instance:TyR Tryz.prog 144 rVal:=⟨by kernel_rfl⟩
instance:TyR Tryz.prog 145 rVal:=⟨by kernel_rfl⟩
instance:FOff Tryz.prog 146 0 0:=⟨by kernel_rfl⟩
instance:FOff Tryz.prog 146 1 1:=⟨by kernel_rfl⟩
instance:FOff Tryz.prog 146 2 2:=⟨by kernel_rfl⟩
instance:FOff Tryz.prog 146 3 3:=⟨by kernel_rfl⟩
instance:FOff Tryz.prog 146 4 4:=⟨by kernel_rfl⟩
instance:Zero Tryz.prog 146 (.agg #[.string ⟨#[]⟩,.int .i64 0,.string ⟨#[]⟩,.int .i64 0,.bool false]):=⟨by kernel_rfl⟩
instance:ZF Tryz.prog 146 [.string ⟨#[]⟩,.int .i64 0,.string ⟨#[]⟩,.int .i64 0,.bool false]:=⟨by kernel_rfl,by kernel_rfl⟩
instance:FlatS Tryz.prog 146 [.str,.int,.str,.int,.bool]:=⟨by kernel_rfl,by kernel_rfl,by kernel_rfl⟩
instance:Byt Tryz.prog 146 56:=⟨by kernel_rfl⟩
instance:FOff Tryz.prog 147 0 0:=⟨by kernel_rfl⟩
instance:FOff Tryz.prog 147 1 1:=⟨by kernel_rfl⟩
instance:FOff Tryz.prog 147 2 2:=⟨by kernel_rfl⟩
instance:FOff Tryz.prog 147 3 3:=⟨by kernel_rfl⟩
instance:FOff Tryz.prog 147 4 4:=⟨by kernel_rfl⟩
instance:Zero Tryz.prog 147 (.agg #[.string ⟨#[]⟩,.int .i64 0,.string ⟨#[]⟩,.int .i64 0,.bool false]):=⟨by kernel_rfl⟩
instance:ZF Tryz.prog 147 [.string ⟨#[]⟩,.int .i64 0,.string ⟨#[]⟩,.int .i64 0,.bool false]:=⟨by kernel_rfl,by kernel_rfl⟩
instance:FlatS Tryz.prog 147 [.str,.int,.str,.int,.bool]:=⟨by kernel_rfl,by kernel_rfl,by kernel_rfl⟩
instance:Conc Tryz.prog 147:=⟨by kernel_rfl⟩
instance:Byt Tryz.prog 147 56:=⟨by kernel_rfl⟩
instance:TyR Tryz.prog 147 rOwner:=⟨by kernel_rfl⟩
instance:TyR Tryz.prog 148 rVal:=⟨by kernel_rfl⟩
instance:TyR Tryz.prog 149 rVal:=⟨by kernel_rfl⟩
instance:TyR Tryz.prog 150 rVal:=⟨by kernel_rfl⟩
instance:TyR Tryz.prog 151 rVal:=⟨by kernel_rfl⟩
instance:TyR Tryz.prog 152 rVal:=⟨by kernel_rfl⟩
instance:TyR Tryz.prog 153 rVal:=⟨by kernel_rfl⟩
instance:TyR Tryz.prog 154 rVal:=⟨by kernel_rfl⟩
instance:TyR Tryz.prog 155 rVal:=⟨by kernel_rfl⟩
instance:TyR Tryz.prog 156 rVal:=⟨by kernel_rfl⟩
instance:Und Tryz.prog 157 (.int .u64):=⟨Tryz.underlying157⟩
instance:Zero Tryz.prog 157 (.int .u64 0):=⟨by kernel_rfl⟩
instance:Byt Tryz.prog 157 8:=⟨by kernel_rfl⟩
instance:TyR Tryz.prog 157 (rInt .u64):=⟨by kernel_rfl⟩
instance:TyR Tryz.prog 159 rVal:=⟨by kernel_rfl⟩
instance:TyR Tryz.prog 160 rVal:=⟨by kernel_rfl⟩
instance:TyR Tryz.prog 161 rVal:=⟨by kernel_rfl⟩
instance:TyR Tryz.prog 162 rVal:=⟨by kernel_rfl⟩
instance:Und Tryz.prog 163 (.pointer 167):=⟨Tryz.underlying163⟩
instance:Zero Tryz.prog 163 (.pointer none):=⟨by kernel_rfl⟩
instance:Byt Tryz.prog 163 8:=⟨by kernel_rfl⟩
instance:TyR Tryz.prog 163 rVal:=⟨by kernel_rfl⟩
instance:TyR Tryz.prog 164 rVal:=⟨by kernel_rfl⟩
instance:Und Tryz.prog 165 (.map 3 3):=⟨Tryz.underlying165⟩
instance:Zero Tryz.prog 165 (.map none):=⟨by kernel_rfl⟩
instance:Byt Tryz.prog 165 8:=⟨by kernel_rfl⟩
instance:TyR Tryz.prog 165 rVal:=⟨by kernel_rfl⟩
instance:FOff Tryz.prog 166 0 0:=⟨by kernel_rfl⟩
instance:FOff Tryz.prog 166 1 3:=⟨by kernel_rfl⟩
instance:FOff Tryz.prog 166 2 4:=⟨by kernel_rfl⟩
instance:FOff Tryz.prog 166 3 5:=⟨by kernel_rfl⟩
instance:FOff Tryz.prog 166 4 6:=⟨by kernel_rfl⟩
instance:Zero Tryz.prog 166 (.agg #[.slice none 0 0,.slice none 0 0,.slice none 0 0,.slice none 0 0,.slice none 0 0,.slice none 0 0,.map none]):=⟨by kernel_rfl⟩
instance:ZF Tryz.prog 166 [.agg #[.slice none 0 0,.slice none 0 0,.slice none 0 0],.slice none 0 0,.slice none 0 0,.slice none 0 0,.map none]:=⟨by kernel_rfl,by kernel_rfl⟩
instance:Byt Tryz.prog 166 152:=⟨by kernel_rfl⟩
instance:FOff Tryz.prog 167 0 0:=⟨by kernel_rfl⟩
instance:FOff Tryz.prog 167 1 3:=⟨by kernel_rfl⟩
instance:FOff Tryz.prog 167 2 4:=⟨by kernel_rfl⟩
instance:FOff Tryz.prog 167 3 5:=⟨by kernel_rfl⟩
instance:FOff Tryz.prog 167 4 6:=⟨by kernel_rfl⟩
instance:Zero Tryz.prog 167 (.agg #[.slice none 0 0,.slice none 0 0,.slice none 0 0,.slice none 0 0,.slice none 0 0,.slice none 0 0,.map none]):=⟨by kernel_rfl⟩
instance:ZF Tryz.prog 167 [.agg #[.slice none 0 0,.slice none 0 0,.slice none 0 0],.slice none 0 0,.slice none 0 0,.slice none 0 0,.map none]:=⟨by kernel_rfl,by kernel_rfl⟩
instance:Conc Tryz.prog 167:=⟨by kernel_rfl⟩
instance:Byt Tryz.prog 167 152:=⟨by kernel_rfl⟩
instance:TyR Tryz.prog 168 rVal:=⟨by kernel_rfl⟩
instance:TyR Tryz.prog 169 rVal:=⟨by kernel_rfl⟩
instance:TyR Tryz.prog 170 rVal:=⟨by kernel_rfl⟩
instance:TyR Tryz.prog 171 rVal:=⟨by kernel_rfl⟩
instance:FOff Tryz.prog 172 0 0:=⟨by kernel_rfl⟩
instance:FOff Tryz.prog 172 1 3:=⟨by kernel_rfl⟩
instance:FOff Tryz.prog 172 2 4:=⟨by kernel_rfl⟩
instance:Zero Tryz.prog 172 (.agg #[.slice none 0 0,.slice none 0 0,.slice none 0 0,.slice none 0 0,.int .i64 0]):=⟨by kernel_rfl⟩
instance:ZF Tryz.prog 172 [.agg #[.slice none 0 0,.slice none 0 0,.slice none 0 0],.slice none 0 0,.int .i64 0]:=⟨by kernel_rfl,by kernel_rfl⟩
instance:Byt Tryz.prog 172 104:=⟨by kernel_rfl⟩
instance:FOff Tryz.prog 173 0 0:=⟨by kernel_rfl⟩
instance:FOff Tryz.prog 173 1 3:=⟨by kernel_rfl⟩
instance:FOff Tryz.prog 173 2 4:=⟨by kernel_rfl⟩
instance:Zero Tryz.prog 173 (.agg #[.slice none 0 0,.slice none 0 0,.slice none 0 0,.slice none 0 0,.int .i64 0]):=⟨by kernel_rfl⟩
instance:ZF Tryz.prog 173 [.agg #[.slice none 0 0,.slice none 0 0,.slice none 0 0],.slice none 0 0,.int .i64 0]:=⟨by kernel_rfl,by kernel_rfl⟩
instance:Conc Tryz.prog 173:=⟨by kernel_rfl⟩
instance:Byt Tryz.prog 173 104:=⟨by kernel_rfl⟩
instance:TyR Tryz.prog 174 rVal:=⟨by kernel_rfl⟩
instance:TyR Tryz.prog 175 rVal:=⟨by kernel_rfl⟩
instance:TyR Tryz.prog 176 rVal:=⟨by kernel_rfl⟩
instance:TyR Tryz.prog 177 rVal:=⟨by kernel_rfl⟩
instance:TyR Tryz.prog 178 rVal:=⟨by kernel_rfl⟩
instance:TyR Tryz.prog 179 rVal:=⟨by kernel_rfl⟩
instance:TyR Tryz.prog 180 rVal:=⟨by kernel_rfl⟩
instance:TyR Tryz.prog 181 rVal:=⟨by kernel_rfl⟩
instance:TyR Tryz.prog 182 rVal:=⟨by kernel_rfl⟩
instance:TyR Tryz.prog 183 rVal:=⟨by kernel_rfl⟩
instance:TyR Tryz.prog 184 rVal:=⟨by kernel_rfl⟩
instance:TyR Tryz.prog 185 rVal:=⟨by kernel_rfl⟩
instance:TyR Tryz.prog 187 rVal:=⟨by kernel_rfl⟩
instance:Und Tryz.prog 188 (.slice 91):=⟨Tryz.underlying188⟩
instance:Zero Tryz.prog 188 (.slice none 0 0):=⟨by kernel_rfl⟩
instance:Byt Tryz.prog 188 24:=⟨by kernel_rfl⟩
instance:TyR Tryz.prog 188 (rSlice 40 (rArr 5)):=⟨by kernel_rfl⟩
instance:TyR Tryz.prog 189 rVal:=⟨by kernel_rfl⟩
instance:TyR Tryz.prog 190 rVal:=⟨by kernel_rfl⟩
instance:TyR Tryz.prog 191 rVal:=⟨by kernel_rfl⟩
instance:TyR Tryz.prog 192 rVal:=⟨by kernel_rfl⟩
instance:TyR Tryz.prog 193 rVal:=⟨by kernel_rfl⟩
instance:TyR Tryz.prog 194 rVal:=⟨by kernel_rfl⟩
instance:TyR Tryz.prog 195 rVal:=⟨by kernel_rfl⟩
instance:TyR Tryz.prog 196 rVal:=⟨by kernel_rfl⟩
instance:TyR Tryz.prog 198 rVal:=⟨by kernel_rfl⟩
instance:FOff Tryz.prog 199 0 0:=⟨by kernel_rfl⟩
instance:FOff Tryz.prog 199 1 3:=⟨by kernel_rfl⟩
instance:FOff Tryz.prog 199 2 4:=⟨by kernel_rfl⟩
instance:FOff Tryz.prog 199 3 13:=⟨by kernel_rfl⟩
instance:FOff Tryz.prog 199 4 14:=⟨by kernel_rfl⟩
instance:Zero Tryz.prog 199 (.agg #[.slice none 0 0,.slice none 0 0,.slice none 0 0,.slice none 0 0,.int .i64 0,.int .i64 0,.int .i64 0,.int .i64 0,.int .i64 0,.slice none 0 0,.int .i64 0,.int .i64 0,.bool false,.slice none 0 0,.slice none 0 0]):=⟨by kernel_rfl⟩
instance:ZF Tryz.prog 199 [.agg #[.slice none 0 0,.slice none 0 0,.slice none 0 0],.slice none 0 0,.agg #[.int .i64 0,.int .i64 0,.int .i64 0,.int .i64 0,.int .i64 0,.slice none 0 0,.int .i64 0,.int .i64 0,.bool false],.slice none 0 0,.slice none 0 0]:=⟨by kernel_rfl,by kernel_rfl⟩
instance:Byt Tryz.prog 199 232:=⟨by kernel_rfl⟩
instance:FOff Tryz.prog 200 0 0:=⟨by kernel_rfl⟩
instance:FOff Tryz.prog 200 1 3:=⟨by kernel_rfl⟩
instance:FOff Tryz.prog 200 2 4:=⟨by kernel_rfl⟩
instance:FOff Tryz.prog 200 3 13:=⟨by kernel_rfl⟩
instance:FOff Tryz.prog 200 4 14:=⟨by kernel_rfl⟩
instance:Zero Tryz.prog 200 (.agg #[.slice none 0 0,.slice none 0 0,.slice none 0 0,.slice none 0 0,.int .i64 0,.int .i64 0,.int .i64 0,.int .i64 0,.int .i64 0,.slice none 0 0,.int .i64 0,.int .i64 0,.bool false,.slice none 0 0,.slice none 0 0]):=⟨by kernel_rfl⟩
instance:ZF Tryz.prog 200 [.agg #[.slice none 0 0,.slice none 0 0,.slice none 0 0],.slice none 0 0,.agg #[.int .i64 0,.int .i64 0,.int .i64 0,.int .i64 0,.int .i64 0,.slice none 0 0,.int .i64 0,.int .i64 0,.bool false],.slice none 0 0,.slice none 0 0]:=⟨by kernel_rfl,by kernel_rfl⟩
instance:Conc Tryz.prog 200:=⟨by kernel_rfl⟩
instance:Byt Tryz.prog 200 232:=⟨by kernel_rfl⟩
instance:Und Tryz.prog 201 (.slice 205):=⟨Tryz.underlying201⟩
instance:Zero Tryz.prog 201 (.slice none 0 0):=⟨by kernel_rfl⟩
instance:Byt Tryz.prog 201 24:=⟨by kernel_rfl⟩
instance:TyR Tryz.prog 202 rVal:=⟨by kernel_rfl⟩
instance:TyR Tryz.prog 203 rVal:=⟨by kernel_rfl⟩
instance:FOff Tryz.prog 204 0 0:=⟨by kernel_rfl⟩
instance:FOff Tryz.prog 204 1 1:=⟨by kernel_rfl⟩
instance:FOff Tryz.prog 204 2 2:=⟨by kernel_rfl⟩
instance:Zero Tryz.prog 204 (.agg #[.int .i64 0,.int .i64 0,.nilFunc]):=⟨by kernel_rfl⟩
instance:ZF Tryz.prog 204 [.int .i64 0,.int .i64 0,.nilFunc]:=⟨by kernel_rfl,by kernel_rfl⟩
instance:Byt Tryz.prog 204 24:=⟨by kernel_rfl⟩
instance:FOff Tryz.prog 205 0 0:=⟨by kernel_rfl⟩
instance:FOff Tryz.prog 205 1 1:=⟨by kernel_rfl⟩
instance:FOff Tryz.prog 205 2 2:=⟨by kernel_rfl⟩
instance:Zero Tryz.prog 205 (.agg #[.int .i64 0,.int .i64 0,.nilFunc]):=⟨by kernel_rfl⟩
instance:ZF Tryz.prog 205 [.int .i64 0,.int .i64 0,.nilFunc]:=⟨by kernel_rfl,by kernel_rfl⟩
instance:Conc Tryz.prog 205:=⟨by kernel_rfl⟩
instance:Byt Tryz.prog 205 24:=⟨by kernel_rfl⟩
instance:TyR Tryz.prog 206 rVal:=⟨by kernel_rfl⟩
instance:Und Tryz.prog 207 (.slice 137):=⟨Tryz.underlying207⟩
instance:Zero Tryz.prog 207 (.slice none 0 0):=⟨by kernel_rfl⟩
instance:Byt Tryz.prog 207 24:=⟨by kernel_rfl⟩
instance:TyR Tryz.prog 209 rVal:=⟨by kernel_rfl⟩
instance:TyR Tryz.prog 210 rVal:=⟨by kernel_rfl⟩
instance:TyR Tryz.prog 211 rVal:=⟨by kernel_rfl⟩
instance:FOff Tryz.prog 212 0 0:=⟨by kernel_rfl⟩
instance:FOff Tryz.prog 212 1 1:=⟨by kernel_rfl⟩
instance:Zero Tryz.prog 212 (.agg #[.string ⟨#[]⟩,.string ⟨#[]⟩]):=⟨by kernel_rfl⟩
instance:ZF Tryz.prog 212 [.string ⟨#[]⟩,.string ⟨#[]⟩]:=⟨by kernel_rfl,by kernel_rfl⟩
instance:FlatS Tryz.prog 212 [.str,.str]:=⟨by kernel_rfl,by kernel_rfl,by kernel_rfl⟩
instance:Byt Tryz.prog 212 32:=⟨by kernel_rfl⟩
instance:FOff Tryz.prog 213 0 0:=⟨by kernel_rfl⟩
instance:FOff Tryz.prog 213 1 1:=⟨by kernel_rfl⟩
instance:Zero Tryz.prog 213 (.agg #[.string ⟨#[]⟩,.string ⟨#[]⟩]):=⟨by kernel_rfl⟩
instance:ZF Tryz.prog 213 [.string ⟨#[]⟩,.string ⟨#[]⟩]:=⟨by kernel_rfl,by kernel_rfl⟩
instance:FlatS Tryz.prog 213 [.str,.str]:=⟨by kernel_rfl,by kernel_rfl,by kernel_rfl⟩
instance:Conc Tryz.prog 213:=⟨by kernel_rfl⟩
instance:Byt Tryz.prog 213 32:=⟨by kernel_rfl⟩
instance:TyR Tryz.prog 213 rLabel:=⟨by kernel_rfl⟩
instance:FOff Tryz.prog 214 0 0:=⟨by kernel_rfl⟩
instance:FOff Tryz.prog 214 1 1:=⟨by kernel_rfl⟩
instance:FOff Tryz.prog 214 2 2:=⟨by kernel_rfl⟩
instance:Zero Tryz.prog 214 (.agg #[.int .i64 0,.string ⟨#[]⟩,.string ⟨#[]⟩]):=⟨by kernel_rfl⟩
instance:ZF Tryz.prog 214 [.int .i64 0,.string ⟨#[]⟩,.string ⟨#[]⟩]:=⟨by kernel_rfl,by kernel_rfl⟩
instance:FlatS Tryz.prog 214 [.int,.str,.str]:=⟨by kernel_rfl,by kernel_rfl,by kernel_rfl⟩
instance:Byt Tryz.prog 214 40:=⟨by kernel_rfl⟩
instance:FOff Tryz.prog 215 0 0:=⟨by kernel_rfl⟩
instance:FOff Tryz.prog 215 1 1:=⟨by kernel_rfl⟩
instance:FOff Tryz.prog 215 2 2:=⟨by kernel_rfl⟩
instance:Zero Tryz.prog 215 (.agg #[.int .i64 0,.string ⟨#[]⟩,.string ⟨#[]⟩]):=⟨by kernel_rfl⟩
instance:ZF Tryz.prog 215 [.int .i64 0,.string ⟨#[]⟩,.string ⟨#[]⟩]:=⟨by kernel_rfl,by kernel_rfl⟩
instance:FlatS Tryz.prog 215 [.int,.str,.str]:=⟨by kernel_rfl,by kernel_rfl,by kernel_rfl⟩
instance:Conc Tryz.prog 215:=⟨by kernel_rfl⟩
instance:Byt Tryz.prog 215 40:=⟨by kernel_rfl⟩
instance:TyR Tryz.prog 215 rTerm:=⟨by kernel_rfl⟩
instance:TyR Tryz.prog 216 rVal:=⟨by kernel_rfl⟩
instance:TyR Tryz.prog 217 rVal:=⟨by kernel_rfl⟩
instance:TyR Tryz.prog 218 rVal:=⟨by kernel_rfl⟩
instance:Byt Tryz.prog 219 8:=⟨by kernel_rfl⟩
instance:TyR Tryz.prog 219 rVal:=⟨by kernel_rfl⟩
instance:TyR Tryz.prog 220 rVal:=⟨by kernel_rfl⟩
instance:Und Tryz.prog 221 (.pointer 276):=⟨Tryz.underlying221⟩
instance:Zero Tryz.prog 221 (.pointer none):=⟨by kernel_rfl⟩
instance:Byt Tryz.prog 221 8:=⟨by kernel_rfl⟩
instance:TyR Tryz.prog 221 rVal:=⟨by kernel_rfl⟩
instance:TyR Tryz.prog 224 rVal:=⟨by kernel_rfl⟩
instance:TyR Tryz.prog 225 rVal:=⟨by kernel_rfl⟩
instance:TyR Tryz.prog 226 rVal:=⟨by kernel_rfl⟩
instance:TyR Tryz.prog 227 rVal:=⟨by kernel_rfl⟩
instance:TyR Tryz.prog 228 rVal:=⟨by kernel_rfl⟩
instance:TyR Tryz.prog 229 rVal:=⟨by kernel_rfl⟩
instance:Byt Tryz.prog 230 8:=⟨by kernel_rfl⟩
instance:TyR Tryz.prog 230 rVal:=⟨by kernel_rfl⟩
instance:TyR Tryz.prog 231 rVal:=⟨by kernel_rfl⟩
instance:Und Tryz.prog 233 (.int .i64):=⟨Tryz.underlying233⟩
instance:Zero Tryz.prog 233 (.int .i64 0):=⟨by kernel_rfl⟩
instance:Byt Tryz.prog 233 8:=⟨by kernel_rfl⟩
instance:TyR Tryz.prog 233 rI64:=⟨by kernel_rfl⟩
instance:TyR Tryz.prog 235 rVal:=⟨by kernel_rfl⟩
instance:TyR Tryz.prog 236 rVal:=⟨by kernel_rfl⟩
instance:TyR Tryz.prog 237 rVal:=⟨by kernel_rfl⟩
instance:TyR Tryz.prog 238 rVal:=⟨by kernel_rfl⟩
instance:Und Tryz.prog 240 (.int .u32):=⟨Tryz.underlying240⟩
instance:Zero Tryz.prog 240 (.int .u32 0):=⟨by kernel_rfl⟩
instance:Byt Tryz.prog 240 4:=⟨by kernel_rfl⟩
instance:TyR Tryz.prog 240 (rInt .u32):=⟨by kernel_rfl⟩
instance:TyR Tryz.prog 241 rVal:=⟨by kernel_rfl⟩
instance:Und Tryz.prog 242 (.int .u64):=⟨Tryz.underlying242⟩
instance:Zero Tryz.prog 242 (.int .u64 0):=⟨by kernel_rfl⟩
instance:Byt Tryz.prog 242 8:=⟨by kernel_rfl⟩
instance:TyR Tryz.prog 242 (rInt .u64):=⟨by kernel_rfl⟩
instance:TyR Tryz.prog 243 rVal:=⟨by kernel_rfl⟩
instance:TyR Tryz.prog 244 rVal:=⟨by kernel_rfl⟩
instance:TyR Tryz.prog 245 rVal:=⟨by kernel_rfl⟩
instance:TyR Tryz.prog 246 rVal:=⟨by kernel_rfl⟩
instance:TyR Tryz.prog 247 rVal:=⟨by kernel_rfl⟩
instance:TyR Tryz.prog 248 rVal:=⟨by kernel_rfl⟩
instance:TyR Tryz.prog 249 rVal:=⟨by kernel_rfl⟩
instance:TyR Tryz.prog 250 rVal:=⟨by kernel_rfl⟩
instance:TyR Tryz.prog 251 rVal:=⟨by kernel_rfl⟩
instance:TyR Tryz.prog 252 rVal:=⟨by kernel_rfl⟩
instance:TyR Tryz.prog 253 rVal:=⟨by kernel_rfl⟩
instance:TyR Tryz.prog 254 rVal:=⟨by kernel_rfl⟩
instance:TyR Tryz.prog 255 rVal:=⟨by kernel_rfl⟩
instance:TyR Tryz.prog 256 rVal:=⟨by kernel_rfl⟩
instance:TyR Tryz.prog 257 rVal:=⟨by kernel_rfl⟩
instance:TyR Tryz.prog 258 rVal:=⟨by kernel_rfl⟩
instance:TyR Tryz.prog 259 rVal:=⟨by kernel_rfl⟩
instance:TyR Tryz.prog 260 rVal:=⟨by kernel_rfl⟩
instance:Und Tryz.prog 261 (.slice 31):=⟨Tryz.underlying261⟩
instance:Zero Tryz.prog 261 (.slice none 0 0):=⟨by kernel_rfl⟩
instance:Byt Tryz.prog 261 24:=⟨by kernel_rfl⟩
instance:TyR Tryz.prog 261 (rSlice 8 rI64):=⟨by kernel_rfl⟩
instance:TyR Tryz.prog 262 rVal:=⟨by kernel_rfl⟩
instance:TyR Tryz.prog 263 rVal:=⟨by kernel_rfl⟩
instance:TyR Tryz.prog 264 rVal:=⟨by kernel_rfl⟩
instance:TyR Tryz.prog 265 rVal:=⟨by kernel_rfl⟩
instance:TyR Tryz.prog 266 rVal:=⟨by kernel_rfl⟩
instance:TyR Tryz.prog 267 rVal:=⟨by kernel_rfl⟩
instance:TyR Tryz.prog 268 rVal:=⟨by kernel_rfl⟩
instance:TyR Tryz.prog 269 rVal:=⟨by kernel_rfl⟩
instance:TyR Tryz.prog 270 rVal:=⟨by kernel_rfl⟩
instance:TyR Tryz.prog 271 rVal:=⟨by kernel_rfl⟩
instance:TyR Tryz.prog 272 rVal:=⟨by kernel_rfl⟩
instance:TyR Tryz.prog 273 rVal:=⟨by kernel_rfl⟩
instance:Und Tryz.prog 274 (.map 9 356):=⟨Tryz.underlying274⟩
instance:Zero Tryz.prog 274 (.map none):=⟨by kernel_rfl⟩
instance:Byt Tryz.prog 274 8:=⟨by kernel_rfl⟩
instance:TyR Tryz.prog 274 rVal:=⟨by kernel_rfl⟩
instance:FOff Tryz.prog 275 0 0:=⟨by kernel_rfl⟩
instance:FOff Tryz.prog 275 1 3:=⟨by kernel_rfl⟩
instance:FOff Tryz.prog 275 2 4:=⟨by kernel_rfl⟩
instance:FOff Tryz.prog 275 3 5:=⟨by kernel_rfl⟩
instance:Zero Tryz.prog 275 (.agg #[.slice none 0 0,.slice none 0 0,.slice none 0 0,.slice none 0 0,.slice none 0 0,.map none]):=⟨by kernel_rfl⟩
instance:ZF Tryz.prog 275 [.agg #[.slice none 0 0,.slice none 0 0,.slice none 0 0],.slice none 0 0,.slice none 0 0,.map none]:=⟨by kernel_rfl,by kernel_rfl⟩
instance:Byt Tryz.prog 275 128:=⟨by kernel_rfl⟩
instance:FOff Tryz.prog 276 0 0:=⟨by kernel_rfl⟩
instance:FOff Tryz.prog 276 1 3:=⟨by kernel_rfl⟩
instance:FOff Tryz.prog 276 2 4:=⟨by kernel_rfl⟩
instance:FOff Tryz.prog 276 3 5:=⟨by kernel_rfl⟩
instance:Zero Tryz.prog 276 (.agg #[.slice none 0 0,.slice none 0 0,.slice none 0 0,.slice none 0 0,.slice none 0 0,.map none]):=⟨by kernel_rfl⟩
instance:ZF Tryz.prog 276 [.agg #[.slice none 0 0,.slice none 0 0,.slice none 0 0],.slice none 0 0,.slice none 0 0,.map none]:=⟨by kernel_rfl,by kernel_rfl⟩
instance:Conc Tryz.prog 276:=⟨by kernel_rfl⟩
instance:Byt Tryz.prog 276 128:=⟨by kernel_rfl⟩
instance:TyR Tryz.prog 277 rVal:=⟨by kernel_rfl⟩
instance:Und Tryz.prog 278 (.int .i64):=⟨Tryz.underlying278⟩
instance:Zero Tryz.prog 278 (.int .i64 0):=⟨by kernel_rfl⟩
instance:Conc Tryz.prog 278:=⟨by kernel_rfl⟩
instance:Byt Tryz.prog 278 8:=⟨by kernel_rfl⟩
instance:TyR Tryz.prog 278 rI64:=⟨by kernel_rfl⟩
instance:Und Tryz.prog 279 (.int .i64):=⟨Tryz.underlying279⟩
instance:Zero Tryz.prog 279 (.int .i64 0):=⟨by kernel_rfl⟩
instance:Conc Tryz.prog 279:=⟨by kernel_rfl⟩
instance:Byt Tryz.prog 279 8:=⟨by kernel_rfl⟩
instance:TyR Tryz.prog 279 rI64:=⟨by kernel_rfl⟩
instance:Und Tryz.prog 280 (.int .i64):=⟨Tryz.underlying280⟩
instance:Zero Tryz.prog 280 (.int .i64 0):=⟨by kernel_rfl⟩
instance:Conc Tryz.prog 280:=⟨by kernel_rfl⟩
instance:Byt Tryz.prog 280 8:=⟨by kernel_rfl⟩
instance:TyR Tryz.prog 280 rI64:=⟨by kernel_rfl⟩
instance:TyR Tryz.prog 281 rVal:=⟨by kernel_rfl⟩
instance:TyR Tryz.prog 282 rVal:=⟨by kernel_rfl⟩
instance:Und Tryz.prog 283 (.int .u64):=⟨Tryz.underlying283⟩
instance:Zero Tryz.prog 283 (.int .u64 0):=⟨by kernel_rfl⟩
instance:Byt Tryz.prog 283 8:=⟨by kernel_rfl⟩
instance:TyR Tryz.prog 283 (rInt .u64):=⟨by kernel_rfl⟩
instance:TyR Tryz.prog 284 rVal:=⟨by kernel_rfl⟩
instance:TyR Tryz.prog 286 rVal:=⟨by kernel_rfl⟩
instance:Und Tryz.prog 287 (.pointer 3):=⟨Tryz.underlying287⟩
instance:Zero Tryz.prog 287 (.pointer none):=⟨by kernel_rfl⟩
instance:Byt Tryz.prog 287 8:=⟨by kernel_rfl⟩
instance:TyR Tryz.prog 287 rVal:=⟨by kernel_rfl⟩
instance:TyR Tryz.prog 288 rVal:=⟨by kernel_rfl⟩
instance:TyR Tryz.prog 289 rVal:=⟨by kernel_rfl⟩
instance:TyR Tryz.prog 290 rVal:=⟨by kernel_rfl⟩
instance:TyR Tryz.prog 291 rVal:=⟨by kernel_rfl⟩
instance:TyR Tryz.prog 292 rVal:=⟨by kernel_rfl⟩
instance:TyR Tryz.prog 293 rVal:=⟨by kernel_rfl⟩
instance:TyR Tryz.prog 295 rVal:=⟨by kernel_rfl⟩
instance:TyR Tryz.prog 297 rVal:=⟨by kernel_rfl⟩
instance:TyR Tryz.prog 298 rVal:=⟨by kernel_rfl⟩
instance:TyR Tryz.prog 299 rVal:=⟨by kernel_rfl⟩
instance:TyR Tryz.prog 300 rVal:=⟨by kernel_rfl⟩
instance:TyR Tryz.prog 301 rVal:=⟨by kernel_rfl⟩
instance:TyR Tryz.prog 302 rVal:=⟨by kernel_rfl⟩
instance:TyR Tryz.prog 303 rVal:=⟨by kernel_rfl⟩
instance:TyR Tryz.prog 304 rVal:=⟨by kernel_rfl⟩
instance:TyR Tryz.prog 305 rVal:=⟨by kernel_rfl⟩
instance:TyR Tryz.prog 306 rVal:=⟨by kernel_rfl⟩
instance:TyR Tryz.prog 307 rVal:=⟨by kernel_rfl⟩
instance:TyR Tryz.prog 308 rVal:=⟨by kernel_rfl⟩
instance:Byt Tryz.prog 309 16:=⟨by kernel_rfl⟩
instance:TyR Tryz.prog 309 rVal:=⟨by kernel_rfl⟩
instance:TyR Tryz.prog 310 rVal:=⟨by kernel_rfl⟩
instance:TyR Tryz.prog 311 rVal:=⟨by kernel_rfl⟩
instance:FOff Tryz.prog 312 0 0:=⟨by kernel_rfl⟩
instance:Zero Tryz.prog 312 (.agg #[.nilFunc]):=⟨by kernel_rfl⟩
instance:ZF Tryz.prog 312 [.nilFunc]:=⟨by kernel_rfl,by kernel_rfl⟩
instance:Byt Tryz.prog 312 8:=⟨by kernel_rfl⟩
instance:FOff Tryz.prog 313 0 0:=⟨by kernel_rfl⟩
instance:Zero Tryz.prog 313 (.agg #[.nilFunc]):=⟨by kernel_rfl⟩
instance:ZF Tryz.prog 313 [.nilFunc]:=⟨by kernel_rfl,by kernel_rfl⟩
instance:Conc Tryz.prog 313:=⟨by kernel_rfl⟩
instance:Byt Tryz.prog 313 8:=⟨by kernel_rfl⟩
instance:Und Tryz.prog 314 (.map 3 313):=⟨Tryz.underlying314⟩
instance:Zero Tryz.prog 314 (.map none):=⟨by kernel_rfl⟩
instance:Byt Tryz.prog 314 8:=⟨by kernel_rfl⟩
instance:TyR Tryz.prog 314 rVal:=⟨by kernel_rfl⟩
instance:TyR Tryz.prog 315 rVal:=⟨by kernel_rfl⟩
instance:TyR Tryz.prog 316 rVal:=⟨by kernel_rfl⟩
instance:TyR Tryz.prog 318 rVal:=⟨by kernel_rfl⟩
instance:Und Tryz.prog 319 (.pointer 283):=⟨Tryz.underlying319⟩
instance:Zero Tryz.prog 319 (.pointer none):=⟨by kernel_rfl⟩
instance:Byt Tryz.prog 319 8:=⟨by kernel_rfl⟩
instance:TyR Tryz.prog 319 rVal:=⟨by kernel_rfl⟩
instance:TyR Tryz.prog 321 rVal:=⟨by kernel_rfl⟩
instance:TyR Tryz.prog 322 rVal:=⟨by kernel_rfl⟩
instance:TyR Tryz.prog 323 rVal:=⟨by kernel_rfl⟩
instance:TyR Tryz.prog 324 rVal:=⟨by kernel_rfl⟩
instance:TyR Tryz.prog 325 rVal:=⟨by kernel_rfl⟩
instance:Und Tryz.prog 326 (.map 9 3):=⟨Tryz.underlying326⟩
instance:Zero Tryz.prog 326 (.map none):=⟨by kernel_rfl⟩
instance:Byt Tryz.prog 326 8:=⟨by kernel_rfl⟩
instance:TyR Tryz.prog 326 rVal:=⟨by kernel_rfl⟩
instance:TyR Tryz.prog 327 rVal:=⟨by kernel_rfl⟩
instance:TyR Tryz.prog 328 rVal:=⟨by kernel_rfl⟩
instance:Byt Tryz.prog 329 8:=⟨by kernel_rfl⟩
instance:TyR Tryz.prog 329 rVal:=⟨by kernel_rfl⟩
instance:TyR Tryz.prog 330 rVal:=⟨by kernel_rfl⟩
instance:TyR Tryz.prog 331 rVal:=⟨by kernel_rfl⟩
instance:TyR Tryz.prog 332 rVal:=⟨by kernel_rfl⟩
instance:TyR Tryz.prog 333 rVal:=⟨by kernel_rfl⟩
instance:TyR Tryz.prog 334 rVal:=⟨by kernel_rfl⟩
instance:TyR Tryz.prog 335 rVal:=⟨by kernel_rfl⟩
instance:TyR Tryz.prog 336 rVal:=⟨by kernel_rfl⟩
instance:TyR Tryz.prog 337 rVal:=⟨by kernel_rfl⟩
instance:TyR Tryz.prog 338 rVal:=⟨by kernel_rfl⟩
instance:TyR Tryz.prog 339 rVal:=⟨by kernel_rfl⟩
instance:TyR Tryz.prog 340 rVal:=⟨by kernel_rfl⟩
instance:TyR Tryz.prog 341 rVal:=⟨by kernel_rfl⟩
instance:TyR Tryz.prog 342 rVal:=⟨by kernel_rfl⟩
instance:TyR Tryz.prog 343 rVal:=⟨by kernel_rfl⟩
instance:TyR Tryz.prog 344 rVal:=⟨by kernel_rfl⟩
instance:TyR Tryz.prog 345 rVal:=⟨by kernel_rfl⟩
instance:TyR Tryz.prog 346 rVal:=⟨by kernel_rfl⟩
instance:TyR Tryz.prog 347 rVal:=⟨by kernel_rfl⟩
instance:TyR Tryz.prog 348 rVal:=⟨by kernel_rfl⟩
instance:TyR Tryz.prog 350 rVal:=⟨by kernel_rfl⟩
instance:TyR Tryz.prog 351 rVal:=⟨by kernel_rfl⟩
instance:TyR Tryz.prog 352 rVal:=⟨by kernel_rfl⟩
instance:TyR Tryz.prog 353 rVal:=⟨by kernel_rfl⟩
instance:TyR Tryz.prog 354 rVal:=⟨by kernel_rfl⟩
instance:TyR Tryz.prog 355 rVal:=⟨by kernel_rfl⟩
instance:Und Tryz.prog 356 (.slice 359):=⟨Tryz.underlying356⟩
instance:Zero Tryz.prog 356 (.slice none 0 0):=⟨by kernel_rfl⟩
instance:Byt Tryz.prog 356 24:=⟨by kernel_rfl⟩
instance:FOff Tryz.prog 358 0 0:=⟨by kernel_rfl⟩
instance:FOff Tryz.prog 358 1 1:=⟨by kernel_rfl⟩
instance:Zero Tryz.prog 358 (.agg #[.string ⟨#[]⟩,.bool false]):=⟨by kernel_rfl⟩
instance:ZF Tryz.prog 358 [.string ⟨#[]⟩,.bool false]:=⟨by kernel_rfl,by kernel_rfl⟩
instance:FlatS Tryz.prog 358 [.str,.bool]:=⟨by kernel_rfl,by kernel_rfl,by kernel_rfl⟩
instance:Byt Tryz.prog 358 24:=⟨by kernel_rfl⟩
instance:FOff Tryz.prog 359 0 0:=⟨by kernel_rfl⟩
instance:FOff Tryz.prog 359 1 1:=⟨by kernel_rfl⟩
instance:Zero Tryz.prog 359 (.agg #[.string ⟨#[]⟩,.bool false]):=⟨by kernel_rfl⟩
instance:ZF Tryz.prog 359 [.string ⟨#[]⟩,.bool false]:=⟨by kernel_rfl,by kernel_rfl⟩
instance:FlatS Tryz.prog 359 [.str,.bool]:=⟨by kernel_rfl,by kernel_rfl,by kernel_rfl⟩
instance:Conc Tryz.prog 359:=⟨by kernel_rfl⟩
instance:Byt Tryz.prog 359 24:=⟨by kernel_rfl⟩
instance:TyR Tryz.prog 362 rVal:=⟨by kernel_rfl⟩
instance:TyR Tryz.prog 363 rVal:=⟨by kernel_rfl⟩
instance:TyR Tryz.prog 364 rVal:=⟨by kernel_rfl⟩
instance:TyR Tryz.prog 365 rVal:=⟨by kernel_rfl⟩
instance:TyR Tryz.prog 366 rVal:=⟨by kernel_rfl⟩
instance:TyR Tryz.prog 367 rVal:=⟨by kernel_rfl⟩
instance:Zero Tryz.prog 370 (.agg #[.pointer none,.pointer none,.pointer none,.string ⟨#[]⟩]):=⟨by kernel_rfl⟩
instance:Zero Tryz.prog 371 (.agg #[.pointer none,.pointer none,.pointer none,.string ⟨#[]⟩]):=⟨by kernel_rfl⟩
instance:Und Tryz.prog 372 (.array 0 16):=⟨Tryz.underlying372⟩
instance:Zero Tryz.prog 372 (.agg #[]):=⟨by kernel_rfl⟩
instance:Byt Tryz.prog 372 0:=⟨by kernel_rfl⟩
instance:Zero Tryz.prog 373 (.agg #[]):=⟨by kernel_rfl⟩
instance:Zero Tryz.prog 374 (.agg #[]):=⟨by kernel_rfl⟩
instance:Und Tryz.prog 375 (.int .u8):=⟨Tryz.underlying375⟩
instance:Zero Tryz.prog 375 (.int .u8 0):=⟨by kernel_rfl⟩
instance:Byt Tryz.prog 375 1:=⟨by kernel_rfl⟩
instance:TyR Tryz.prog 375 (rInt .u8):=⟨by kernel_rfl⟩
instance:Und Tryz.prog 376 (.int .u8):=⟨Tryz.underlying376⟩
instance:Zero Tryz.prog 376 (.int .u8 0):=⟨by kernel_rfl⟩
instance:Byt Tryz.prog 376 1:=⟨by kernel_rfl⟩
instance:TyR Tryz.prog 376 (rInt .u8):=⟨by kernel_rfl⟩
instance:TyR Tryz.prog 377 rVal:=⟨by kernel_rfl⟩
instance:Und Tryz.prog 378 (.pointer 5):=⟨Tryz.underlying378⟩
instance:Zero Tryz.prog 378 (.pointer none):=⟨by kernel_rfl⟩
instance:Byt Tryz.prog 378 8:=⟨by kernel_rfl⟩
instance:TyR Tryz.prog 378 rVal:=⟨by kernel_rfl⟩
instance:Und Tryz.prog 379 (.int .i32):=⟨Tryz.underlying379⟩
instance:Zero Tryz.prog 379 (.int .i32 0):=⟨by kernel_rfl⟩
instance:Byt Tryz.prog 379 4:=⟨by kernel_rfl⟩
instance:TyR Tryz.prog 379 (rInt .i32):=⟨by kernel_rfl⟩
instance:Und Tryz.prog 380 (.int .i32):=⟨Tryz.underlying380⟩
instance:Zero Tryz.prog 380 (.int .i32 0):=⟨by kernel_rfl⟩
instance:Byt Tryz.prog 380 4:=⟨by kernel_rfl⟩
instance:TyR Tryz.prog 380 (rInt .i32):=⟨by kernel_rfl⟩
instance:Zero Tryz.prog 381 (.agg #[.int .u64 0,.int .u64 0,.int .u32 0,.int .u8 0,.int .u8 0,.int .u8 0,.int .u8 0,.nilFunc,.pointer none,.int .i32 0,.int .i32 0]):=⟨by kernel_rfl⟩
instance:Zero Tryz.prog 382 (.agg #[.int .u64 0,.int .u64 0,.int .u32 0,.int .u8 0,.int .u8 0,.int .u8 0,.int .u8 0,.nilFunc,.pointer none,.int .i32 0,.int .i32 0]):=⟨by kernel_rfl⟩
instance:Ent Tryz.prog 3:=⟨by kernel_rfl⟩
instance:Ent Tryz.prog 4:=⟨by kernel_rfl⟩
instance:Ent Tryz.prog 5:=⟨by kernel_rfl⟩
instance:Ent Tryz.prog 6:=⟨by kernel_rfl⟩
instance:Ent Tryz.prog 7:=⟨by kernel_rfl⟩
instance:Ent Tryz.prog 8:=⟨by kernel_rfl⟩
instance:Ent Tryz.prog 9:=⟨by kernel_rfl⟩
instance:Ent Tryz.prog 10:=⟨by kernel_rfl⟩
instance:Ent Tryz.prog 11:=⟨by kernel_rfl⟩
instance:Ent Tryz.prog 12:=⟨by kernel_rfl⟩
instance:Ent Tryz.prog 13:=⟨by kernel_rfl⟩
instance:Ent Tryz.prog 14:=⟨by kernel_rfl⟩
instance:Ent Tryz.prog 15:=⟨by kernel_rfl⟩
instance:Ent Tryz.prog 16:=⟨by kernel_rfl⟩
instance:Ent Tryz.prog 17:=⟨by kernel_rfl⟩
instance:Ent Tryz.prog 18:=⟨by kernel_rfl⟩
instance:Ent Tryz.prog 19:=⟨by kernel_rfl⟩
instance:Ent Tryz.prog 20:=⟨by kernel_rfl⟩
instance:Ent Tryz.prog 21:=⟨by kernel_rfl⟩
instance:Ent Tryz.prog 22:=⟨by kernel_rfl⟩
instance:Ent Tryz.prog 23:=⟨by kernel_rfl⟩
instance:Ent Tryz.prog 24:=⟨by kernel_rfl⟩
instance:Ent Tryz.prog 25:=⟨by kernel_rfl⟩
instance:Ent Tryz.prog 26:=⟨by kernel_rfl⟩
instance:Ent Tryz.prog 27:=⟨by kernel_rfl⟩
instance:Ent Tryz.prog 28:=⟨by kernel_rfl⟩
instance:Ent Tryz.prog 29:=⟨by kernel_rfl⟩
instance:Ent Tryz.prog 30:=⟨by kernel_rfl⟩
instance:Ent Tryz.prog 31:=⟨by kernel_rfl⟩
instance:Ent Tryz.prog 32:=⟨by kernel_rfl⟩
instance:Ent Tryz.prog 33:=⟨by kernel_rfl⟩
instance:Ent Tryz.prog 34:=⟨by kernel_rfl⟩
instance:Ent Tryz.prog 35:=⟨by kernel_rfl⟩
instance:Ent Tryz.prog 36:=⟨by kernel_rfl⟩
instance:Ent Tryz.prog 37:=⟨by kernel_rfl⟩
instance:Ent Tryz.prog 38:=⟨by kernel_rfl⟩
instance:Ent Tryz.prog 39:=⟨by kernel_rfl⟩
instance:Ent Tryz.prog 40:=⟨by kernel_rfl⟩
instance:Ent Tryz.prog 41:=⟨by kernel_rfl⟩
instance:Ent Tryz.prog 42:=⟨by kernel_rfl⟩
instance:Ent Tryz.prog 43:=⟨by kernel_rfl⟩
instance:Ent Tryz.prog 44:=⟨by kernel_rfl⟩
instance:Ent Tryz.prog 45:=⟨by kernel_rfl⟩
instance:Ent Tryz.prog 46:=⟨by kernel_rfl⟩
instance:Ent Tryz.prog 47:=⟨by kernel_rfl⟩
instance:Ent Tryz.prog 48:=⟨by kernel_rfl⟩
instance:Ent Tryz.prog 49:=⟨by kernel_rfl⟩
instance:Ent Tryz.prog 50:=⟨by kernel_rfl⟩
instance:Ent Tryz.prog 51:=⟨by kernel_rfl⟩
instance:Ent Tryz.prog 52:=⟨by kernel_rfl⟩
instance:Ent Tryz.prog 53:=⟨by kernel_rfl⟩
instance:Ent Tryz.prog 54:=⟨by kernel_rfl⟩
instance:Ent Tryz.prog 55:=⟨by kernel_rfl⟩
instance:Ent Tryz.prog 56:=⟨by kernel_rfl⟩
instance:Ent Tryz.prog 57:=⟨by kernel_rfl⟩
instance:Ent Tryz.prog 58:=⟨by kernel_rfl⟩
instance:Ent Tryz.prog 59:=⟨by kernel_rfl⟩
instance:Ent Tryz.prog 60:=⟨by kernel_rfl⟩
instance:Ent Tryz.prog 61:=⟨by kernel_rfl⟩
instance:Ent Tryz.prog 62:=⟨by kernel_rfl⟩
instance:Ent Tryz.prog 63:=⟨by kernel_rfl⟩
instance:Ent Tryz.prog 64:=⟨by kernel_rfl⟩
instance:Ent Tryz.prog 65:=⟨by kernel_rfl⟩
instance:Ent Tryz.prog 66:=⟨by kernel_rfl⟩
instance:Ent Tryz.prog 67:=⟨by kernel_rfl⟩
instance:Ent Tryz.prog 68:=⟨by kernel_rfl⟩
instance:Ent Tryz.prog 69:=⟨by kernel_rfl⟩
instance:Ent Tryz.prog 70:=⟨by kernel_rfl⟩
instance:Ent Tryz.prog 71:=⟨by kernel_rfl⟩
instance:Ent Tryz.prog 72:=⟨by kernel_rfl⟩
instance:Ent Tryz.prog 73:=⟨by kernel_rfl⟩
instance:Ent Tryz.prog 74:=⟨by kernel_rfl⟩
instance:Ent Tryz.prog 75:=⟨by kernel_rfl⟩
instance:Ent Tryz.prog 76:=⟨by kernel_rfl⟩
instance:Ent Tryz.prog 77:=⟨by kernel_rfl⟩
instance:Ent Tryz.prog 78:=⟨by kernel_rfl⟩
instance:Ent Tryz.prog 79:=⟨by kernel_rfl⟩
instance:Ent Tryz.prog 80:=⟨by kernel_rfl⟩
instance:Ent Tryz.prog 81:=⟨by kernel_rfl⟩
instance:Ent Tryz.prog 82:=⟨by kernel_rfl⟩
instance:Ent Tryz.prog 83:=⟨by kernel_rfl⟩
instance:Ent Tryz.prog 84:=⟨by kernel_rfl⟩
instance:Ent Tryz.prog 85:=⟨by kernel_rfl⟩
instance:Ent Tryz.prog 86:=⟨by kernel_rfl⟩
instance:Ent Tryz.prog 87:=⟨by kernel_rfl⟩
instance:Ent Tryz.prog 88:=⟨by kernel_rfl⟩
instance:Ent Tryz.prog 89:=⟨by kernel_rfl⟩
instance:Ent Tryz.prog 90:=⟨by kernel_rfl⟩
instance:Ent Tryz.prog 91:=⟨by kernel_rfl⟩
instance:Ent Tryz.prog 92:=⟨by kernel_rfl⟩
instance:Ent Tryz.prog 93:=⟨by kernel_rfl⟩
instance:Ent Tryz.prog 94:=⟨by kernel_rfl⟩
instance:Ent Tryz.prog 95:=⟨by kernel_rfl⟩
instance:Ent Tryz.prog 96:=⟨by kernel_rfl⟩
instance:Ent Tryz.prog 97:=⟨by kernel_rfl⟩
instance:Ent Tryz.prog 98:=⟨by kernel_rfl⟩
instance:Ent Tryz.prog 99:=⟨by kernel_rfl⟩
instance:Ent Tryz.prog 100:=⟨by kernel_rfl⟩
instance:Ent Tryz.prog 101:=⟨by kernel_rfl⟩
instance:Ent Tryz.prog 102:=⟨by kernel_rfl⟩
instance:Ent Tryz.prog 103:=⟨by kernel_rfl⟩
instance:Ent Tryz.prog 104:=⟨by kernel_rfl⟩
instance:Ent Tryz.prog 105:=⟨by kernel_rfl⟩
instance:Ent Tryz.prog 106:=⟨by kernel_rfl⟩
instance:Ent Tryz.prog 107:=⟨by kernel_rfl⟩
instance:Ent Tryz.prog 108:=⟨by kernel_rfl⟩
instance:Ent Tryz.prog 109:=⟨by kernel_rfl⟩
instance:Ent Tryz.prog 110:=⟨by kernel_rfl⟩
instance:Ent Tryz.prog 111:=⟨by kernel_rfl⟩
instance:Ent Tryz.prog 112:=⟨by kernel_rfl⟩
instance:Ent Tryz.prog 113:=⟨by kernel_rfl⟩
instance:Ent Tryz.prog 114:=⟨by kernel_rfl⟩
instance:Ent Tryz.prog 115:=⟨by kernel_rfl⟩
instance:Ent Tryz.prog 116:=⟨by kernel_rfl⟩
instance:Ent Tryz.prog 117:=⟨by kernel_rfl⟩
instance:Ent Tryz.prog 118:=⟨by kernel_rfl⟩
instance:Ent Tryz.prog 119:=⟨by kernel_rfl⟩
instance:Ent Tryz.prog 120:=⟨by kernel_rfl⟩
instance:Ent Tryz.prog 121:=⟨by kernel_rfl⟩
instance:Ent Tryz.prog 122:=⟨by kernel_rfl⟩
instance:Ent Tryz.prog 123:=⟨by kernel_rfl⟩
instance:Ent Tryz.prog 124:=⟨by kernel_rfl⟩
instance:Ent Tryz.prog 125:=⟨by kernel_rfl⟩
instance:Ent Tryz.prog 126:=⟨by kernel_rfl⟩
instance:Ent Tryz.prog 127:=⟨by kernel_rfl⟩
instance:Ent Tryz.prog 128:=⟨by kernel_rfl⟩
instance:Ent Tryz.prog 129:=⟨by kernel_rfl⟩
instance:Ent Tryz.prog 130:=⟨by kernel_rfl⟩
instance:Ent Tryz.prog 131:=⟨by kernel_rfl⟩
instance:Ent Tryz.prog 132:=⟨by kernel_rfl⟩
instance:Ent Tryz.prog 133:=⟨by kernel_rfl⟩
instance:Ent Tryz.prog 134:=⟨by kernel_rfl⟩
instance:Ent Tryz.prog 135:=⟨by kernel_rfl⟩
instance:Ent Tryz.prog 136:=⟨by kernel_rfl⟩
instance:Ent Tryz.prog 137:=⟨by kernel_rfl⟩
instance:Ent Tryz.prog 138:=⟨by kernel_rfl⟩
instance:Ent Tryz.prog 139:=⟨by kernel_rfl⟩
instance:Ent Tryz.prog 140:=⟨by kernel_rfl⟩
instance:Ent Tryz.prog 141:=⟨by kernel_rfl⟩
instance:Ent Tryz.prog 142:=⟨by kernel_rfl⟩
instance:Ent Tryz.prog 143:=⟨by kernel_rfl⟩
instance:Ent Tryz.prog 144:=⟨by kernel_rfl⟩
instance:Ent Tryz.prog 145:=⟨by kernel_rfl⟩
instance:Ent Tryz.prog 146:=⟨by kernel_rfl⟩
instance:Ent Tryz.prog 147:=⟨by kernel_rfl⟩
instance:Ent Tryz.prog 148:=⟨by kernel_rfl⟩
instance:Ent Tryz.prog 149:=⟨by kernel_rfl⟩
instance:Ent Tryz.prog 150:=⟨by kernel_rfl⟩
instance:Ent Tryz.prog 151:=⟨by kernel_rfl⟩
instance:Ent Tryz.prog 152:=⟨by kernel_rfl⟩
instance:Ent Tryz.prog 153:=⟨by kernel_rfl⟩
instance:Ent Tryz.prog 154:=⟨by kernel_rfl⟩
instance:Ent Tryz.prog 155:=⟨by kernel_rfl⟩
instance:Ent Tryz.prog 156:=⟨by kernel_rfl⟩
instance:Ent Tryz.prog 157:=⟨by kernel_rfl⟩
instance:Ent Tryz.prog 158:=⟨by kernel_rfl⟩
instance:Ent Tryz.prog 159:=⟨by kernel_rfl⟩
instance:Ent Tryz.prog 160:=⟨by kernel_rfl⟩
instance:Ent Tryz.prog 161:=⟨by kernel_rfl⟩
instance:Ent Tryz.prog 162:=⟨by kernel_rfl⟩
instance:Ent Tryz.prog 163:=⟨by kernel_rfl⟩
instance:Ent Tryz.prog 164:=⟨by kernel_rfl⟩
instance:Ent Tryz.prog 165:=⟨by kernel_rfl⟩
instance:Ent Tryz.prog 166:=⟨by kernel_rfl⟩
instance:Ent Tryz.prog 167:=⟨by kernel_rfl⟩
instance:Ent Tryz.prog 168:=⟨by kernel_rfl⟩
instance:Ent Tryz.prog 169:=⟨by kernel_rfl⟩
instance:Ent Tryz.prog 170:=⟨by kernel_rfl⟩
instance:Ent Tryz.prog 171:=⟨by kernel_rfl⟩
instance:Ent Tryz.prog 172:=⟨by kernel_rfl⟩
instance:Ent Tryz.prog 173:=⟨by kernel_rfl⟩
instance:Ent Tryz.prog 174:=⟨by kernel_rfl⟩
instance:Ent Tryz.prog 175:=⟨by kernel_rfl⟩
instance:Ent Tryz.prog 176:=⟨by kernel_rfl⟩
instance:Ent Tryz.prog 177:=⟨by kernel_rfl⟩
instance:Ent Tryz.prog 178:=⟨by kernel_rfl⟩
instance:Ent Tryz.prog 179:=⟨by kernel_rfl⟩
instance:Ent Tryz.prog 180:=⟨by kernel_rfl⟩
instance:Ent Tryz.prog 181:=⟨by kernel_rfl⟩
instance:Ent Tryz.prog 182:=⟨by kernel_rfl⟩
instance:Ent Tryz.prog 183:=⟨by kernel_rfl⟩
instance:Ent Tryz.prog 184:=⟨by kernel_rfl⟩
instance:Ent Tryz.prog 185:=⟨by kernel_rfl⟩
instance:Ent Tryz.prog 186:=⟨by kernel_rfl⟩
instance:Ent Tryz.prog 187:=⟨by kernel_rfl⟩
instance:Ent Tryz.prog 188:=⟨by kernel_rfl⟩
instance:Ent Tryz.prog 189:=⟨by kernel_rfl⟩
instance:Ent Tryz.prog 190:=⟨by kernel_rfl⟩
instance:Ent Tryz.prog 191:=⟨by kernel_rfl⟩
instance:Ent Tryz.prog 192:=⟨by kernel_rfl⟩
instance:Ent Tryz.prog 193:=⟨by kernel_rfl⟩
instance:Ent Tryz.prog 194:=⟨by kernel_rfl⟩
instance:Ent Tryz.prog 195:=⟨by kernel_rfl⟩
instance:Ent Tryz.prog 196:=⟨by kernel_rfl⟩
instance:Ent Tryz.prog 197:=⟨by kernel_rfl⟩
instance:Ent Tryz.prog 198:=⟨by kernel_rfl⟩
instance:Ent Tryz.prog 199:=⟨by kernel_rfl⟩
instance:Ent Tryz.prog 200:=⟨by kernel_rfl⟩
instance:Ent Tryz.prog 201:=⟨by kernel_rfl⟩
instance:Ent Tryz.prog 202:=⟨by kernel_rfl⟩
instance:Ent Tryz.prog 203:=⟨by kernel_rfl⟩
instance:Ent Tryz.prog 204:=⟨by kernel_rfl⟩
instance:Ent Tryz.prog 205:=⟨by kernel_rfl⟩
instance:Ent Tryz.prog 206:=⟨by kernel_rfl⟩
instance:Ent Tryz.prog 207:=⟨by kernel_rfl⟩
instance:Ent Tryz.prog 208:=⟨by kernel_rfl⟩
instance:Ent Tryz.prog 209:=⟨by kernel_rfl⟩
instance:Ent Tryz.prog 210:=⟨by kernel_rfl⟩
instance:Ent Tryz.prog 211:=⟨by kernel_rfl⟩
instance:Ent Tryz.prog 212:=⟨by kernel_rfl⟩
instance:Ent Tryz.prog 213:=⟨by kernel_rfl⟩
instance:Ent Tryz.prog 214:=⟨by kernel_rfl⟩
instance:Ent Tryz.prog 215:=⟨by kernel_rfl⟩
instance:Ent Tryz.prog 216:=⟨by kernel_rfl⟩
instance:Ent Tryz.prog 217:=⟨by kernel_rfl⟩
instance:Ent Tryz.prog 218:=⟨by kernel_rfl⟩
instance:Ent Tryz.prog 219:=⟨by kernel_rfl⟩
instance:Ent Tryz.prog 220:=⟨by kernel_rfl⟩
instance:Ent Tryz.prog 221:=⟨by kernel_rfl⟩
instance:Ent Tryz.prog 222:=⟨by kernel_rfl⟩
instance:Ent Tryz.prog 224:=⟨by kernel_rfl⟩
instance:Ent Tryz.prog 225:=⟨by kernel_rfl⟩
instance:Ent Tryz.prog 226:=⟨by kernel_rfl⟩
instance:Ent Tryz.prog 227:=⟨by kernel_rfl⟩
instance:Ent Tryz.prog 228:=⟨by kernel_rfl⟩
instance:Ent Tryz.prog 229:=⟨by kernel_rfl⟩
instance:Ent Tryz.prog 230:=⟨by kernel_rfl⟩
instance:Ent Tryz.prog 231:=⟨by kernel_rfl⟩
instance:Ent Tryz.prog 233:=⟨by kernel_rfl⟩
instance:Ent Tryz.prog 234:=⟨by kernel_rfl⟩
instance:Ent Tryz.prog 235:=⟨by kernel_rfl⟩
instance:Ent Tryz.prog 236:=⟨by kernel_rfl⟩
instance:Ent Tryz.prog 237:=⟨by kernel_rfl⟩
instance:Ent Tryz.prog 238:=⟨by kernel_rfl⟩
instance:Ent Tryz.prog 240:=⟨by kernel_rfl⟩
instance:Ent Tryz.prog 241:=⟨by kernel_rfl⟩
instance:Ent Tryz.prog 242:=⟨by kernel_rfl⟩
instance:Ent Tryz.prog 243:=⟨by kernel_rfl⟩
instance:Ent Tryz.prog 244:=⟨by kernel_rfl⟩
instance:Ent Tryz.prog 245:=⟨by kernel_rfl⟩
instance:Ent Tryz.prog 246:=⟨by kernel_rfl⟩
instance:Ent Tryz.prog 247:=⟨by kernel_rfl⟩
instance:Ent Tryz.prog 248:=⟨by kernel_rfl⟩
instance:Ent Tryz.prog 249:=⟨by kernel_rfl⟩
instance:Ent Tryz.prog 250:=⟨by kernel_rfl⟩
instance:Ent Tryz.prog 251:=⟨by kernel_rfl⟩
instance:Ent Tryz.prog 252:=⟨by kernel_rfl⟩
instance:Ent Tryz.prog 253:=⟨by kernel_rfl⟩
instance:Ent Tryz.prog 254:=⟨by kernel_rfl⟩
instance:Ent Tryz.prog 255:=⟨by kernel_rfl⟩
instance:Ent Tryz.prog 256:=⟨by kernel_rfl⟩
instance:Ent Tryz.prog 257:=⟨by kernel_rfl⟩
instance:Ent Tryz.prog 258:=⟨by kernel_rfl⟩
instance:Ent Tryz.prog 259:=⟨by kernel_rfl⟩
instance:Ent Tryz.prog 260:=⟨by kernel_rfl⟩
instance:Ent Tryz.prog 261:=⟨by kernel_rfl⟩
instance:Ent Tryz.prog 262:=⟨by kernel_rfl⟩
instance:Ent Tryz.prog 263:=⟨by kernel_rfl⟩
instance:Ent Tryz.prog 264:=⟨by kernel_rfl⟩
instance:Ent Tryz.prog 265:=⟨by kernel_rfl⟩
instance:Ent Tryz.prog 266:=⟨by kernel_rfl⟩
instance:Ent Tryz.prog 267:=⟨by kernel_rfl⟩
instance:Ent Tryz.prog 268:=⟨by kernel_rfl⟩
instance:Ent Tryz.prog 269:=⟨by kernel_rfl⟩
instance:Ent Tryz.prog 270:=⟨by kernel_rfl⟩
instance:Ent Tryz.prog 271:=⟨by kernel_rfl⟩
instance:Ent Tryz.prog 272:=⟨by kernel_rfl⟩
instance:Ent Tryz.prog 273:=⟨by kernel_rfl⟩
instance:Ent Tryz.prog 274:=⟨by kernel_rfl⟩
instance:Ent Tryz.prog 275:=⟨by kernel_rfl⟩
instance:Ent Tryz.prog 276:=⟨by kernel_rfl⟩
instance:Ent Tryz.prog 277:=⟨by kernel_rfl⟩
instance:Ent Tryz.prog 278:=⟨by kernel_rfl⟩
instance:Ent Tryz.prog 279:=⟨by kernel_rfl⟩
instance:Ent Tryz.prog 280:=⟨by kernel_rfl⟩
instance:Ent Tryz.prog 281:=⟨by kernel_rfl⟩
instance:Ent Tryz.prog 282:=⟨by kernel_rfl⟩
instance:Ent Tryz.prog 283:=⟨by kernel_rfl⟩
instance:Ent Tryz.prog 284:=⟨by kernel_rfl⟩
instance:Ent Tryz.prog 286:=⟨by kernel_rfl⟩
instance:Ent Tryz.prog 287:=⟨by kernel_rfl⟩
instance:Ent Tryz.prog 288:=⟨by kernel_rfl⟩
instance:Ent Tryz.prog 289:=⟨by kernel_rfl⟩
instance:Ent Tryz.prog 290:=⟨by kernel_rfl⟩
instance:Ent Tryz.prog 291:=⟨by kernel_rfl⟩
instance:Ent Tryz.prog 292:=⟨by kernel_rfl⟩
instance:Ent Tryz.prog 293:=⟨by kernel_rfl⟩
instance:Ent Tryz.prog 295:=⟨by kernel_rfl⟩
instance:Ent Tryz.prog 297:=⟨by kernel_rfl⟩
instance:Ent Tryz.prog 298:=⟨by kernel_rfl⟩
instance:Ent Tryz.prog 299:=⟨by kernel_rfl⟩
instance:Ent Tryz.prog 300:=⟨by kernel_rfl⟩
instance:Ent Tryz.prog 301:=⟨by kernel_rfl⟩
instance:Ent Tryz.prog 302:=⟨by kernel_rfl⟩
instance:Ent Tryz.prog 303:=⟨by kernel_rfl⟩
instance:Ent Tryz.prog 304:=⟨by kernel_rfl⟩
instance:Ent Tryz.prog 305:=⟨by kernel_rfl⟩
instance:Ent Tryz.prog 306:=⟨by kernel_rfl⟩
instance:Ent Tryz.prog 307:=⟨by kernel_rfl⟩
instance:Ent Tryz.prog 308:=⟨by kernel_rfl⟩
instance:Ent Tryz.prog 309:=⟨by kernel_rfl⟩
instance:Ent Tryz.prog 310:=⟨by kernel_rfl⟩
instance:Ent Tryz.prog 311:=⟨by kernel_rfl⟩
instance:Ent Tryz.prog 312:=⟨by kernel_rfl⟩
instance:Ent Tryz.prog 313:=⟨by kernel_rfl⟩
instance:Ent Tryz.prog 314:=⟨by kernel_rfl⟩
instance:Ent Tryz.prog 315:=⟨by kernel_rfl⟩
instance:Ent Tryz.prog 316:=⟨by kernel_rfl⟩
instance:Ent Tryz.prog 317:=⟨by kernel_rfl⟩
instance:Ent Tryz.prog 318:=⟨by kernel_rfl⟩
instance:Ent Tryz.prog 319:=⟨by kernel_rfl⟩
instance:Ent Tryz.prog 320:=⟨by kernel_rfl⟩
instance:Ent Tryz.prog 321:=⟨by kernel_rfl⟩
instance:Ent Tryz.prog 322:=⟨by kernel_rfl⟩
instance:Ent Tryz.prog 323:=⟨by kernel_rfl⟩
instance:Ent Tryz.prog 324:=⟨by kernel_rfl⟩
instance:Ent Tryz.prog 325:=⟨by kernel_rfl⟩
instance:Ent Tryz.prog 326:=⟨by kernel_rfl⟩
instance:Ent Tryz.prog 327:=⟨by kernel_rfl⟩
instance:Ent Tryz.prog 328:=⟨by kernel_rfl⟩
instance:Ent Tryz.prog 329:=⟨by kernel_rfl⟩
instance:Ent Tryz.prog 330:=⟨by kernel_rfl⟩
instance:Ent Tryz.prog 331:=⟨by kernel_rfl⟩
instance:Ent Tryz.prog 332:=⟨by kernel_rfl⟩
instance:Ent Tryz.prog 333:=⟨by kernel_rfl⟩
instance:Ent Tryz.prog 334:=⟨by kernel_rfl⟩
instance:Ent Tryz.prog 335:=⟨by kernel_rfl⟩
instance:Ent Tryz.prog 336:=⟨by kernel_rfl⟩
instance:Ent Tryz.prog 337:=⟨by kernel_rfl⟩
instance:Ent Tryz.prog 338:=⟨by kernel_rfl⟩
instance:Ent Tryz.prog 339:=⟨by kernel_rfl⟩
instance:Ent Tryz.prog 340:=⟨by kernel_rfl⟩
instance:Ent Tryz.prog 341:=⟨by kernel_rfl⟩
instance:Ent Tryz.prog 342:=⟨by kernel_rfl⟩
instance:Ent Tryz.prog 343:=⟨by kernel_rfl⟩
instance:Ent Tryz.prog 344:=⟨by kernel_rfl⟩
instance:Ent Tryz.prog 345:=⟨by kernel_rfl⟩
instance:Ent Tryz.prog 346:=⟨by kernel_rfl⟩
instance:Ent Tryz.prog 347:=⟨by kernel_rfl⟩
instance:Ent Tryz.prog 348:=⟨by kernel_rfl⟩
instance:Ent Tryz.prog 350:=⟨by kernel_rfl⟩
instance:Ent Tryz.prog 351:=⟨by kernel_rfl⟩
instance:Ent Tryz.prog 352:=⟨by kernel_rfl⟩
instance:Ent Tryz.prog 353:=⟨by kernel_rfl⟩
instance:Ent Tryz.prog 354:=⟨by kernel_rfl⟩
instance:Ent Tryz.prog 355:=⟨by kernel_rfl⟩
instance:Ent Tryz.prog 356:=⟨by kernel_rfl⟩
instance:Ent Tryz.prog 357:=⟨by kernel_rfl⟩
instance:Ent Tryz.prog 358:=⟨by kernel_rfl⟩
instance:Ent Tryz.prog 359:=⟨by kernel_rfl⟩
instance:Ent Tryz.prog 362:=⟨by kernel_rfl⟩
instance:Ent Tryz.prog 363:=⟨by kernel_rfl⟩
instance:Ent Tryz.prog 364:=⟨by kernel_rfl⟩
instance:Ent Tryz.prog 365:=⟨by kernel_rfl⟩
instance:Ent Tryz.prog 366:=⟨by kernel_rfl⟩
instance:Ent Tryz.prog 367:=⟨by kernel_rfl⟩
instance:Ent Tryz.prog 370:=⟨by kernel_rfl⟩
instance:Ent Tryz.prog 371:=⟨by kernel_rfl⟩
instance:Ent Tryz.prog 372:=⟨by kernel_rfl⟩
instance:Ent Tryz.prog 373:=⟨by kernel_rfl⟩
instance:Ent Tryz.prog 374:=⟨by kernel_rfl⟩
instance:Ent Tryz.prog 375:=⟨by kernel_rfl⟩
instance:Ent Tryz.prog 377:=⟨by kernel_rfl⟩
instance:Ent Tryz.prog 378:=⟨by kernel_rfl⟩
instance:Ent Tryz.prog 379:=⟨by kernel_rfl⟩
instance:Ent Tryz.prog 380:=⟨by kernel_rfl⟩
instance:Ent Tryz.prog 381:=⟨by kernel_rfl⟩
instance:Ent Tryz.prog 382:=⟨by kernel_rfl⟩
instance:Ent Tryz.prog 383:=⟨by kernel_rfl⟩
instance:Ent Tryz.prog 384:=⟨by kernel_rfl⟩
instance:Ent Tryz.prog 385:=⟨by kernel_rfl⟩
instance:Ent Tryz.prog 386:=⟨by kernel_rfl⟩
instance:Ent Tryz.prog 387:=⟨by kernel_rfl⟩
instance:Ent Tryz.prog 388:=⟨by kernel_rfl⟩
instance:Ent Tryz.prog 389:=⟨by kernel_rfl⟩
instance:Ent Tryz.prog 405:=⟨by kernel_rfl⟩
instance:Ent Tryz.prog 406:=⟨by kernel_rfl⟩
instance:Ent Tryz.prog 407:=⟨by kernel_rfl⟩
theorem Tryz_mixed:Tryz.prog.follows .mixedOrders=true:=by kernel_rfl
end Go.Dr
namespace Go.Dr
open Go.Proofs
set_option maxRecDepth 20000
set_option linter.unusedSimpArgs false
set_option linter.unusedVariables false
def idxF {α:Type} (p:α→Bool) (xs:List α):Int:=match xs.findIdx? p with|some i=>i|none=>-1
theorem idxF_nn {α:Type} (p:α→Bool) (xs:List α):decide (0≤idxF p xs)=xs.any p:=by
 unfold idxF
 cases h:xs.findIdx? p with
 | none=>
  have:=List.findIdx?_eq_none_iff.1 h
  have h2:xs.any p=false:=by
   rw [List.any_eq_false];intro x hx;simpa using this x hx
  rw [h2];rfl
 | some i=>
  have:xs.any p=true:=by
   rw [← List.findIdx?_isSome,h];rfl
  rw [this];simp
theorem idx_step {α:Type} {p:α→Bool} {xs:List α} {x:α} {k:Nat} (hd:xs.drop k=x::xs.drop (k+1)) (hp:p x=false)
  (hi:xs.findIdx? p=((xs.drop k).findIdx? p).map (·+k)):xs.findIdx? p=((xs.drop (k+1)).findIdx? p).map (·+(k+1)):=by
 rw [hi,hd,List.findIdx?_cons,hp]
 cases (xs.drop (k+1)).findIdx? p<;>simp<;>omega
theorem idx_hit {α:Type} {p:α→Bool} {xs:List α} {x:α} {k:Nat} (hd:xs.drop k=x::xs.drop (k+1)) (hp:p x=true)
  (hi:xs.findIdx? p=((xs.drop k).findIdx? p).map (·+k)):idxF p xs=(k:Int):=by
 unfold idxF
 rw [hi,hd,List.findIdx?_cons,hp];simp
theorem idx_miss {α:Type} {p:α→Bool} {xs:List α} {k:Nat} (hd:xs.drop k=[])
  (hi:xs.findIdx? p=((xs.drop k).findIdx? p).map (·+k)):idxF p xs=-1:=by
 unfold idxF
 rw [hi,hd];rfl
theorem p_IndexFunc_Label {S:SHeap} {v:Value} {xs:List Label} {f:FuncId} {fs cs:Array Value} (p:Label→Bool) (hv:(rSlice 32 rLabel).V S v xs) (hE:Ent Tryz.prog f)
  (hf:∀ S',S.le S'→∀ u x,rLabel.V S' u x→FnV Tryz.prog f (fs.toList++[u]++cs.toList).toArray S' (.bool (p x))):FnV Tryz.prog 353 #[v,.func (.func f) fs cs] S (.int .i64 (idxF p xs)):=by
 obtain ⟨a,c,rfl,_,_,hb,_⟩:=V_slice.1 hv
 unfold big at hb
 (refine Fn.enter (args:=[.slice a xs.length c,.func (.func f) fs cs]) Tryz.func353 rfl Tryz.ntmps353 rfl ?_;intro w0)
 repeat (first|(refine Walk ?_;intros)|refine JC.block ?_)
 refine JC.loop (σ:=SHeap × Nat) (fun q=>q.1) (fun _=>[]) (fun q=>[(0,.slice a xs.length c),(1,.func (.func f) fs cs),(7,.int .i64 xs.length),(8,.int .i64 q.2)]) (fun q=>S.le q.1∧q.2≤xs.length∧xs.findIdx? p=((xs.drop q.2).findIdx? p).map (·+q.2)) (fun q=>xs.length - q.2) (S,0) ⟨SHeap.le.refl _,Nat.zero_le _,by simp⟩ rfl rfl (by exact sba) ?_
 rintro ⟨S1,k⟩ ⟨hl1,hk,hi⟩
 dsimp only at hl1 hk hi ⊢
 repeat (first|(refine Walk ?_;intros)|refine JC.block ?_)
 refine JC.cond rfl (fun hc=>?_) (fun hc=>?_)
 ·have hk':=dlt hc
  obtain ⟨x,hx,hd⟩:=drop_at hk'
  repeat (first|(refine Walk ?_;intros)|refine JC.block ?_)
  (refine JO.eff rfl rfl rfl (JEff.dynV rfl (by assumption) rfl ((hf _ (by exact lea) _ x (by assumption))) rfl ?_);intro _ _)
  repeat (first|(refine Walk ?_;intros)|refine JC.block ?_)
  refine JC.cond rfl (fun h1=>?_) (fun h1=>?_)
  ·repeat (first|(refine Walk ?_;intros)|refine JC.block ?_)
   refine JX.ret1 Tryz.results353 (ResV.tmp rfl) (List.nil_sublist _) ?_
   exact ⟨rfl,by rw [idx_hit hd h1 hi]⟩
  ·repeat (first|(refine Walk ?_;intros)|refine JC.block ?_)
   exact JX.round (_,k+1) ⟨by exact lea,hk',idx_step hd h1 hi⟩ (by simp;omega) rfl rfl (by exact sba)
 ·have hk':=dnlt hc
  repeat (first|(refine Walk ?_;intros)|refine JC.block ?_)
  refine JX.ret1 Tryz.results353 (ResV.tmp rfl) (List.nil_sublist _) ?_
  exact ⟨rfl,by rw [idx_miss (List.drop_eq_nil_of_le hk') hi]⟩
theorem p_ContainsFunc_Label {S:SHeap} {v:Value} {xs:List Label} {f:FuncId} {fs cs:Array Value} (p:Label→Bool) (hv:(rSlice 32 rLabel).V S v xs) (hE:Ent Tryz.prog f)
  (hf:∀ S',S.le S'→∀ u x,rLabel.V S' u x→FnV Tryz.prog f (fs.toList++[u]++cs.toList).toArray S' (.bool (p x))):FnV Tryz.prog 363 #[v,.func (.func f) fs cs] S (.bool (xs.any p)):=by
 (refine Fn.enter (args:=[v,.func (.func f) fs cs]) Tryz.func363 rfl Tryz.ntmps363 rfl ?_;intro w0)
 repeat (first|(refine Walk ?_;intros)|refine JC.block ?_)
 (refine JO.eff rfl rfl rfl (JEff.callV rfl (p_IndexFunc_Label p (by exact vta) hE (fun S' h=>hf S' (by exact lea))) rfl ?_);intro _ _)
 repeat (first|(refine Walk ?_;intros)|refine JC.block ?_)
 refine JX.ret1 Tryz.results363 (ResV.tmp rfl) (List.nil_sublist _) ?_
 exact ⟨rfl,by rw [← idxF_nn]⟩
theorem p_IndexFunc_Node {S:SHeap} {v:Value} {xs:List Node} {f:FuncId} {fs cs:Array Value} (p:Node→Bool) (hv:(rSlice 112 rNode).V S v xs) (hE:Ent Tryz.prog f)
  (hf:∀ S',S.le S'→∀ u x,rNode.V S' u x→FnV Tryz.prog f (fs.toList++[u]++cs.toList).toArray S' (.bool (p x))):FnV Tryz.prog 201 #[v,.func (.func f) fs cs] S (.int .i64 (idxF p xs)):=by
 obtain ⟨a,c,rfl,_,_,hb,_⟩:=V_slice.1 hv
 unfold big at hb
 (refine Fn.enter (args:=[.slice a xs.length c,.func (.func f) fs cs]) Tryz.func201 rfl Tryz.ntmps201 rfl ?_;intro w0)
 repeat (first|(refine Walk ?_;intros)|refine JC.block ?_)
 refine JC.loop (σ:=SHeap × Nat) (fun q=>q.1) (fun _=>[]) (fun q=>[(0,.slice a xs.length c),(1,.func (.func f) fs cs),(7,.int .i64 xs.length),(8,.int .i64 q.2)]) (fun q=>S.le q.1∧q.2≤xs.length∧xs.findIdx? p=((xs.drop q.2).findIdx? p).map (·+q.2)) (fun q=>xs.length - q.2) (S,0) ⟨SHeap.le.refl _,Nat.zero_le _,by simp⟩ rfl rfl (by exact sba) ?_
 rintro ⟨S1,k⟩ ⟨hl1,hk,hi⟩
 dsimp only at hl1 hk hi ⊢
 repeat (first|(refine Walk ?_;intros)|refine JC.block ?_)
 refine JC.cond rfl (fun hc=>?_) (fun hc=>?_)
 ·have hk':=dlt hc
  obtain ⟨x,hx,hd⟩:=drop_at hk'
  repeat (first|(refine Walk ?_;intros)|refine JC.block ?_)
  (refine JO.eff rfl rfl rfl (JEff.dynV rfl (by assumption) rfl ((hf _ (by exact lea) _ x (by assumption))) rfl ?_);intro _ _)
  repeat (first|(refine Walk ?_;intros)|refine JC.block ?_)
  refine JC.cond rfl (fun h1=>?_) (fun h1=>?_)
  ·repeat (first|(refine Walk ?_;intros)|refine JC.block ?_)
   refine JX.ret1 Tryz.results201 (ResV.tmp rfl) (List.nil_sublist _) ?_
   exact ⟨rfl,by rw [idx_hit hd h1 hi]⟩
  ·repeat (first|(refine Walk ?_;intros)|refine JC.block ?_)
   exact JX.round (_,k+1) ⟨by exact lea,hk',idx_step hd h1 hi⟩ (by simp;omega) rfl rfl (by exact sba)
 ·have hk':=dnlt hc
  repeat (first|(refine Walk ?_;intros)|refine JC.block ?_)
  refine JX.ret1 Tryz.results201 (ResV.tmp rfl) (List.nil_sublist _) ?_
  exact ⟨rfl,by rw [idx_miss (List.drop_eq_nil_of_le hk') hi]⟩
theorem p_ContainsFunc_Node {S:SHeap} {v:Value} {xs:List Node} {f:FuncId} {fs cs:Array Value} (p:Node→Bool) (hv:(rSlice 112 rNode).V S v xs) (hE:Ent Tryz.prog f)
  (hf:∀ S',S.le S'→∀ u x,rNode.V S' u x→FnV Tryz.prog f (fs.toList++[u]++cs.toList).toArray S' (.bool (p x))):FnV Tryz.prog 130 #[v,.func (.func f) fs cs] S (.bool (xs.any p)):=by
 (refine Fn.enter (args:=[v,.func (.func f) fs cs]) Tryz.func130 rfl Tryz.ntmps130 rfl ?_;intro w0)
 repeat (first|(refine Walk ?_;intros)|refine JC.block ?_)
 (refine JO.eff rfl rfl rfl (JEff.callV rfl (p_IndexFunc_Node p (by exact vta) hE (fun S' h=>hf S' (by exact lea))) rfl ?_);intro _ _)
 repeat (first|(refine Walk ?_;intros)|refine JC.block ?_)
 refine JX.ret1 Tryz.results130 (ResV.tmp rfl) (List.nil_sublist _) ?_
 exact ⟨rfl,by rw [← idxF_nn]⟩
theorem p_IndexFunc_Pod {S:SHeap} {v:Value} {xs:List Pod} {f:FuncId} {fs cs:Array Value} (p:Pod→Bool) (hv:(rSlice 240 rPod).V S v xs) (hE:Ent Tryz.prog f)
  (hf:∀ S',S.le S'→∀ u x,rPod.V S' u x→FnV Tryz.prog f (fs.toList++[u]++cs.toList).toArray S' (.bool (p x))):FnV Tryz.prog 205 #[v,.func (.func f) fs cs] S (.int .i64 (idxF p xs)):=by
 obtain ⟨a,c,rfl,_,_,hb,_⟩:=V_slice.1 hv
 unfold big at hb
 (refine Fn.enter (args:=[.slice a xs.length c,.func (.func f) fs cs]) Tryz.func205 rfl Tryz.ntmps205 rfl ?_;intro w0)
 repeat (first|(refine Walk ?_;intros)|refine JC.block ?_)
 refine JC.loop (σ:=SHeap × Nat) (fun q=>q.1) (fun _=>[]) (fun q=>[(0,.slice a xs.length c),(1,.func (.func f) fs cs),(7,.int .i64 xs.length),(8,.int .i64 q.2)]) (fun q=>S.le q.1∧q.2≤xs.length∧xs.findIdx? p=((xs.drop q.2).findIdx? p).map (·+q.2)) (fun q=>xs.length - q.2) (S,0) ⟨SHeap.le.refl _,Nat.zero_le _,by simp⟩ rfl rfl (by exact sba) ?_
 rintro ⟨S1,k⟩ ⟨hl1,hk,hi⟩
 dsimp only at hl1 hk hi ⊢
 repeat (first|(refine Walk ?_;intros)|refine JC.block ?_)
 refine JC.cond rfl (fun hc=>?_) (fun hc=>?_)
 ·have hk':=dlt hc
  obtain ⟨x,hx,hd⟩:=drop_at hk'
  repeat (first|(refine Walk ?_;intros)|refine JC.block ?_)
  (refine JO.eff rfl rfl rfl (JEff.dynV rfl (by assumption) rfl ((hf _ (by exact lea) _ x (by assumption))) rfl ?_);intro _ _)
  repeat (first|(refine Walk ?_;intros)|refine JC.block ?_)
  refine JC.cond rfl (fun h1=>?_) (fun h1=>?_)
  ·repeat (first|(refine Walk ?_;intros)|refine JC.block ?_)
   refine JX.ret1 Tryz.results205 (ResV.tmp rfl) (List.nil_sublist _) ?_
   exact ⟨rfl,by rw [idx_hit hd h1 hi]⟩
  ·repeat (first|(refine Walk ?_;intros)|refine JC.block ?_)
   exact JX.round (_,k+1) ⟨by exact lea,hk',idx_step hd h1 hi⟩ (by simp;omega) rfl rfl (by exact sba)
 ·have hk':=dnlt hc
  repeat (first|(refine Walk ?_;intros)|refine JC.block ?_)
  refine JX.ret1 Tryz.results205 (ResV.tmp rfl) (List.nil_sublist _) ?_
  exact ⟨rfl,by rw [idx_miss (List.drop_eq_nil_of_le hk') hi]⟩
theorem p_ContainsFunc_Pod {S:SHeap} {v:Value} {xs:List Pod} {f:FuncId} {fs cs:Array Value} (p:Pod→Bool) (hv:(rSlice 240 rPod).V S v xs) (hE:Ent Tryz.prog f)
  (hf:∀ S',S.le S'→∀ u x,rPod.V S' u x→FnV Tryz.prog f (fs.toList++[u]++cs.toList).toArray S' (.bool (p x))):FnV Tryz.prog 136 #[v,.func (.func f) fs cs] S (.bool (xs.any p)):=by
 (refine Fn.enter (args:=[v,.func (.func f) fs cs]) Tryz.func136 rfl Tryz.ntmps136 rfl ?_;intro w0)
 repeat (first|(refine Walk ?_;intros)|refine JC.block ?_)
 (refine JO.eff rfl rfl rfl (JEff.callV rfl (p_IndexFunc_Pod p (by exact vta) hE (fun S' h=>hf S' (by exact lea))) rfl ?_);intro _ _)
 repeat (first|(refine Walk ?_;intros)|refine JC.block ?_)
 refine JX.ret1 Tryz.results136 (ResV.tmp rfl) (List.nil_sublist _) ?_
 exact ⟨rfl,by rw [← idxF_nn]⟩
theorem p_IndexFunc_Owner {S:SHeap} {v:Value} {xs:List Owner} {f:FuncId} {fs cs:Array Value} (p:Owner→Bool) (hv:(rSlice 56 rOwner).V S v xs) (hE:Ent Tryz.prog f)
  (hf:∀ S',S.le S'→∀ u x,rOwner.V S' u x→FnV Tryz.prog f (fs.toList++[u]++cs.toList).toArray S' (.bool (p x))):FnV Tryz.prog 204 #[v,.func (.func f) fs cs] S (.int .i64 (idxF p xs)):=by
 obtain ⟨a,c,rfl,_,_,hb,_⟩:=V_slice.1 hv
 unfold big at hb
 (refine Fn.enter (args:=[.slice a xs.length c,.func (.func f) fs cs]) Tryz.func204 rfl Tryz.ntmps204 rfl ?_;intro w0)
 repeat (first|(refine Walk ?_;intros)|refine JC.block ?_)
 refine JC.loop (σ:=SHeap × Nat) (fun q=>q.1) (fun _=>[]) (fun q=>[(0,.slice a xs.length c),(1,.func (.func f) fs cs),(7,.int .i64 xs.length),(8,.int .i64 q.2)]) (fun q=>S.le q.1∧q.2≤xs.length∧xs.findIdx? p=((xs.drop q.2).findIdx? p).map (·+q.2)) (fun q=>xs.length - q.2) (S,0) ⟨SHeap.le.refl _,Nat.zero_le _,by simp⟩ rfl rfl (by exact sba) ?_
 rintro ⟨S1,k⟩ ⟨hl1,hk,hi⟩
 dsimp only at hl1 hk hi ⊢
 repeat (first|(refine Walk ?_;intros)|refine JC.block ?_)
 refine JC.cond rfl (fun hc=>?_) (fun hc=>?_)
 ·have hk':=dlt hc
  obtain ⟨x,hx,hd⟩:=drop_at hk'
  repeat (first|(refine Walk ?_;intros)|refine JC.block ?_)
  (refine JO.eff rfl rfl rfl (JEff.dynV rfl (by assumption) rfl ((hf _ (by exact lea) _ x (by assumption))) rfl ?_);intro _ _)
  repeat (first|(refine Walk ?_;intros)|refine JC.block ?_)
  refine JC.cond rfl (fun h1=>?_) (fun h1=>?_)
  ·repeat (first|(refine Walk ?_;intros)|refine JC.block ?_)
   refine JX.ret1 Tryz.results204 (ResV.tmp rfl) (List.nil_sublist _) ?_
   exact ⟨rfl,by rw [idx_hit hd h1 hi]⟩
  ·repeat (first|(refine Walk ?_;intros)|refine JC.block ?_)
   exact JX.round (_,k+1) ⟨by exact lea,hk',idx_step hd h1 hi⟩ (by simp;omega) rfl rfl (by exact sba)
 ·have hk':=dnlt hc
  repeat (first|(refine Walk ?_;intros)|refine JC.block ?_)
  refine JX.ret1 Tryz.results204 (ResV.tmp rfl) (List.nil_sublist _) ?_
  exact ⟨rfl,by rw [idx_miss (List.drop_eq_nil_of_le hk') hi]⟩
theorem p_ContainsFunc_Owner {S:SHeap} {v:Value} {xs:List Owner} {f:FuncId} {fs cs:Array Value} (p:Owner→Bool) (hv:(rSlice 56 rOwner).V S v xs) (hE:Ent Tryz.prog f)
  (hf:∀ S',S.le S'→∀ u x,rOwner.V S' u x→FnV Tryz.prog f (fs.toList++[u]++cs.toList).toArray S' (.bool (p x))):FnV Tryz.prog 133 #[v,.func (.func f) fs cs] S (.bool (xs.any p)):=by
 (refine Fn.enter (args:=[v,.func (.func f) fs cs]) Tryz.func133 rfl Tryz.ntmps133 rfl ?_;intro w0)
 repeat (first|(refine Walk ?_;intros)|refine JC.block ?_)
 (refine JO.eff rfl rfl rfl (JEff.callV rfl (p_IndexFunc_Owner p (by exact vta) hE (fun S' h=>hf S' (by exact lea))) rfl ?_);intro _ _)
 repeat (first|(refine Walk ?_;intros)|refine JC.block ?_)
 refine JX.ret1 Tryz.results133 (ResV.tmp rfl) (List.nil_sublist _) ?_
 exact ⟨rfl,by rw [← idxF_nn]⟩
theorem p_IndexFunc_int {S:SHeap} {v:Value} {xs:List Int} {f:FuncId} {fs cs:Array Value} (p:Int→Bool) (hv:(rSlice 8 rI64).V S v xs) (hE:Ent Tryz.prog f)
  (hf:∀ S',S.le S'→∀ u x,rI64.V S' u x→FnV Tryz.prog f (fs.toList++[u]++cs.toList).toArray S' (.bool (p x))):FnV Tryz.prog 145 #[v,.func (.func f) fs cs] S (.int .i64 (idxF p xs)):=by
 obtain ⟨a,c,rfl,_,_,hb,_⟩:=V_slice.1 hv
 unfold big at hb
 (refine Fn.enter (args:=[.slice a xs.length c,.func (.func f) fs cs]) Tryz.func145 rfl Tryz.ntmps145 rfl ?_;intro w0)
 repeat (first|(refine Walk ?_;intros)|refine JC.block ?_)
 refine JC.loop (σ:=SHeap × Nat) (fun q=>q.1) (fun _=>[]) (fun q=>[(0,.slice a xs.length c),(1,.func (.func f) fs cs),(7,.int .i64 xs.length),(8,.int .i64 q.2)]) (fun q=>S.le q.1∧q.2≤xs.length∧xs.findIdx? p=((xs.drop q.2).findIdx? p).map (·+q.2)) (fun q=>xs.length - q.2) (S,0) ⟨SHeap.le.refl _,Nat.zero_le _,by simp⟩ rfl rfl (by exact sba) ?_
 rintro ⟨S1,k⟩ ⟨hl1,hk,hi⟩
 dsimp only at hl1 hk hi ⊢
 repeat (first|(refine Walk ?_;intros)|refine JC.block ?_)
 refine JC.cond rfl (fun hc=>?_) (fun hc=>?_)
 ·have hk':=dlt hc
  obtain ⟨x,hx,hd⟩:=drop_at hk'
  repeat (first|(refine Walk ?_;intros)|refine JC.block ?_)
  (refine JO.eff rfl rfl rfl (JEff.dynV rfl (by assumption) rfl ((hf _ (by exact lea) _ x (V_i64.2 ⟨rfl,by assumption⟩))) rfl ?_);intro _ _)
  repeat (first|(refine Walk ?_;intros)|refine JC.block ?_)
  refine JC.cond rfl (fun h1=>?_) (fun h1=>?_)
  ·repeat (first|(refine Walk ?_;intros)|refine JC.block ?_)
   refine JX.ret1 Tryz.results145 (ResV.tmp rfl) (List.nil_sublist _) ?_
   exact ⟨rfl,by rw [idx_hit hd h1 hi]⟩
  ·repeat (first|(refine Walk ?_;intros)|refine JC.block ?_)
   exact JX.round (_,k+1) ⟨by exact lea,hk',idx_step hd h1 hi⟩ (by simp;omega) rfl rfl (by exact sba)
 ·have hk':=dnlt hc
  repeat (first|(refine Walk ?_;intros)|refine JC.block ?_)
  refine JX.ret1 Tryz.results145 (ResV.tmp rfl) (List.nil_sublist _) ?_
  exact ⟨rfl,by rw [idx_miss (List.drop_eq_nil_of_le hk') hi]⟩
theorem p_ContainsFunc_int {S:SHeap} {v:Value} {xs:List Int} {f:FuncId} {fs cs:Array Value} (p:Int→Bool) (hv:(rSlice 8 rI64).V S v xs) (hE:Ent Tryz.prog f)
  (hf:∀ S',S.le S'→∀ u x,rI64.V S' u x→FnV Tryz.prog f (fs.toList++[u]++cs.toList).toArray S' (.bool (p x))):FnV Tryz.prog 63 #[v,.func (.func f) fs cs] S (.bool (xs.any p)):=by
 (refine Fn.enter (args:=[v,.func (.func f) fs cs]) Tryz.func63 rfl Tryz.ntmps63 rfl ?_;intro w0)
 repeat (first|(refine Walk ?_;intros)|refine JC.block ?_)
 (refine JO.eff rfl rfl rfl (JEff.callV rfl (p_IndexFunc_int p (by exact vta) hE (fun S' h=>hf S' (by exact lea))) rfl ?_);intro _ _)
 repeat (first|(refine Walk ?_;intros)|refine JC.block ?_)
 refine JX.ret1 Tryz.results63 (ResV.tmp rfl) (List.nil_sublist _) ?_
 exact ⟨rfl,by rw [← idxF_nn]⟩
theorem p_IndexFunc_string {S:SHeap} {v:Value} {xs:List ByteArray} {f:FuncId} {fs cs:Array Value} (p:ByteArray→Bool) (hv:(rSlice 16 rStr).V S v xs) (hE:Ent Tryz.prog f)
  (hf:∀ S',S.le S'→∀ u x,rStr.V S' u x→FnV Tryz.prog f (fs.toList++[u]++cs.toList).toArray S' (.bool (p x))):FnV Tryz.prog 263 #[v,.func (.func f) fs cs] S (.int .i64 (idxF p xs)):=by
 obtain ⟨a,c,rfl,_,_,hb,_⟩:=V_slice.1 hv
 unfold big at hb
 (refine Fn.enter (args:=[.slice a xs.length c,.func (.func f) fs cs]) Tryz.func263 rfl Tryz.ntmps263 rfl ?_;intro w0)
 repeat (first|(refine Walk ?_;intros)|refine JC.block ?_)
 refine JC.loop (σ:=SHeap × Nat) (fun q=>q.1) (fun _=>[]) (fun q=>[(0,.slice a xs.length c),(1,.func (.func f) fs cs),(7,.int .i64 xs.length),(8,.int .i64 q.2)]) (fun q=>S.le q.1∧q.2≤xs.length∧xs.findIdx? p=((xs.drop q.2).findIdx? p).map (·+q.2)) (fun q=>xs.length - q.2) (S,0) ⟨SHeap.le.refl _,Nat.zero_le _,by simp⟩ rfl rfl (by exact sba) ?_
 rintro ⟨S1,k⟩ ⟨hl1,hk,hi⟩
 dsimp only at hl1 hk hi ⊢
 repeat (first|(refine Walk ?_;intros)|refine JC.block ?_)
 refine JC.cond rfl (fun hc=>?_) (fun hc=>?_)
 ·have hk':=dlt hc
  obtain ⟨x,hx,hd⟩:=drop_at hk'
  repeat (first|(refine Walk ?_;intros)|refine JC.block ?_)
  (refine JO.eff rfl rfl rfl (JEff.dynV rfl (by assumption) rfl ((hf _ (by exact lea) _ x (V_str.2 ⟨rfl,by assumption⟩))) rfl ?_);intro _ _)
  repeat (first|(refine Walk ?_;intros)|refine JC.block ?_)
  refine JC.cond rfl (fun h1=>?_) (fun h1=>?_)
  ·repeat (first|(refine Walk ?_;intros)|refine JC.block ?_)
   refine JX.ret1 Tryz.results263 (ResV.tmp rfl) (List.nil_sublist _) ?_
   exact ⟨rfl,by rw [idx_hit hd h1 hi]⟩
  ·repeat (first|(refine Walk ?_;intros)|refine JC.block ?_)
   exact JX.round (_,k+1) ⟨by exact lea,hk',idx_step hd h1 hi⟩ (by simp;omega) rfl rfl (by exact sba)
 ·have hk':=dnlt hc
  repeat (first|(refine Walk ?_;intros)|refine JC.block ?_)
  refine JX.ret1 Tryz.results263 (ResV.tmp rfl) (List.nil_sublist _) ?_
  exact ⟨rfl,by rw [idx_miss (List.drop_eq_nil_of_le hk') hi]⟩
theorem p_ContainsFunc_string {S:SHeap} {v:Value} {xs:List ByteArray} {f:FuncId} {fs cs:Array Value} (p:ByteArray→Bool) (hv:(rSlice 16 rStr).V S v xs) (hE:Ent Tryz.prog f)
  (hf:∀ S',S.le S'→∀ u x,rStr.V S' u x→FnV Tryz.prog f (fs.toList++[u]++cs.toList).toArray S' (.bool (p x))):FnV Tryz.prog 190 #[v,.func (.func f) fs cs] S (.bool (xs.any p)):=by
 (refine Fn.enter (args:=[v,.func (.func f) fs cs]) Tryz.func190 rfl Tryz.ntmps190 rfl ?_;intro w0)
 repeat (first|(refine Walk ?_;intros)|refine JC.block ?_)
 (refine JO.eff rfl rfl rfl (JEff.callV rfl (p_IndexFunc_string p (by exact vta) hE (fun S' h=>hf S' (by exact lea))) rfl ?_);intro _ _)
 repeat (first|(refine Walk ?_;intros)|refine JC.block ?_)
 refine JX.ret1 Tryz.results190 (ResV.tmp rfl) (List.nil_sublist _) ?_
 exact ⟨rfl,by rw [← idxF_nn]⟩
theorem p_IndexFunc_Errno {S:SHeap} {v:Value} {xs:List Int} {f:FuncId} {fs cs:Array Value} (p:Int→Bool) (hv:(rSlice 8 rI64).V S v xs) (hE:Ent Tryz.prog f)
  (hf:∀ S',S.le S'→∀ u x,rI64.V S' u x→FnV Tryz.prog f (fs.toList++[u]++cs.toList).toArray S' (.bool (p x))):FnV Tryz.prog 275 #[v,.func (.func f) fs cs] S (.int .i64 (idxF p xs)):=by
 obtain ⟨a,c,rfl,_,_,hb,_⟩:=V_slice.1 hv
 unfold big at hb
 (refine Fn.enter (args:=[.slice a xs.length c,.func (.func f) fs cs]) Tryz.func275 rfl Tryz.ntmps275 rfl ?_;intro w0)
 repeat (first|(refine Walk ?_;intros)|refine JC.block ?_)
 refine JC.loop (σ:=SHeap × Nat) (fun q=>q.1) (fun _=>[]) (fun q=>[(0,.slice a xs.length c),(1,.func (.func f) fs cs),(7,.int .i64 xs.length),(8,.int .i64 q.2)]) (fun q=>S.le q.1∧q.2≤xs.length∧xs.findIdx? p=((xs.drop q.2).findIdx? p).map (·+q.2)) (fun q=>xs.length - q.2) (S,0) ⟨SHeap.le.refl _,Nat.zero_le _,by simp⟩ rfl rfl (by exact sba) ?_
 rintro ⟨S1,k⟩ ⟨hl1,hk,hi⟩
 dsimp only at hl1 hk hi ⊢
 repeat (first|(refine Walk ?_;intros)|refine JC.block ?_)
 refine JC.cond rfl (fun hc=>?_) (fun hc=>?_)
 ·have hk':=dlt hc
  obtain ⟨x,hx,hd⟩:=drop_at hk'
  repeat (first|(refine Walk ?_;intros)|refine JC.block ?_)
  (refine JO.eff rfl rfl rfl (JEff.dynV rfl (by assumption) rfl ((hf _ (by exact lea) _ x (V_i64.2 ⟨rfl,by assumption⟩))) rfl ?_);intro _ _)
  repeat (first|(refine Walk ?_;intros)|refine JC.block ?_)
  refine JC.cond rfl (fun h1=>?_) (fun h1=>?_)
  ·repeat (first|(refine Walk ?_;intros)|refine JC.block ?_)
   refine JX.ret1 Tryz.results275 (ResV.tmp rfl) (List.nil_sublist _) ?_
   exact ⟨rfl,by rw [idx_hit hd h1 hi]⟩
  ·repeat (first|(refine Walk ?_;intros)|refine JC.block ?_)
   exact JX.round (_,k+1) ⟨by exact lea,hk',idx_step hd h1 hi⟩ (by simp;omega) rfl rfl (by exact sba)
 ·have hk':=dnlt hc
  repeat (first|(refine Walk ?_;intros)|refine JC.block ?_)
  refine JX.ret1 Tryz.results275 (ResV.tmp rfl) (List.nil_sublist _) ?_
  exact ⟨rfl,by rw [idx_miss (List.drop_eq_nil_of_le hk') hi]⟩
theorem p_ContainsFunc_Errno {S:SHeap} {v:Value} {xs:List Int} {f:FuncId} {fs cs:Array Value} (p:Int→Bool) (hv:(rSlice 8 rI64).V S v xs) (hE:Ent Tryz.prog f)
  (hf:∀ S',S.le S'→∀ u x,rI64.V S' u x→FnV Tryz.prog f (fs.toList++[u]++cs.toList).toArray S' (.bool (p x))):FnV Tryz.prog 213 #[v,.func (.func f) fs cs] S (.bool (xs.any p)):=by
 (refine Fn.enter (args:=[v,.func (.func f) fs cs]) Tryz.func213 rfl Tryz.ntmps213 rfl ?_;intro w0)
 repeat (first|(refine Walk ?_;intros)|refine JC.block ?_)
 (refine JO.eff rfl rfl rfl (JEff.callV rfl (p_IndexFunc_Errno p (by exact vta) hE (fun S' h=>hf S' (by exact lea))) rfl ?_);intro _ _)
 repeat (first|(refine Walk ?_;intros)|refine JC.block ?_)
 refine JX.ret1 Tryz.results213 (ResV.tmp rfl) (List.nil_sublist _) ?_
 exact ⟨rfl,by rw [← idxF_nn]⟩
end Go.Dr
namespace Go.Dr
def riseN:Option ByteArray→List ByteArray→Bool
 | _,[]=>true
 | p,s::r=>nameB s&&(match p with|some a=>ltS a s|none=>true)&&riseN (some s) r
def z0 (x:Int):Bool:=decide (x=0)
def nodeB (n:Node):Bool:=z0 (checkV n.cap)&&z0 (checkL false n.labels)&&z0 (checkL false n.taints)
def nearB (n:Near):Bool:=if n.topo=noS then decide (n.terms.length=0) else nameB n.topo&&z0 (checkT n.terms)
def idxS (l:List ByteArray) (name:ByteArray):Int:=idxF (fun x=>decide (x=name)) l
def nNames (s:Snap):List ByteArray:=s.nodes.map Node.name
def pNames (s:Snap):List ByteArray:=s.pods.map Pod.name
def oNames (s:Snap):List ByteArray:=s.owners.map Owner.name
def lostAt (s:Snap) (i:Int):Bool:=match s.nodes[i.toNat]? with|some n=>n.lost|none=>false
def podB (s:Snap) (p:Pod):Bool:=
 (decide (p.owner=noS)||decide (0≤idxS (oNames s) p.owner))&&(decide (p.on=noS)||(decide (0≤idxS (nNames s) p.on)&&!lostAt s (idxS (nNames s) p.on))) &&
  (z0 (checkV p.req)&&z0 (checkL false p.labels)&&z0 (checkT p.wher)&&z0 (checkL true p.bears))&&nearB p.with_&&nearB p.apart
def ownerB (o:Owner):Bool:=
 (if o.topo=noS then decide (o.skew=0) else nameB o.topo&&decide (1≤o.skew)&&decide (o.skew≤24))&&decide (0≤o.min)&&decide (o.min≤24)
def manyB (s:Snap):Bool:=decide ((8:Int) < (s.nodes.length:Int))||decide ((24:Int) < (s.pods.length:Int))||decide ((8:Int) < (s.owners.length:Int))
def shapedB (s:Snap):Bool:=
 !manyB s&&(riseN none (nNames s)&&riseN none (pNames s)&&riseN none (oNames s))&&(s.nodes.all nodeB&&s.pods.all (podB s)&&s.owners.all ownerB)
def caps (s:Snap):List (List Int):=s.nodes.map Node.cap
def reqs (s:Snap):List (List Int):=s.pods.map Pod.req
def checkS (s:Snap):Int:=if shapedB s then (if z0 (plusV (caps s)).2&&z0 (plusV (reqs s)).2 then 0 else 10) else 50
theorem idxS_map {α:Type} (f:α→ByteArray) (l:List α) (name:ByteArray):idxS (l.map f) name=idxF (fun x=>decide (f x=name)) l:=by
 unfold idxS idxF
 rw [List.findIdx?_map]
 rfl
theorem idxF_lt {α:Type} (p:α→Bool) (l:List α):idxF p l < l.length:=by
 unfold idxF
 cases h:l.findIdx? p with
 | none=>simp;omega
 | some i=>have:=(List.findIdx?_eq_some_iff_getElem.1 h).1;simp only [];omega
theorem idxF_ge {α:Type} (p:α→Bool) (l:List α):-1≤idxF p l:=by
 unfold idxF
 cases h:l.findIdx? p<;>simp only []<;>omega
end Go.Dr
namespace Go.Dr
def oddP (s:Snap) (n:Int):Bool:=decide (n < -1)||decide ((s.nodes.length:Int)≤n)||(decide (0≤n)&&lostAt s n)
def checkP (s:Snap) (p:List Int):Int:=if !z0 (checkS s) then checkS s else if !decide (p.length=s.pods.length)||p.any (oddP s) then 2 else 0
def valB (n:Node) (key:ByteArray):ByteArray × Bool:=if n.lost then (noS,false) else getL n.labels key
def onN (s:Snap) (p:List Int) (node:Int):List Pod:=((p.zip s.pods).filter (fun x=>decide (x.1=node))).map (fun x=>x.2)
def usedV (s:Snap) (p:List Int) (node:Int):List Int:=(List.range 5).map (fun j=>((onN s p node).map (fun x=>at0 x.req j)).sum)
def ownName (s:Snap) (o:Nat):ByteArray:=match s.owners[o]? with|some x=>x.name|none=>noS
def ownedL (s:Snap) (p:List Int) (o:Nat):List Int:=((p.zip s.pods).filter (fun x=>decide (0≤x.1)&&decide (x.2.owner=ownName s o))).map (fun x=>x.1)
def placedN (s:Snap) (p:List Int) (o:Nat):Int:=(ownedL s p o).length
def countsL (s:Snap) (p:List Int) (o:Nat):List Int:=(List.range s.nodes.length).map (fun (n:Nat)=>(((ownedL s p o).filter (fun x=>decide (x=(n:Int)))).length:Int))
theorem checkP_ok {s:Snap} {p:List Int} (h:checkP s p=0):checkS s=0∧p.length=s.pods.length∧∀ n∈p,oddP s n=false:=by
 unfold checkP at h
 cases h1:z0 (checkS s) with
 | false=>
  rw [h1] at h
  simp [z0] at h1
  simp at h
  exact absurd h h1
 | true=>
  rw [h1] at h
  have h1:checkS s=0:=by simpa [z0] using h1
  refine ⟨h1,?_⟩
  simp only [Bool.not_true,Bool.false_eq_true,if_false] at h
  split at h
  ·cases h
  ·rename_i h2
   simp only [Bool.or_eq_true,not_or,Bool.not_eq_true',decide_eq_false_iff_not,Classical.not_not,Bool.not_eq_true,List.any_eq_false] at h2
   exact ⟨h2.1,fun n hn=>by simpa using h2.2 n hn⟩
end Go.Dr
namespace Go.Dr
def near8 (s:Snap) (a b:Nat) (key:ByteArray):Bool:=
 match s.nodes[a]?,s.nodes[b]? with
 | some x,some y=>(valB x key).2&&(valB y key).2&&decide ((valB x key).1=(valB y key).1)
 | _,_=>false
def termsN (l:List Term) (labels:List Label):Int:=(l.filter (fun t=>!holdsB [t] labels)).length
def taintsN (l bears:List Label):Int:=(l.filter (fun t=>!bearsB bears [t])).length
def single8 (s:Snap) (name:ByteArray):Bool:=match s.owners.find? (fun o=>decide (o.name=name)) with|some o=>o.single|none=>false
theorem filt_take {α:Type} {l:List α} {f:α→Bool} {k:Nat} {x:α} (h:l[k]?=some x):(((l.take (k+1)).filter f).length:Int)=((l.take k).filter f).length+(if f x=true then 1 else 0):=by
 rw [List.take_add_one,h]
 cases hf:f x<;>simp [List.filter_append,List.filter_cons,hf]
theorem filt_le {α:Type} (l:List α) (f:α→Bool) (k:Nat):((l.take k).filter f).length≤k:=Nat.le_trans (List.length_filter_le _ _) (by simp;omega)
theorem cut1 {α:Type} {l:List α} {k:Nat} {x:α} (h:l[k]?=some x):(l.drop ((k:Int)).toNat).take ((k:Int)+1 - (k:Int)).toNat=[x]:=by
 obtain ⟨hl,hx⟩:=List.getElem?_eq_some_iff.1 h
 have e:((k:Int)+1 - (k:Int)).toNat=1:=by omega
 have e2:((k:Int)).toNat=k:=by omega
 rw [e,e2,List.drop_eq_getElem_cons hl,hx];rfl
end Go.Dr
namespace Go.Dr
def cntI (n:Nat) (f:Nat→Bool):Int:=((List.range n).filter f).length
theorem cntI_step (n:Nat) (f:Nat→Bool):cntI (n+1) f=cntI n f+(if f n=true then 1 else 0):=by
 unfold cntI
 rw [List.range_succ,List.filter_append]
 cases hf:f n<;>simp [hf]
theorem cntI_rng (n:Nat) (f:Nat→Bool):0≤cntI n f∧cntI n f≤n:=by
 unfold cntI
 have:=List.length_filter_le f (List.range n)
 simp at this ⊢;omega
def aboutF (s:Snap) (p:List Int) (i:Nat) (x:Near) (others:Bool) (j:Nat):Bool:=
 match p[j]?,s.pods[j]?,p[i]? with
 | some n,some q,some m=>decide (0≤n)&&!(others&&decide (j=i))&&near8 s n.toNat m.toNat x.topo&&holdsB x.terms q.labels
 | _,_,_=>false
def about8 (s:Snap) (p:List Int) (i:Nat) (x:Near) (others:Bool):Int:=cntI p.length (aboutF s p i x others)
def doubleF (s:Snap) (p:List Int) (i:Nat) (j:Nat):Bool:=
 match p[j]?,s.pods[j]?,p[i]?,s.pods[i]? with
 | some n,some q,some m,some r=>!decide (j=i)&&decide (n=m)&&decide (q.owner=r.owner)
 | _,_,_,_=>false
def double8 (s:Snap) (p:List Int) (i:Nat):Int:=cntI p.length (doubleF s p i)
end Go.Dr
namespace Go.Dr
def domIns (v:ByteArray) (out:List ByteArray):List ByteArray:=
 out.takeWhile (fun x=>ltS x v)++(match out.dropWhile (fun x=>ltS x v) with|[]=>[v]|x::r=>if x=v then x::r else v::x::r)
def domStep (key:ByteArray) (out:List ByteArray) (n:Node):List ByteArray:=if (valB n key).2=true then domIns (valB n key).1 out else out
def domL (s:Snap) (key:ByteArray):List ByteArray:=s.nodes.foldl (domStep key) []
def inDom (s:Snap) (key v:ByteArray) (n:Nat):Bool:=match s.nodes[n]? with|some x=>(valB x key).2&&decide ((valB x key).1=v)|none=>false
def topoOf (s:Snap) (o:Nat):ByteArray:=match s.owners[o]? with|some x=>x.topo|none=>noS
def domCount (s:Snap) (p:List Int) (o:Nat) (v:ByteArray):Int:=((List.range s.nodes.length).map (fun n=>if inDom s (topoOf s o) v n=true then at0 (countsL s p o) n else 0)).sum
def spreadL (s:Snap) (p:List Int) (o:Nat):List Int:=(domL s (topoOf s o)).map (domCount s p o)
def applyP (s:Snap) (p:List Int) (x:Step):List Int × Int:=
 if !z0 (checkP s p) then ([],checkP s p)
 else if !decide (x.kind=1)&&!decide (x.kind=2) then ([],2)
 else if decide (x.pod < 0)||decide ((p.length:Int)≤x.pod)||decide (x.node < 0)||(decide (x.kind=2)&&decide ((s.nodes.length:Int)≤x.node))||(decide (x.kind=1)&&!decide (x.node=0)) then ([],9)
 else if (decide (at0 p x.pod.toNat=-1)==decide (x.kind=1))||(decide (x.kind=2)&&lostAt s x.node) then ([],110)
 else (p.set x.pod.toNat (if x.kind=2 then x.node else -1),0)
end Go.Dr
namespace Go.Dr
def minL:List Int→Int
 | []=>0
 | x::l=>l.foldl min x
def maxL:List Int→Int
 | []=>0
 | x::l=>l.foldl max x
theorem fold_min_lt (c:Int):∀ (l:List Int) (z:Int),decide (l.foldl min z < c)=(decide (z < c)||l.any (fun x=>decide (x < c)))
 | [],z=>by rw [List.any_nil,Bool.or_false];rfl
 | x::l,z=>by
  rw [List.foldl_cons,fold_min_lt c l,List.any_cons]
  by_cases h1:z < c<;>by_cases h2:x < c<;>simp [h1,h2]<;>omega
theorem fold_max_gt (c:Int):∀ (l:List Int) (z:Int),decide (c < l.foldl max z)=(decide (c < z)||l.any (fun x=>decide (c < x)))
 | [],z=>by rw [List.any_nil,Bool.or_false];rfl
 | x::l,z=>by
  rw [List.foldl_cons,fold_max_gt c l,List.any_cons]
  by_cases h1:c < z<;>by_cases h2:c < x<;>simp [h1,h2]<;>omega
theorem minL_neg {l:List Int} (h:l≠[]):decide (minL l < 0)=l.any negB:=by
 cases l with
 | nil=>exact absurd rfl h
 | cons x l=>rw [minL,fold_min_lt,List.any_cons];rfl
theorem maxL_over {l:List Int} (h:l≠[]):decide (Qty < maxL l)=l.any overB:=by
 cases l with
 | nil=>exact absurd rfl h
 | cons x l=>rw [maxL,fold_max_gt,List.any_cons];rfl
theorem fold_rng {f:Int→Int→Int} (hf:∀ a b,f a b=a∨f a b=b) {lo hi:Int}:∀ {l:List Int} {z:Int},lo≤z→z≤hi→(∀ x∈l,lo≤x∧x≤hi)→lo≤l.foldl f z∧l.foldl f z≤hi
 | [],z,h1,h2,_=>⟨h1,h2⟩
 | x::l,z,h1,h2,h=>by
  have hx:=h x (by simp)
  rw [List.foldl_cons]
  rcases hf z x with e|e<;>rw [e]
  ·exact fold_rng hf h1 h2 (fun y hy=>h y (by simp [hy]))
  ·exact fold_rng hf hx.1 hx.2 (fun y hy=>h y (by simp [hy]))
theorem min_or (a b:Int):min a b=a∨min a b=b:=by omega
theorem max_or (a b:Int):max a b=a∨max a b=b:=by omega
def eachV (g:Nat→Int × Int):List Int × Int:=
 match (List.range 5).find? (fun i=>!decide ((g i).2=0)) with
 | some i=>([0,0,0,0,0],(g i).2)
 | none=>((List.range 5).map (fun i=>(g i).1),0)
theorem plusV_each (l:List (List Int)):plusV l=eachV (colQ l):=rfl
def eachTo (g:Nat→Int × Int) (k:Nat):List Int:=(List.range k).map (fun i=>(g i).1)++List.replicate (5 - k) 0
theorem eachTo_len (g:Nat→Int × Int) {k:Nat} (h:k≤5):(eachTo g k).length=5:=by simp [eachTo];omega
theorem eachTo_rng {g:Nat→Int × Int} (hg:∀ i,Rng (g i).1) (k:Nat):∀ x∈eachTo g k,Rng x:=by
 intro x hx
 rcases List.mem_append.1 hx with hx|hx
 ·obtain ⟨i,_,rfl⟩:=List.mem_map.1 hx
  exact hg i
 ·rw [List.mem_replicate] at hx
  rw [hx.2];unfold Rng;omega
theorem eachTo_set (g:Nat→Int × Int) {k:Nat} (h:k < 5):(eachTo g k).set k (g k).1=eachTo g (k+1):=by
 unfold eachTo
 rw [List.set_append_right _ _ (by simp),List.range_succ,List.map_append]
 obtain ⟨j,hj⟩:∃ j,5 - k=j+1:=⟨5 - k - 1,by omega⟩
 rw [hj,show 5 - (k+1)=j by omega,List.replicate_succ]
 simp
def okE (g:Nat→Int × Int) (k:Nat):Prop:=∀ i,i < k→(g i).2=0
theorem okE_step {g:Nat→Int × Int} {k:Nat} (h:okE g k) (h1:(g k).2=0):okE g (k+1):=by
 intro i hi
 rcases Nat.lt_or_ge i k with h2|h2
 ·exact h i h2
 ·rw [show i=k by omega];exact h1
theorem each_bad {g:Nat→Int × Int} {k:Nat} (h:okE g k) (hk:k < 5) (h1:¬ (g k).2=0):eachV g=([0,0,0,0,0],(g k).2):=by
 have:(List.range 5).find? (fun i=>!decide ((g i).2=0))=some k:=by
  rw [List.find?_range_eq_some]
  exact ⟨by simpa using h1,by simpa using hk,fun j hj=>by simpa using h j hj⟩
 rw [eachV,this]
theorem each_good {g:Nat→Int × Int} (h:okE g 5):eachV g=(eachTo g 5,0):=by
 have:(List.range 5).find? (fun i=>!decide ((g i).2=0))=none:=by
  rw [List.find?_range_eq_none]
  exact fun j hj=>by simpa using h j hj
 rw [eachV,this]
 simp [eachTo]
end Go.Dr
namespace Go.Dr
def skewOf (s:Snap) (o:Nat):Int:=match s.owners[o]? with|some x=>x.skew|none=>0
def minOf (s:Snap) (o:Nat):Int:=match s.owners[o]? with|some x=>x.min|none=>0
def capOf (s:Snap) (n:Nat):List Int:=match s.nodes[n]? with|some x=>x.cap|none=>[]
def skewV (s:Snap) (p:List Int) (o:Nat):Int:=if (spreadL s p o).length=0 then 0 else max 0 (maxL (spreadL s p o) - minL (spreadL s p o) - skewOf s o)
def capN (s:Snap) (p:List Int) (n k:Nat):Clause:=⟨1,n,k,max 0 (at0 (usedV s p n) k - at0 (capOf s n) k)⟩
def capTo (s:Snap) (p:List Int) (n k:Nat):List Clause:=(List.range n).flatMap (fun i=>(List.range 5).map (capN s p i))++(List.range k).map (capN s p n)
def capsC (s:Snap) (p:List Int):List Clause:=capTo s p s.nodes.length 0
def of8 (s:Snap) (p:List Int) (kind:Int) (i:Nat):Int × Bool:=
 match p[i]?,s.pods[i]? with
 | some m,some x=>
  if m < 0 then (0,false) else
  match s.nodes[m.toNat]? with
  | some n=>
   if kind=2 then (termsN x.wher n.labels,true)
   else if kind=3 then (taintsN n.taints x.bears,true)
   else if kind=4 then (if x.with_.topo=noS then (0,false) else (max 0 (1 - about8 s p i x.with_ false),true))
   else if kind=5 then (if x.apart.topo=noS then (0,false) else (about8 s p i x.apart true,true))
   else if x.owner=noS then (0,false) else if !single8 s x.owner then (0,false) else (double8 s p i,true)
  | none=>(0,false)
 | _,_=>(0,false)
def podC1 (s:Snap) (p:List Int) (kind:Int) (i:Nat):List Clause:=if (of8 s p kind i).2=true then [⟨kind,i,0,(of8 s p kind i).1⟩] else []
def podsTo (s:Snap) (p:List Int) (kind:Int) (i:Nat):List Clause:=(List.range i).flatMap (podC1 s p kind)
def kindsTo (s:Snap) (p:List Int) (j:Nat):List Clause:=(List.range j).flatMap (fun (t:Nat)=>podsTo s p ((t:Int)+2) p.length)
def spreadC1 (s:Snap) (p:List Int) (o:Nat):List Clause:=if topoOf s o=noS then [] else [⟨7,o,0,skewV s p o⟩]
def spreadTo (s:Snap) (p:List Int) (o:Nat):List Clause:=(List.range o).flatMap (spreadC1 s p)
def minC1 (s:Snap) (p:List Int) (o:Nat):Clause:=⟨8,o,0,max 0 (minOf s o - placedN s p o)⟩
def minTo (s:Snap) (p:List Int) (o:Nat):List Clause:=(List.range o).map (minC1 s p)
def allC (s:Snap) (p:List Int):List Clause:=capsC s p++kindsTo s p 5++spreadTo s p s.owners.length++minTo s p s.owners.length
def allL (s:Snap) (p:List Int):List Clause:=if checkP s p=0 then allC s p else []
def isC (kind a b:Int) (c:Clause):Bool:=decide (c.kind=kind)&&decide (c.a=a)&&decide (c.b=b)
theorem capTo_len (s:Snap) (p:List Int) (n k:Nat):(capTo s p n k).length=5*n+k:=by
 unfold capTo
 simp [List.length_flatMap,List.map_const',List.sum_replicate_nat];omega
theorem podsTo_step (s:Snap) (p:List Int) (kind:Int) (i:Nat):podsTo s p kind (i+1)=podsTo s p kind i++podC1 s p kind i:=by
 unfold podsTo;rw [List.range_succ];simp
theorem podC1_len (s:Snap) (p:List Int) (kind:Int) (i:Nat):(podC1 s p kind i).length≤1:=by unfold podC1;split<;>simp
theorem podsTo_len (s:Snap) (p:List Int) (kind:Int):∀ i,(podsTo s p kind i).length≤i
 | 0=>by simp [podsTo]
 | i+1=>by rw [podsTo_step,List.length_append];have:=podsTo_len s p kind i;have:=podC1_len s p kind i;omega
theorem kindsTo_step (s:Snap) (p:List Int) (j:Nat):kindsTo s p (j+1)=kindsTo s p j++podsTo s p ((j:Int)+2) p.length:=by
 unfold kindsTo;rw [List.range_succ];simp
theorem kindsTo_len (s:Snap) (p:List Int):∀ j,(kindsTo s p j).length≤j*p.length
 | 0=>by simp [kindsTo]
 | j+1=>by rw [kindsTo_step,List.length_append,Nat.add_mul];have:=kindsTo_len s p j;have:=podsTo_len s p ((j:Int)+2) p.length;omega
theorem spreadTo_step (s:Snap) (p:List Int) (o:Nat):spreadTo s p (o+1)=spreadTo s p o++spreadC1 s p o:=by
 unfold spreadTo;rw [List.range_succ];simp
theorem spreadTo_len (s:Snap) (p:List Int):∀ o,(spreadTo s p o).length≤o
 | 0=>by simp [spreadTo]
 | o+1=>by
  rw [spreadTo_step,List.length_append]
  have:=spreadTo_len s p o
  have:(spreadC1 s p o).length≤1:=by unfold spreadC1;split<;>simp
  omega
theorem minTo_step (s:Snap) (p:List Int) (o:Nat):minTo s p (o+1)=minTo s p o++[minC1 s p o]:=by
 unfold minTo;rw [List.range_succ];simp
theorem minTo_len (s:Snap) (p:List Int) (o:Nat):(minTo s p o).length=o:=by simp [minTo]
theorem filter_step {α:Type} {l:List α} {f:α→Bool} {k:Nat} {x:α} (h:l[k]?=some x):(l.take (k+1)).filter f=(l.take k).filter f++(if f x=true then [x] else []):=by
 rw [List.take_add_one,h]
 cases hf:f x<;>simp [List.filter_append,List.filter_cons,hf]
theorem filter_len {α:Type} (l:List α) (f:α→Bool) (k:Nat):((l.take k).filter f).length≤k:=Nat.le_trans (List.length_filter_le _ _) (by simp;omega)
end Go.Dr
namespace Go.Dr
open Go.Proofs
set_option linter.unusedVariables false
structure LookD where
 s:Snap
 p:List Int
 used:List (List Int)
 dm:Value
def rLook:Rp LookD:=rMap (fun x:LookD=>(x.s,x.p,x.used,x.dm)) (rSeq rSnap (rSeq (rSlice 8 rI64) (rSeq (rSlice 40 (rArr 5)) rVal)))
instance:Fld rLook 0 rSnap LookD.s:=⟨(Part.map Part.first)⟩
instance:Fld rLook 3 (rSlice 8 rI64) LookD.p:=⟨(Part.map (Part.next Part.first rfl))⟩
instance:Fld rLook 4 (rSlice 40 (rArr 5)) LookD.used:=⟨(Part.map (Part.next (Part.next Part.first rfl) rfl))⟩
instance:Fld rLook 5 rVal LookD.dm:=⟨(Part.map (Part.next (Part.next (Part.last rfl) rfl) rfl))⟩
def rDom:Rp (ByteArray × Bool):=rSeq rStr rBool
instance:Fld rDom 0 rStr Prod.fst:=⟨Part.first⟩
instance:Fld rDom 1 rBool Prod.snd:=⟨Part.last rfl⟩
instance:TyR Tryz.prog 276 rLook:=⟨by kernel_rfl⟩
instance:TyR Tryz.prog 359 rDom:=⟨by kernel_rfl⟩
instance:TyR Tryz.prog 356 (rSlice 24 rDom):=⟨by kernel_rfl⟩
def doms (s:Snap) (key:ByteArray):List (ByteArray × Bool):=s.nodes.map (fun n=>valB n key)
def Cache (s:Snap) (S:SHeap) (l:List (ByteArray × Value)):Prop:=DistinctK l∧∀ q∈l,(rSlice 24 rDom).V S q.2 (doms s q.1)
theorem Cache.mono {s:Snap} {S S':SHeap} {l:List (ByteArray × Value)} (h:Cache s S l) (hl:S.le S'):Cache s S' l:=⟨h.1,fun q hq=>(h.2 q hq).mono hl⟩
theorem Cache.nil {s:Snap} {S:SHeap}:Cache s S []:=⟨DistinctK.nil,by simp⟩
theorem cntI_congr {n:Nat} {f g:Nat→Bool} (h:∀ i,i < n→f i=g i):cntI n f=cntI n g:=by
 unfold cntI
 congr 2
 exact List.filter_congr (fun i hi=>h i (by simpa using hi))
end Go.Dr
namespace Go.Dr
open Go.Proofs
set_option maxRecDepth 20000
set_option maxHeartbeats 1000000
set_option linter.unusedSimpArgs false
set_option linter.unusedVariables false
theorem fold_take0 {l:List Int} {f:Int→Int→Int} {z:Int} {k:Nat} {x:Int} (h:l[k]?=some x):(l.take (k+1)).foldl f z=f ((l.take k).foldl f z) x:=by
 rw [List.take_add_one,h];simp
theorem p_Max {S:SHeap} {u:Value} {xs:List Int} (hu:(rSlice 8 rI64).V S u xs) (hne:xs≠[]):FnV Tryz.prog 265 #[u] S (.int .i64 (maxL xs)):=by
 obtain ⟨a,c,rfl,_,_,hb,_⟩:=V_slice.1 hu
 unfold big at hb
 obtain ⟨x,L,rfl⟩:∃ x L,xs=x::L:=by cases xs with|nil=>exact absurd rfl hne|cons x L=>exact ⟨x,L,rfl⟩
 have h0:(x::L)[(0:Int).toNat]?=some x:=rfl
 have hl0:(x::L).length=L.length+1:=rfl
 (refine Fn.enter (args:=[.slice a (x::L).length c]) Tryz.func265 rfl Tryz.ntmps265 rfl ?_;intro w0)
 repeat (first|(refine Walk ?_;intros)|refine JC.block ?_)
 refine JC.loopF0 [(0,_)] (fun (j:Nat)=>[(3,.int .i64 ((L.take j).foldl max x)),(4,.int .i64 ((j:Int)+1))]) (fun Sj j=>j≤L.length∧(True)) (fun j=>L.length - j) 0 (by exact sba) (by exact sba) ⟨Nat.zero_le _,trivial⟩ ?_;intro Sj j hlj hij;obtain ⟨hj,hij⟩:=hij;(try dsimp only at hj hij);dsimp only [List.cons_append,List.nil_append]
 repeat (first|(refine Walk ?_;intros)|refine JC.block ?_)
 refine JC.cond rfl (fun hc=>?_) (fun hc=>?_)
 ·have hj':j < L.length:=by have:=of_decide_eq_true hc;omega
  obtain ⟨y,hy,_⟩:=drop_at hj'
  have hst:=fold_take0 (f:=max) (z:=x) hy
  have hy':(x::L)[((j:Int)+1).toNat]?=some y:=by rw [show ((j:Int)+1).toNat=j+1 by omega];exact hy
  repeat (first|(refine Walk ?_;intros)|refine JC.block ?_)
  (refine JX.roundF (j+1) (by exact lea) ⟨by omega,(trivial)⟩ (by (try dsimp only);omega) rfl ?_ (by exact sba);(try dsimp only);rw [hst];exact sba;done)
 ·have hj':L.length≤j:=by have:=of_decide_eq_false hc;omega
  rw [List.take_of_length_le hj']
  repeat (first|(refine Walk ?_;intros)|refine JC.block ?_)
  (refine JX.ret1 Tryz.results265 (ResV.tmp rfl) (List.nil_sublist _) ?_)
  exact ⟨rfl,rfl⟩
theorem p_Min {S:SHeap} {u:Value} {xs:List Int} (hu:(rSlice 8 rI64).V S u xs) (hne:xs≠[]):FnV Tryz.prog 266 #[u] S (.int .i64 (minL xs)):=by
 obtain ⟨a,c,rfl,_,_,hb,_⟩:=V_slice.1 hu
 unfold big at hb
 obtain ⟨x,L,rfl⟩:∃ x L,xs=x::L:=by cases xs with|nil=>exact absurd rfl hne|cons x L=>exact ⟨x,L,rfl⟩
 have h0:(x::L)[(0:Int).toNat]?=some x:=rfl
 have hl0:(x::L).length=L.length+1:=rfl
 (refine Fn.enter (args:=[.slice a (x::L).length c]) Tryz.func266 rfl Tryz.ntmps266 rfl ?_;intro w0)
 repeat (first|(refine Walk ?_;intros)|refine JC.block ?_)
 refine JC.loopF0 [(0,_)] (fun (j:Nat)=>[(3,.int .i64 ((L.take j).foldl min x)),(4,.int .i64 ((j:Int)+1))]) (fun Sj j=>j≤L.length∧(True)) (fun j=>L.length - j) 0 (by exact sba) (by exact sba) ⟨Nat.zero_le _,trivial⟩ ?_;intro Sj j hlj hij;obtain ⟨hj,hij⟩:=hij;(try dsimp only at hj hij);dsimp only [List.cons_append,List.nil_append]
 repeat (first|(refine Walk ?_;intros)|refine JC.block ?_)
 refine JC.cond rfl (fun hc=>?_) (fun hc=>?_)
 ·have hj':j < L.length:=by have:=of_decide_eq_true hc;omega
  obtain ⟨y,hy,_⟩:=drop_at hj'
  have hst:=fold_take0 (f:=min) (z:=x) hy
  have hy':(x::L)[((j:Int)+1).toNat]?=some y:=by rw [show ((j:Int)+1).toNat=j+1 by omega];exact hy
  repeat (first|(refine Walk ?_;intros)|refine JC.block ?_)
  (refine JX.roundF (j+1) (by exact lea) ⟨by omega,(trivial)⟩ (by (try dsimp only);omega) rfl ?_ (by exact sba);(try dsimp only);rw [hst];exact sba;done)
 ·have hj':L.length≤j:=by have:=of_decide_eq_false hc;omega
  rw [List.take_of_length_le hj']
  repeat (first|(refine Walk ?_;intros)|refine JC.block ?_)
  (refine JX.ret1 Tryz.results266 (ResV.tmp rfl) (List.nil_sublist _) ?_)
  exact ⟨rfl,rfl⟩
theorem s202_L2p {P K:Prop} (k:K) (h:Goal K→P:=by
 intro zk
 (first|refine Walk ?_|refine JC.block ?_|refine JC.drawN 1 rfl [0,2,1,3,4,5] [0,4,5] Tryz_mixed (by decide +kernel) ?_|(refine JO.eff rfl rfl rfl (JEff.callV rfl (p_Max (by exact vta) (by first|assumption|simp)) rfl ?_);intro zqa zqb)|(refine JO.eff rfl rfl rfl (JEff.callV rfl (p_Min (by exact vta) (by first|assumption|simp)) rfl ?_);intro zqa zqb)|(refine WBox ?_))
 (repeat (first|revert zqg|revert zqf|revert zqe|revert zqd|revert zqc|revert zqb|revert zqa))
 exact zk.k):P:=h ⟨k⟩
theorem p2_Check {S:SHeap} {u:Value} {v:List Int} (hu:(rArr 5).V S u v):FnV Tryz.prog 202 #[u] S (.int .i64 (checkV v)):=by
 obtain ⟨_,hl,hr⟩:=V_arr.1 hu
 have hne:v≠[]:=by intro h;rw [h] at hl;cases hl
 have e1:=minL_neg hne
 have e2:=maxL_over hne
 (refine Fn.enter (args:=[u]) Tryz.func202 rfl Tryz.ntmps202 rfl ?_;intro w0)
 repeat (refine s202_L2p ?_;intros)
 refine JC.cond rfl (fun h1=>?_) (fun h1=>?_)
 ·rw [e1] at h1
  repeat (refine s202_L2p ?_;intros)
  (refine JX.ret1 Tryz.results202 (ResV.tmp rfl) (List.nil_sublist _) ?_)
  exact ⟨rfl,by rw [checkV,h1];rfl⟩
 rw [e1] at h1
 repeat (refine s202_L2p ?_;intros)
 refine JC.cond rfl (fun h2=>?_) (fun h2=>?_)
 ·have h2:v.any overB=true:=by rw [← e2];exact h2
  repeat (refine s202_L2p ?_;intros)
  (refine JX.ret1 Tryz.results202 (ResV.tmp rfl) (List.nil_sublist _) ?_)
  exact ⟨rfl,by rw [checkV,h1,h2];rfl⟩
 ·have h2:v.any overB=false:=by rw [← e2];exact h2
  repeat (refine s202_L2p ?_;intros)
  (refine JX.ret1 Tryz.results202 (ResV.tmp rfl) (List.nil_sublist _) ?_)
  exact ⟨rfl,by rw [checkV,h1,h2];rfl⟩
theorem p1_above {S:SHeap} (n:Int):FnV Tryz.prog 274 #[.int .i64 n] S (.bool (overB n)):=by
 (refine Fn.enter (args:=[.int .i64 n]) Tryz.func274 rfl Tryz.ntmps274 rfl ?_;intro w0)
 repeat (first|(refine Walk ?_;intros)|refine JC.block ?_)
 (refine JX.ret1 Tryz.results274 (ResV.tmp rfl) (List.nil_sublist _) ?_)
 exact ⟨rfl,rfl⟩
theorem p1_below {S:SHeap} (n:Int):FnV Tryz.prog 314 #[.int .i64 n] S (.bool (negB n)):=by
 (refine Fn.enter (args:=[.int .i64 n]) Tryz.func314 rfl Tryz.ntmps314 rfl ?_;intro w0)
 repeat (first|(refine Walk ?_;intros)|refine JC.block ?_)
 (refine JX.ret1 Tryz.results314 (ResV.tmp rfl) (List.nil_sublist _) ?_)
 exact ⟨rfl,rfl⟩
theorem p1_checked {S:SHeap} {u:Value} {l:List Int} (hu:(rSlice 8 rI64).V S u l):FnV Tryz.prog 273 #[u] S (.int .i64 (checkV l)):=by
 (refine Fn.enter (args:=[u]) Tryz.func273 rfl Tryz.ntmps273 rfl ?_;intro w0)
 repeat (first|(refine Walk ?_;intros)|refine JC.block ?_)
 (refine JO.eff rfl rfl rfl (JEff.callV rfl ((p_ContainsFunc_int negB (by exact vta) inferInstance (fun S' h u x hx=>by obtain ⟨rfl,_⟩:=V_i64.1 hx;exact p1_below x))) rfl ?_);intro _ _)
 repeat (first|(refine Walk ?_;intros)|refine JC.block ?_)
 refine JC.cond rfl (fun h1=>?_) (fun h1=>?_)
 ·repeat (first|(refine Walk ?_;intros)|refine JC.block ?_)
  (refine JX.ret1 Tryz.results273 (ResV.tmp rfl) (List.nil_sublist _) ?_)
  exact ⟨rfl,by rw [checkV,h1];rfl⟩
 repeat (first|(refine Walk ?_;intros)|refine JC.block ?_)
 (refine JO.eff rfl rfl rfl (JEff.callV rfl ((p_ContainsFunc_int overB (by exact vta) inferInstance (fun S' h u x hx=>by obtain ⟨rfl,_⟩:=V_i64.1 hx;exact p1_above x))) rfl ?_);intro _ _)
 repeat (first|(refine Walk ?_;intros)|refine JC.block ?_)
 refine JC.cond rfl (fun h2=>?_) (fun h2=>?_)
 ·repeat (first|(refine Walk ?_;intros)|refine JC.block ?_)
  (refine JX.ret1 Tryz.results273 (ResV.tmp rfl) (List.nil_sublist _) ?_)
  exact ⟨rfl,by rw [checkV,h1,h2];rfl⟩
 ·repeat (first|(refine Walk ?_;intros)|refine JC.block ?_)
  (refine JX.ret1 Tryz.results273 (ResV.tmp rfl) (List.nil_sublist _) ?_)
  exact ⟨rfl,by rw [checkV,h1,h2];rfl⟩
theorem mem_le_sum {l:List Int} (h:l.any negB=false):∀ x∈l,x≤l.sum:=by
 intro x hx
 obtain ⟨i,hi⟩:=List.getElem?_of_mem hx
 have h1:=take_at hi
 have h2:=sum_take_nn h i
 have h3:=sum_take h (i+1)
 omega
theorem s212_L2p {P K:Prop} (k:K) (h:Goal K→P:=by
 intro zk
 (first|refine Walk ?_|refine JC.block ?_|(refine JO.eff rfl rfl rfl (JEff.callV rfl (p1_checked (by exact vta)) rfl ?_);intro zqa zqb)|(refine JO.eff rfl rfl rfl (JEff.callV rfl (p1_above _) rfl ?_);intro zqa zqb))
 (repeat (first|revert zqg|revert zqf|revert zqe|revert zqd|revert zqc|revert zqb|revert zqa))
 exact zk.k):P:=h ⟨k⟩
theorem p1_Add {S:SHeap} {u:Value} {l:List Int} (hu:(rSlice 8 rI64).V S u l):FnV Tryz.prog 212 #[u] S (.tuple #[.int .i64 (addQ l).1,.int .i64 (addQ l).2]):=by
 obtain ⟨a,c,rfl,_,_,hb,_⟩:=V_slice.1 hu
 unfold big at hb
 (refine Fn.enter (args:=[.slice a l.length c]) Tryz.func212 rfl Tryz.ntmps212 rfl ?_;intro w0)
 repeat (refine s212_L2p ?_;intros)
 cases hn:l.any negB with
 | true=>
  have hcv:checkV l=2:=by rw [checkV,hn];rfl
  rw [hcv]
  repeat' (first|(refine s212_L2p ?_;intros)|(refine JO.guard rfl rfl rfl rfl ?_ ?_<;>intro _)|(refine JC.cond rfl ?_ ?_<;>intro _))
  all_goals first
   | ((refine JX.ret2 Tryz.results212 (ResV.tmp rfl) (ResV.tmp rfl) (List.nil_sublist _) ?_);exact ⟨rfl,by rw [addQ,hn];rfl⟩)
   | (exfalso;first|(simp only [decide_eq_true_eq,decide_eq_false_iff_not,Bool.not_eq_true',Bool.not_eq_false',Bool.and_eq_true,Bool.or_eq_true,Bool.and_eq_false_iff,Bool.or_eq_false_iff] at *;omega)|(simp_all;done)|(simp_all;omega))
 | false=>
  cases ho:l.any overB with
  | true=>
   have hcv:checkV l=10:=by rw [checkV,hn,ho];rfl
   have hsum:Qty < l.sum:=by
    obtain ⟨x,hx,h⟩:=List.any_eq_true.1 ho
    have h1:=mem_le_sum hn x hx
    have h2:Qty < x:=by simpa [overB] using h
    omega
   rw [hcv]
   repeat' (first|(refine s212_L2p ?_;intros)|(refine JO.guard rfl rfl rfl rfl ?_ ?_<;>intro _)|(refine JC.cond rfl ?_ ?_<;>intro _))
   all_goals first
    | ((refine JX.ret2 Tryz.results212 (ResV.tmp rfl) (ResV.tmp rfl) (List.nil_sublist _) ?_);exact ⟨rfl,by rw [addQ,hn,if_neg (by simp),if_pos hsum]⟩)
    | (exfalso;first|(simp only [decide_eq_true_eq,decide_eq_false_iff_not,Bool.not_eq_true',Bool.not_eq_false',Bool.and_eq_true,Bool.or_eq_true,Bool.and_eq_false_iff,Bool.or_eq_false_iff] at *;omega)|(simp_all;done)|(simp_all;omega))
  | false=>
   have hcv:checkV l=0:=by rw [checkV,hn,ho];rfl
   have hsm:∀ x∈l,0≤x∧x≤Qty:=by
    intro x hx
    have h1:=(List.any_eq_false.1 hn) x hx
    have h2:=(List.any_eq_false.1 ho) x hx
    simp only [negB,overB,decide_eq_true_eq] at h1 h2
    omega
   rw [hcv]
   repeat (refine s212_L2p ?_;intros)
   refine JC.loopF0 [(12,_),(13,_)] (fun (k:Nat)=>[(2,.int .i64 (l.take k).sum),(14,.int .i64 k)]) (fun Sk k=>k≤l.length∧((l.take k).sum≤Qty)) (fun k=>l.length - k) 0 (by exact sba) (by exact sba) ⟨Nat.zero_le _,by simp [Qty]⟩ ?_;intro Sk k hlk hik;obtain ⟨hk,hik⟩:=hik;(try dsimp only at hk hik);dsimp only [List.cons_append,List.nil_append]
   repeat (refine s212_L2p ?_;intros)
   refine JC.cond rfl (fun hc=>?_) (fun hc=>?_)
   ·have hk':=dlt hc
    obtain ⟨x,hx,_⟩:=drop_at hk'
    have h1:=sum_take_nn hn k
    have h2:=take_at hx
    have h3:=sum_take hn (k+1)
    have hxr:=hsm x (List.mem_of_getElem? hx)
    unfold Qty at hik hxr
    repeat (refine s212_L2p ?_;intros)
    refine JC.cond rfl (fun h9=>?_) (fun h9=>?_)
    ·have h9:Qty < (l.take (k+1)).sum:=by rw [h2];simpa [overB] using h9
     have hsum:Qty < l.sum:=by omega
     repeat (refine s212_L2p ?_;intros)
     (refine JX.ret2 Tryz.results212 (ResV.tmp rfl) (ResV.tmp rfl) (List.nil_sublist _) ?_)
     exact ⟨rfl,by rw [addQ,hn,if_neg (by simp),if_pos hsum]⟩
    ·have h9:¬ Qty < (l.take (k+1)).sum:=by rw [h2];simpa [overB] using h9
     repeat (refine s212_L2p ?_;intros)
     (refine JX.roundF (k+1) (by exact lea) ⟨by omega,(by omega)⟩ (by (try dsimp only);omega) rfl ?_ (by exact sba);(try dsimp only);rw [h2];exact sba;done)
   ·have hk':=dnlt hc
    rw [List.take_of_length_le hk'] at hik ⊢
    repeat (refine s212_L2p ?_;intros)
    (refine JX.ret2 Tryz.results212 (ResV.tmp rfl) (ResV.tmp rfl) (List.nil_sublist _) ?_)
    exact ⟨rfl,by rw [addQ,hn,if_neg (by simp),if_neg (by omega)]⟩
theorem p2_each {S:SHeap} {f:FuncId} {fs cs:Array Value} (g:Nat→Int × Int) (hg:∀ i,Rng (g i).1) (hE:Ent Tryz.prog f) (hf:∀ S',S.le S'→∀ i:Nat,i < 5→FnV Tryz.prog f (fs.toList++[Value.int .i64 i]++cs.toList).toArray S' (.tuple #[.int .i64 (g i).1,.int .i64 (g i).2])) :
  FnV Tryz.prog 210 #[.func (.func f) fs cs] S (.tuple #[.agg (ints (eachV g).1),.int .i64 (eachV g).2]):=by
 (refine Fn.enter (args:=[.func (.func f) fs cs]) Tryz.func210 rfl Tryz.ntmps210 rfl ?_;intro w0)
 repeat (first|(refine Walk ?_;intros)|refine JC.block ?_)
 (refine JO.eff rfl rfl rfl (JEff.alloc rfl ?_);intro b2 hb2)
 repeat (first|(refine Walk ?_;intros)|refine JC.block ?_)
 refine JC.loopF [(0,_),(2,_)] (fun (k:Nat)=>[(5,.int .i64 k)]) (fun k=>[.blk b2 (.cells (ints (eachTo g k)) 91 (0,0))]) (fun Sk k=>k≤5∧(okE g k)) (fun k=>5 - k) 0 (by exact sba) (by exact sba) rfl ⟨Nat.zero_le _,by intro i hi;omega⟩ ?_;intro Sk k hlk hik;obtain ⟨hk,hik⟩:=hik;(try dsimp only at hk hik);dsimp only [List.cons_append,List.nil_append]
 have hrk:=eachTo_rng hg
 repeat (first|(refine Walk ?_;intros)|refine JC.block ?_)
 refine JC.cond rfl (fun hc=>?_) (fun hc=>?_)
 ·have hk':=dlt5 hc
  repeat (first|(refine Walk ?_;intros)|refine JC.block ?_)
  (refine JO.eff rfl rfl rfl (JEff.dynV rfl (by assumption) rfl ((hf _ (by exact lea) k hk')) rfl ?_);intro _ _)
  repeat (first|(refine Walk ?_;intros)|refine JC.block ?_)
  refine JO.pure rfl rfl rfl (JPure.indexBI rfl rfl rfl (by omega) (by omega) ?_)
  refine JO.eff rfl rfl rfl (JEff.storeI (i:=k) rfl rfl (hg k) (List.Perm.refl _) (by rw [eachTo_len g (by omega)];exact hk') (by intro l hl;cases hl) ?_)
  rw [eachTo_set g hk']
  repeat (first|(refine Walk ?_;intros)|refine JC.block ?_)
  refine JC.cond rfl (fun he=>?_) (fun he=>?_)
  ·have he:¬ (g k).2=0:=by simpa using he
   repeat (first|(refine Walk ?_;intros)|refine JC.block ?_)
   refine JO.eff rfl rfl rfl (JEff.storeA (n:=5) (ys:=[0,0,0,0,0]) rfl rfl rfl (by intro z hz;simp at hz;subst hz;unfold Rng;omega) (List.Perm.refl _) (eachTo_len g (by omega)) (by intro l hl;cases hl) ?_)
   repeat (first|(refine Walk ?_;intros)|refine JC.block ?_)
   refine JX.ret2 Tryz.results210 (ResV.cellA (n:=5) rfl (by (first|exact List.mem_cons_self|exact List.mem_cons_of_mem _ List.mem_cons_self|exact List.mem_cons_of_mem _ (List.mem_cons_of_mem _ List.mem_cons_self))) rfl) (ResV.tmp rfl) (List.nil_sublist _) ?_
   rw [each_bad hik hk' he]
   exact ⟨rfl,rfl⟩
  ·have he:(g k).2=0:=by simpa using he
   repeat (first|(refine Walk ?_;intros)|refine JC.block ?_)
   exact JX.roundF (k+1) (by exact lea) ⟨by omega,(okE_step hik he)⟩ (by (try dsimp only);omega) rfl (by exact sba) (by exact sba)
 ·have hk':=dnlt5 hc
  obtain rfl:k=5:=by omega
  repeat (first|(refine Walk ?_;intros)|refine JC.block ?_)
  refine JO.pure rfl rfl rfl (JPure.loadMA (n:=5) rfl (by (first|exact List.mem_cons_self|exact List.mem_cons_of_mem _ List.mem_cons_self|exact List.mem_cons_of_mem _ (List.mem_cons_of_mem _ List.mem_cons_self))) (eachTo_len g (by omega)) (hrk 5) (.inl rfl) rfl ?_)
  refine JO.eff rfl rfl rfl (JEff.storeA (n:=5) (ys:=eachTo g 5) rfl rfl (eachTo_len g (by omega)) (hrk 5) (List.Perm.refl _) (eachTo_len g (by omega)) (by intro l hl;cases hl) ?_)
  repeat (first|(refine Walk ?_;intros)|refine JC.block ?_)
  refine JX.ret2 Tryz.results210 (ResV.cellA (n:=5) rfl (by (first|exact List.mem_cons_self|exact List.mem_cons_of_mem _ List.mem_cons_self|exact List.mem_cons_of_mem _ (List.mem_cons_of_mem _ List.mem_cons_self))) (eachTo_len g (by omega))) (ResV.tmp rfl) (List.nil_sublist _) ?_
  rw [each_good hik]
  exact ⟨rfl,rfl⟩
end Go.Dr
namespace Go.Dr
open Go.Proofs
set_option maxRecDepth 20000
set_option maxHeartbeats 1000000
set_option linter.unusedSimpArgs false
set_option linter.unusedVariables false
theorem ptr_arr5 {S:SHeap} {p:Addr} {n:Nat} {xs:List Int} (h:PtrTo S p (rArr n) xs):xs.length=n∧∀ x∈xs,Rng x:=by
 obtain ⟨cs,h,_⟩:=h;exact ⟨h.1,h.2.2⟩
theorem s211_L2q {P K:Prop} (k:K) (h:Goal K→P:=by
 intro zk
 (first|refine Walk ?_|refine JC.block ?_|(refine JO.eff rfl rfl rfl (JEff.callV rfl (p1_Add (by exact vta)) rfl ?_);intro zqa zqb)|(refine WNew ?_)|(refine WPut ?_))
 (repeat (first|revert zqg|revert zqf|revert zqe|revert zqd|revert zqc|revert zqb|revert zqa))
 exact zk.k):P:=h ⟨k⟩
theorem p2_Plus1 {S:SHeap} {q:Addr} {l:List (List Int)} (i:Nat) (hi:i < 5) (hq:PtrTo S q (rSlice 40 (rArr 5)) l):FnV Tryz.prog 211 #[.int .i64 i,.pointer (some q)] S (.tuple #[.int .i64 (colQ l i).1,.int .i64 (colQ l i).2]):=by
 obtain ⟨cs,⟨a,n,c,hcs,hlen,hnc,hbt,hb1,hp⟩,hcell⟩:=hq
 have hq:PtrTo S q (rSlice 40 (rArr 5)) l:=⟨cs,⟨a,n,c,hcs,hlen,hnc,hbt,hb1,hp⟩,hcell⟩
 subst hlen
 unfold big at hbt hb1
 have hvl:∀ v∈l,v.length=5∧∀ y∈v,Rng y:=by
  intro v hv
  obtain ⟨j,hj⟩:=List.getElem?_of_mem hv
  obtain ⟨ad,_,hpp⟩:=hp j v hj
  exact ptr_arr5 hpp
 (refine Fn.enter (args:=[.int .i64 i,.pointer (some q)]) Tryz.func211 rfl Tryz.ntmps211 rfl ?_;intro w0)
 repeat (refine s211_L2q ?_;intros)
 refine JO.eff rfl rfl rfl (JEff.makeRow (rep:=rI64) rfl rfl (by unfold big;omega) (by unfold big;omega) rfl ?_);intro a0
 repeat (refine s211_L2q ?_;intros)
 refine JC.loopF (σ:=Nat × Option Addr × Nat × List Value) [(0,_),(11,_),(12,_)] (fun q=>[(5,.slice q.2.1 ((fun k=>(l.take k).map (fun v=>at0 v i)) q.1).length q.2.2.1),(13,((fun k=>.int .i64 k) q.1))]) (fun q=>[.row w0.heap.size 3 (Rp.sz rI64) (.slice q.2.1 ((fun k=>(l.take k).map (fun v=>at0 v i)) q.1).length q.2.2.1) ((fun k=>(l.take k).map (fun v=>at0 v i)) q.1).length (flatCells q.2.2.2)]) (fun Sk q=>q.1≤l.length∧allV rI64 Sk q.2.2.2 ((fun k=>(l.take k).map (fun v=>at0 v i)) q.1)∧((fun k=>True) q.1)) (fun q=>l.length - q.1) (0,a0,l.length,[]) (by exact sba) (by exact sba) (by first|rfl|simp) (⟨Nat.zero_le _,trivial,trivial⟩) ?_;rintro Sk ⟨k,rak,rck,vsk⟩ hlk ⟨hk,hvk,hik⟩;(try dsimp only at hk hvk hik);dsimp only [List.cons_append,List.nil_append]
 have hkl:((l.take k).map (fun v=>at0 v i)).length≤k:=by rw [List.length_map,List.length_take];omega
 repeat (refine s211_L2q ?_;intros)
 refine JC.cond rfl (fun hc=>?_) (fun hc=>?_)
 ·have hk':=dlt hc
  obtain ⟨v,hv,_⟩:=drop_at hk'
  obtain ⟨hvl5,hvr⟩:=hvl v (List.mem_of_getElem? hv)
  obtain ⟨z,hz⟩:∃ z,v[i]?=some z:=⟨_,List.getElem?_eq_getElem (by omega)⟩
  have hz0:=at0_some hz
  have hst:(l.take (k+1)).map (fun v=>at0 v i)=(l.take k).map (fun v=>at0 v i)++[z]:=by rw [List.take_add_one,hv];simp [hz0]
  repeat (refine s211_L2q ?_;intros)
  (refine JO.eff rfl rfl rfl (JEff.build (rep:=rI64) (ys:=[z]) rfl rfl ⟨⟨(V_i64.2 ⟨rfl,hvr z (List.mem_of_getElem? hz)⟩),nna⟩,trivial⟩ rfl rfl rfl rfl ?_);intro bb hbb hvv);(repeat (first|(refine Walk ?_;intros)|refine JC.block ?_));(refine JO.eff rfl rfl rfl (JEff.appendL (rep:=rI64) rfl rfl rfl rfl (List.Perm.swap _ _ _) (by exact hvv.flat) (by intro c hc;exact flat_one (fun v hv=>(hvv.size v hv).2) c hc) (by first|omega|(unfold big;omega)) (by unfold big;omega) (by first|exact rowT_ok|(intro l hl;cases hl)) rfl ?_);intro a2 c2;clear hvv hbb)
  repeat (refine s211_L2q ?_;intros)
  exact JX.roundF (k+1,a2,c2,vsk++[(.int .i64 z)]) (by exact lea) ⟨by omega,by (try dsimp only);rw [hst];exact allV_add (by exact lea) hvk (V_i64.2 ⟨rfl,hvr z (List.mem_of_getElem? hz)⟩) nna,(trivial)⟩ (by (try dsimp only);omega) (by (try dsimp only);rw [hst];(simp [flat_append]<;>omega)) (by (try dsimp only);rw [hst];simp only [List.length_append,List.length_cons,List.length_nil];exact sba) (by exact sba)
 ·have hk':=dnlt hc
  rw [List.take_of_length_le hk'] at hvk hkl ⊢
  repeat (refine s211_L2q ?_;intros)
  refine JO.freezeRow (rep:=rI64) (bt:=8) hvk rfl (by unfold big;rw [List.length_map];omega) (by unfold big;rw [List.length_map];omega) (by intro l hl;cases hl) (fun S9 hl9 hV9=>?_)
  repeat (refine s211_L2q ?_;intros)
  (refine JX.ret2 Tryz.results211 (ResV.tmp rfl) (ResV.tmp rfl) (List.nil_sublist _) ?_)
  exact ⟨rfl,rfl⟩
theorem p2_Plus {S:SHeap} {u:Value} {l:List (List Int)} (hu:(rSlice 40 (rArr 5)).V S u l):FnV Tryz.prog 139 #[u] S (.tuple #[.agg (ints (plusV l).1),.int .i64 (plusV l).2]):=by
 obtain ⟨hpl,hpr⟩:=plusV_fine l
 have hV:(rArr 5).V S (.agg (ints (plusV l).1)) (plusV l).1:=V_arr.2 ⟨rfl,hpl,hpr⟩
 obtain ⟨a,c,rfl,_⟩:=V_slice.1 hu
 (refine Fn.enter (args:=[.slice a l.length c]) Tryz.func139 rfl Tryz.ntmps139 rfl ?_;intro w0)
 repeat (first|(refine Walk ?_;intros)|refine JC.block ?_|(refine WBox ?_;intros))
 (refine JO.eff rfl rfl rfl (JEff.alloc rfl ?_);intro b2 hb2)
 repeat (first|(refine Walk ?_;intros)|refine JC.block ?_|(refine WBox ?_;intros))
 (refine JO.eff rfl rfl rfl (JEff.callV rfl ((p2_each (colQ l) (fun i=>(addQ_rng _).1) inferInstance (fun S' hl i hi=>p2_Plus1 i hi (by exact pta)))) rfl ?_);intro _ _)
 rw [← plusV_each]
 repeat (first|(refine Walk ?_;intros)|refine JC.block ?_|(refine WBox ?_;intros))
 refine JO.eff rfl rfl rfl (JEff.storeA (n:=5) (xs:=[0,0,0,0,0]) rfl rfl hpl hpr (List.Perm.refl _) rfl (by intro l hl;cases hl) ?_)
 repeat (first|(refine Walk ?_;intros)|refine JC.block ?_|(refine WBox ?_;intros))
 refine JX.ret2 Tryz.results139 (ResV.cellA (n:=5) rfl (by (first|exact List.mem_cons_self|exact List.mem_cons_of_mem _ List.mem_cons_self|exact List.mem_cons_of_mem _ (List.mem_cons_of_mem _ List.mem_cons_self))) hpl) (ResV.tmp rfl) (List.nil_sublist _) ?_
 exact ⟨rfl,rfl⟩
end Go.Dr
