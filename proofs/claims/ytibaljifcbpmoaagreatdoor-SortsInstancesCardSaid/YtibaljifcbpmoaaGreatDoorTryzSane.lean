/- A part of the proof of the statement: no conditions. -/
import Derived.Test.YtibaljifcbpmoaaGreatDoorPartE
set_option linter.unusedSectionVars false
set_option linter.unusedVariables false
set_option linter.unusedSimpArgs false
namespace Go.Proofs.YtibaljifcbpmoaaGreatDoor
open Go Go.Ev Go.Proofs
noncomputable def seam1:Seam:=⟨[
  (1,.slice 7 0 3 (some 3) 5)],
 [
  (3,.cells [.int .i64 1,.int .i64 0] 3 false false 3 0 [(3,0,2)]),
  (4,.cells [.str [46],.int .i64 2,.slice 3 0 2 (some 2) 1,.str [91,93],.int .i64 0,.nils] 53 false false 4 0 [(4,0,6)]),
  (5,.cells [.int .i64 2] 3 false false 5 0 [(5,0,1)]),
  (6,.cells [.str [115],.int .i64 1,.slice 5 0 1 (some 1) 1] 53 false false 6 0 [(6,0,3)]),
  (7,.cells [.bool false,.bool false,.bool false,.slice 4 0 2 (some 2) 3,.nils,.bool true,.bool false,.bool false,.nils,.nils,.bool false,.bool false,.bool false,.slice 6 0 1 (some 1) 3,.nils] 56 false false 7 0 [(7,0,15)])],
 205,502⟩
noncomputable def seam2:Seam:=⟨[
  (1,.slice 7 0 3 (some 3) 5),
  (13,.slice 504 0 2 (some 2) 5)],
 [
  (3,.cells [.int .i64 1,.int .i64 0] 3 false false 3 0 [(3,0,2)]),
  (4,.cells [.str [46],.int .i64 2,.slice 3 0 2 (some 2) 1,.str [91,93],.int .i64 0,.nils] 53 false false 4 0 [(4,0,6)]),
  (5,.cells [.int .i64 2] 3 false false 5 0 [(5,0,1)]),
  (6,.cells [.str [115],.int .i64 1,.slice 5 0 1 (some 1) 1] 53 false false 6 0 [(6,0,3)]),
  (7,.cells [.bool false,.bool false,.bool false,.slice 4 0 2 (some 2) 3,.nils,.bool true,.bool false,.bool false,.nils,.nils,.bool false,.bool false,.bool false,.slice 6 0 1 (some 1) 3,.nils] 56 false false 7 0 [(7,0,15)]),
  (502,.cells [.int .i64 1,.int .i64 0] 3 false false 502 0 [(502,0,2)]),
  (503,.cells [.str [46],.int .i64 2,.slice 502 0 2 (some 2) 1] 53 false false 503 0 [(503,0,3)]),
  (504,.cells [.bool false,.bool false,.bool false,.slice 503 0 1 (some 1) 3,.nils,.bool true,.bool false,.bool false,.nils,.nils] 56 false false 504 0 [(504,0,10)])],
 205,505⟩
noncomputable def seam3:Seam:=⟨[
  (1,.slice 7 0 3 (some 3) 5),
  (4,.int .i64 0),
  (14,.bool false),
  (15,.ptr 768 0)],
 [
  (3,.cells [.int .i64 1,.int .i64 0] 3 false false 3 0 [(3,0,2)]),
  (4,.cells [.str [46],.int .i64 2,.slice 3 0 2 (some 2) 1,.str [91,93],.int .i64 0,.nils] 53 false false 4 0 [(4,0,6)]),
  (5,.cells [.int .i64 2] 3 false false 5 0 [(5,0,1)]),
  (6,.cells [.str [115],.int .i64 1,.slice 5 0 1 (some 1) 1] 53 false false 6 0 [(6,0,3)]),
  (7,.cells [.bool false,.bool false,.bool false,.slice 4 0 2 (some 2) 3,.nils,.bool true,.bool false,.bool false,.nils,.nils,.bool false,.bool false,.bool false,.slice 6 0 1 (some 1) 3,.nils] 56 false false 7 0 [(7,0,15)]),
  (768,.cells [.int .i64 3,.int .i64 0,.str [91,93],.nils] 25 false false 768 0 [(768,0,4)])],
 205,769⟩
noncomputable def seam4:Seam:=⟨[],[],
 205,1644⟩
noncomputable def seam5:Seam:=⟨[
  (4,.int .i64 0),
  (18,.ptr 1655 0),
  (19,.ptr 2072 0)],
 [
  (1645,.cells [.int .i64 1,.int .i64 0,.str [],.nils] 25 false false 1645 0 [(1645,0,4)]),
  (1648,.cells [.int .i64 3,.int .i64 0,.str [97],.nils] 25 false false 1648 0 [(1648,0,4)]),
  (1650,.cells [.int .i64 1,.int .i64 0,.str [],.nils,.int .i64 5,.int .i64 0,.str [102],.slice 1648 0 1 (some 1) 4] 25 false false 1650 0 [(1650,0,8)]),
  (1652,.cells [.int .i64 5,.int .i64 0,.str [61],.slice 1650 0 2 (some 2) 4] 25 false false 1652 0 [(1652,0,4)]),
  (1653,.cells [.int .i64 0,.int .i64 1,.slice 1645 0 1 (some 1) 4,.nils,.slice 1652 0 1 (some 1) 4] 63 false false 1653 0 [(1653,0,5)]),
  (1654,.cells [.str [112],.int .i64 1,.slice 1653 0 1 (some 1) 5] 66 false false 1654 0 [(1654,0,3)]),
  (1655,.cells [.slice 1654 0 1 (some 1) 3] 69 false false 1655 0 [(1655,0,1)]),
  (2007,.cells [.bool false,.bool false,.bool false,.nils,.nils] 56 false true 2007 0 [(2015,0,10)]),
  (2015,.cells [.bool false,.bool false,.bool false,.slice 2027 0 1 none 3,.nils,.bool false,.bool false,.bool false,.slice 2023 0 1 none 3,.nils] 56 false false 2007 0 []),
  (2023,.cells [.str [97],.int .i64 0,.nils] 53 false false 2023 0 [(2023,0,3)]),
  (2025,.cells [.int .i64 1] 3 false false 2025 0 [(2025,0,1)]),
  (2027,.cells [.str [102],.int .i64 1,.slice 2025 0 1 none 1] 53 false false 2027 0 [(2027,0,3)]),
  (2029,.cells [.int .i64 0] 3 false false 2029 0 [(2029,0,1)]),
  (2031,.cells [.slice 2029 0 1 none 1] 29 false false 2031 0 [(2031,0,1)]),
  (2033,.cells [.int .i64 0] 3 false false 2033 0 [(2033,0,1)]),
  (2035,.cells [.slice 2033 0 1 none 1] 29 false false 2035 0 [(2035,0,1)]),
  (2037,.cells [.slice 2035 0 1 none 1] 70 false false 2037 0 [(2037,0,1)]),
  (2072,.cells [.slice 2015 0 2 none 5,.slice 2031 0 1 none 1,.slice 2037 0 1 none 1,.nils] 73 false false 2072 0 [(2072,0,4)])],
 205,2073⟩
noncomputable def seam6:Seam:=⟨[
  (18,.ptr 1655 0),
  (19,.ptr 2072 0)],
 [
  (1645,.cells [.int .i64 1,.int .i64 0,.str [],.nils] 25 false false 1645 0 [(1645,0,4)]),
  (1648,.cells [.int .i64 3,.int .i64 0,.str [97],.nils] 25 false false 1648 0 [(1648,0,4)]),
  (1650,.cells [.int .i64 1,.int .i64 0,.str [],.nils,.int .i64 5,.int .i64 0,.str [102],.slice 1648 0 1 (some 1) 4] 25 false false 1650 0 [(1650,0,8)]),
  (1652,.cells [.int .i64 5,.int .i64 0,.str [61],.slice 1650 0 2 (some 2) 4] 25 false false 1652 0 [(1652,0,4)]),
  (1653,.cells [.int .i64 0,.int .i64 1,.slice 1645 0 1 (some 1) 4,.nils,.slice 1652 0 1 (some 1) 4] 63 false false 1653 0 [(1653,0,5)]),
  (1654,.cells [.str [112],.int .i64 1,.slice 1653 0 1 (some 1) 5] 66 false false 1654 0 [(1654,0,3)]),
  (1655,.cells [.slice 1654 0 1 (some 1) 3] 69 false false 1655 0 [(1655,0,1)]),
  (2007,.cells [.bool false,.bool false,.bool false,.nils,.nils] 56 false true 2007 0 [(2015,0,10)]),
  (2015,.cells [.bool false,.bool false,.bool false,.slice 2027 0 1 none 3,.nils,.bool false,.bool false,.bool false,.slice 2023 0 1 none 3,.nils] 56 false false 2007 0 []),
  (2023,.cells [.str [97],.int .i64 0,.nils] 53 false false 2023 0 [(2023,0,3)]),
  (2025,.cells [.int .i64 1] 3 false false 2025 0 [(2025,0,1)]),
  (2027,.cells [.str [102],.int .i64 1,.slice 2025 0 1 none 1] 53 false false 2027 0 [(2027,0,3)]),
  (2029,.cells [.int .i64 0] 3 false false 2029 0 [(2029,0,1)]),
  (2031,.cells [.slice 2029 0 1 none 1] 29 false false 2031 0 [(2031,0,1)]),
  (2033,.cells [.int .i64 0] 3 false false 2033 0 [(2033,0,1)]),
  (2035,.cells [.slice 2033 0 1 none 1] 29 false false 2035 0 [(2035,0,1)]),
  (2037,.cells [.slice 2035 0 1 none 1] 70 false false 2037 0 [(2037,0,1)]),
  (2072,.cells [.slice 2015 0 2 none 5,.slice 2031 0 1 none 1,.slice 2037 0 1 none 1,.nils] 73 false false 2072 0 [(2072,0,4)])],
 205,2488⟩
noncomputable def E0:Env:=G0x Tryz.prog
noncomputable def d0J:Code:=match Tryz.f4.body with |some c=>c|none=>.skip
noncomputable def O0a(n:Nat)(c:Code):Code:=match(C0E n c).2 with |some d=>d|none=>.skip
noncomputable def c0Z:Code:=O0a 9 d0J
noncomputable def d0v:Code:=O0a 1 c0Z
noncomputable def d0x:Code:=O0a 1 d0v
noncomputable def d0o:Code:=O0a 3 d0x
noncomputable def d0d:Code:=O0a 2 d0o
noncomputable def f0h:Code:=O0a 2 d0d
theorem e0w:((A0v 100000 E0 false (C0E 9 d0J).1 ⟨Tr.full DT,205,[],none⟩ St.new).all seam1.covers)=true:=by kernel_rfl
theorem e0O:((A0v 100000 E0 false (C0E 1 c0Z).1 seam1.T seam1.s).all seam2.covers)=true:=by kernel_rfl
theorem f0b:((A0v 100000 E0 false (C0E 1 d0v).1 seam2.T seam2.s).all seam3.covers)=true:=by kernel_rfl
theorem e0o:((A0v 100000 E0 false (C0E 3 d0x).1 seam3.T seam3.s).all seam4.covers)=true:=by kernel_rfl
end Go.Proofs.YtibaljifcbpmoaaGreatDoor

