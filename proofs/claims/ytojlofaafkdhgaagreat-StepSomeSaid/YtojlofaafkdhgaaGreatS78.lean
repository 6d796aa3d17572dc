/- Part S78 of the proofs about the program: K89. Conditions: none. -/
import Derived.Test.YtojlofaafkdhgaaGreatS77
import Derived.Test.YtojlofaafkdhgaaGreatS59
import Derived.Test.YtojlofaafkdhgaaGreatS04
import Derived.Test.YtojlofaafkdhgaaGreatProg
import Derived.KernelRfl
namespace Go.Sak
open Go Go.RowKit Go.Proofs
set_option linter.unusedVariables false
set_option linter.unusedSimpArgs false
set_option maxRecDepth 10000
set_option maxHeartbeats 8000000
def SC0 : State := ⟨⟨1, 3, 0, 0, 0, 0, false⟩, ⟨0, 0, 0⟩, [⟨0, 0⟩, ⟨1, 0⟩], [], [], ⟨0, []⟩, ⟨0, []⟩, 0, [⟨0, 0, 0, 0, 0, 0, 0, 0, false, 0, 0⟩, ⟨0, 0, 0, 0, 0, 0, 0, 0, false, 0, 0⟩, ⟨0, 0, 0, 0, 0, 0, 0, 0, false, 0, 0⟩], []⟩
def SC1 : State := ⟨⟨1, 3, 0, 0, 0, 0, false⟩, ⟨0, 0, 0⟩, [⟨0, 0⟩, ⟨1, 0⟩], [], [], ⟨0, []⟩, ⟨0, []⟩, 0, [⟨1, 1, 7, 0, 0, 0, 0, 0, false, 0, 0⟩, ⟨0, 0, 0, 0, 0, 0, 0, 0, false, 0, 0⟩, ⟨0, 0, 0, 0, 0, 0, 0, 0, false, 0, 0⟩], []⟩
def SC2 : State := ⟨⟨1, 3, 0, 0, 0, 0, false⟩, ⟨0, 0, 0⟩, [⟨0, 0⟩, ⟨1, 0⟩], [], [], ⟨0, []⟩, ⟨0, []⟩, 0, [⟨1, 1, 7, 0, 0, 0, 0, 0, false, 0, 0⟩, ⟨0, 0, 0, 0, 0, 0, 0, 0, false, 0, 0⟩, ⟨1, 4, 0, 0, 0, 0, 0, 0, false, 0, 0⟩], []⟩
def SCa : State := ⟨⟨1, 3, 0, 0, 0, 0, false⟩, ⟨0, 0, 0⟩, [⟨0, 0⟩, ⟨1, 0⟩], [], [2], ⟨0, []⟩, ⟨0, []⟩, 0, [⟨1, 1, 7, 0, 0, 0, 0, 0, false, 0, 0⟩, ⟨0, 0, 0, 0, 0, 0, 0, 0, false, 0, 0⟩, ⟨1, 4, 0, 0, 1, 0, 0, 0, false, 0, 0⟩], []⟩
def SCb : State := ⟨⟨1, 3, 0, 0, 0, 0, false⟩, ⟨0, 0, 0⟩, [⟨0, 0⟩, ⟨1, 0⟩], [0], [2], ⟨0, []⟩, ⟨0, []⟩, 0, [⟨1, 1, 7, 0, 2, 0, 0, 0, false, 0, 0⟩, ⟨0, 0, 0, 0, 0, 0, 0, 0, false, 0, 0⟩, ⟨1, 4, 0, 0, 1, 0, 0, 0, false, 0, 0⟩], []⟩
def SCc : State := ⟨⟨1, 3, 0, 0, 0, 0, false⟩, ⟨1, 1, 0⟩, [⟨2, 7⟩, ⟨1, 0⟩], [], [], ⟨1, []⟩, ⟨1, []⟩, 0, [⟨0, 1, 7, 0, 0, 0, 0, 0, false, 1, 0⟩, ⟨0, 0, 0, 0, 0, 0, 0, 0, false, 0, 0⟩, ⟨0, 4, 0, 0, 0, 0, 0, 0, false, 1, 7⟩], [⟨0, 1, 7, 1, 0⟩, ⟨2, 4, 0, 1, 7⟩]⟩
def SZ : State := ⟨⟨0, 0, 0, 0, 0, 0, false⟩, ⟨0, 0, 0⟩, [], [], [], ⟨0, []⟩, ⟨0, []⟩, 0, [], []⟩
set_option linter.defProp false
def qW := And.intro (And.intro (show (encZ SCa)[18]? = some (.slv 11 [[.int .i64 1, .int .i64 1, .int .i64 7, .int .i64 0, .int .i64 0, .int .i64 0, .int .i64 0, .int .i64 0, .bool false, .int .i64 0, .int .i64 0], [.int .i64 0, .int .i64 0, .int .i64 0, .int .i64 0, .int .i64 0, .int .i64 0, .int .i64 0, .int .i64 0, .bool false, .int .i64 0, .int .i64 0], [.int .i64 1, .int .i64 4, .int .i64 0, .int .i64 0, .int .i64 1, .int .i64 0, .int .i64 0, .int .i64 0, .bool false, .int .i64 0, .int .i64 0]]) from rfl) (show (encZ SCb)[18]? = some (.slv 11 [[.int .i64 1, .int .i64 1, .int .i64 7, .int .i64 0, .int .i64 2, .int .i64 0, .int .i64 0, .int .i64 0, .bool false, .int .i64 0, .int .i64 0], [.int .i64 0, .int .i64 0, .int .i64 0, .int .i64 0, .int .i64 0, .int .i64 0, .int .i64 0, .int .i64 0, .bool false, .int .i64 0, .int .i64 0], [.int .i64 1, .int .i64 4, .int .i64 0, .int .i64 0, .int .i64 1, .int .i64 0, .int .i64 0, .int .i64 0, .bool false, .int .i64 0, .int .i64 0]]) from rfl)) (And.intro (show (encZ SCc)[18]? = some (.slv 11 [[.int .i64 0, .int .i64 1, .int .i64 7, .int .i64 0, .int .i64 0, .int .i64 0, .int .i64 0, .int .i64 0, .bool false, .int .i64 1, .int .i64 0], [.int .i64 0, .int .i64 0, .int .i64 0, .int .i64 0, .int .i64 0, .int .i64 0, .int .i64 0, .int .i64 0, .bool false, .int .i64 0, .int .i64 0], [.int .i64 0, .int .i64 4, .int .i64 0, .int .i64 0, .int .i64 0, .int .i64 0, .int .i64 0, .int .i64 0, .bool false, .int .i64 1, .int .i64 7]]) from rfl) (And.intro (show ((3 : Nat) : Int) = 3 from rfl) (show ((0 : Nat) : Int) = 0 from rfl)))
theorem wk_z0 : Wk (.agg [.int .i64 0, .int .i64 0, .int .i64 0, .int .i64 0, .int .i64 0, .int .i64 0, .bool false, .int .i64 0, .int .i64 0, .int .i64 0, .slnil, .slnil, .slnil, .int .i64 0, .slnil, .int .i64 0, .slnil, .int .i64 0, .slnil, .slnil]) (.agg (encZ SZ)) := Wk.agg (by
  simp only [SZ, encZ, encX, List.map_nil, wks_cons, wks_nil]
  exact ⟨Wk.refl _, fun h => h, Wk.refl _, fun h => h, Wk.refl _, fun h => h, Wk.refl _, fun h => h, Wk.refl _, fun h => h, Wk.refl _, fun h => h, Wk.refl _, fun h => h, Wk.refl _, fun h => h, Wk.refl _, fun h => h, Wk.refl _, fun h => h, Wk.nil _, fun h => h, Wk.nil _, fun h => h, Wk.nil _, fun h => h, Wk.refl _, fun h => h, Wk.nil _, fun h => h, Wk.refl _, fun h => h, Wk.nil _, fun h => h, Wk.refl _, fun h => h, Wk.nil _, fun h => h, Wk.nil _, fun h => h, trivial⟩)
theorem cw0 : fabNew ⟨1, 3, 0, 0, 0, 0, false⟩ = (SC0, 0) := by decide +kernel
theorem cw1 : fabInvoke SC0 0 1 7 0 = (SC1, 0) := by decide +kernel
theorem cw2 : fabInvoke SC1 2 4 0 0 = (SC2, 0) := by decide +kernel
theorem cw3 : pPick SC0 0 = (SC0, 121) := by decide +kernel
theorem cw4 : pPick SC0 3 = (SC0, 123) := by decide +kernel
theorem cw5 : pPick SZ 0 = (SZ, 20) := by decide +kernel
theorem cw6 : pPick SC2 2 = (SCa, 0) := by decide +kernel
theorem cw7 : pSome SC2 [0, 1, 0, 9, 2] = (SCb, 3) := by decide +kernel
theorem cw8 : pRounds SC2 100 = (SCc, 9) := by decide +kernel
theorem cw9 : pActive SC2 = [0, 2] := by decide +kernel
theorem cw10 : pQuiet SC2 = false := by decide +kernel
theorem cw11 : pQuiet SCc = true := by decide +kernel
theorem cw12 : pActive SCc = [] := by decide +kernel
theorem conC33 : Con Tryz.prog 33 [.agg [.int .i64 1, .int .i64 3, .int .i64 0, .int .i64 0, .int .i64 0, .int .i64 0, .bool false]] (.tup [.agg (encZ SC0), .int .i64 0], [], []) := by
  have := con33 (c_lg := 1) (c_th := 3) (c_pol := 0) (c_wt := 0) (c_spin := 0) (c_yld := 0) (c_single := false)
  rw [cw0] at this; exact this
theorem conC34a : Con Tryz.prog 34 [.agg (encZ SC0), .int .i64 0, .int .i64 1, .int .i64 7, .int .i64 0] (.tup [.agg (encZ SC1), .int .i64 0], [], []) := by
  have := con34s (s := SC0) (id := 0) (kind := 1) (val := 7) (untl := 0) (by unfold Bd; decide)
  rw [cw1] at this; exact this
theorem conC34b : Con Tryz.prog 34 [.agg (encZ SC1), .int .i64 2, .int .i64 4, .int .i64 0, .int .i64 0] (.tup [.agg (encZ SC2), .int .i64 0], [], []) := by
  have := con34s (s := SC1) (id := 2) (kind := 4) (val := 0) (untl := 0) (by unfold Bd; decide)
  rw [cw2] at this; exact this
theorem conC48a : Con Tryz.prog 48 [.agg (encZ SC0), .int .i64 0] (.tup [.agg (encZ SC0), .int .i64 121], [], []) := by
  have := con48s (s := SC0) (id := 0) (by unfold Bd; decide)
  rw [cw3] at this; exact this
theorem conC48b : Con Tryz.prog 48 [.agg (encZ SC0), .int .i64 3] (.tup [.agg (encZ SC0), .int .i64 123], [], []) := by
  have := con48s (s := SC0) (id := 3) (by unfold Bd; decide)
  rw [cw4] at this; exact this
theorem conC48c : Con Tryz.prog 48 [.agg (encZ SZ), .int .i64 0] (.tup [.agg (encZ SZ), .int .i64 20], [], []) := by
  have := con48s (s := SZ) (id := 0) (by unfold Bd; decide)
  rw [cw5] at this; exact this
theorem conC48z : Con Tryz.prog 48 [.agg [.int .i64 0, .int .i64 0, .int .i64 0, .int .i64 0, .int .i64 0, .int .i64 0, .bool false, .int .i64 0, .int .i64 0, .int .i64 0, .slnil, .slnil, .slnil, .int .i64 0, .slnil, .int .i64 0, .slnil, .int .i64 0, .slnil, .slnil], .int .i64 0] (.tup [.agg (encZ SZ), .int .i64 20], [], []) := con_wk wk_z0 conC48c
theorem conC48d : Con Tryz.prog 48 [.agg (encZ SC2), .int .i64 2] (.tup [.agg (encZ SCa), .int .i64 0], [], []) := by
  have := con48s (s := SC2) (id := 2) (by unfold Bd; decide)
  rw [cw6] at this; exact this
theorem conC49 : Con Tryz.prog 49 [.agg (encZ SC2), .slv 1 [[.int .i64 0], [.int .i64 1], [.int .i64 0], [.int .i64 9], [.int .i64 2]]] (.tup [.agg (encZ SCb), .int .i64 3], [], []) := by
  have := con49s (s := SC2) (l := [0, 1, 0, 9, 2]) (by unfold Bd; decide) (by decide)
  rw [cw7] at this; exact this
theorem conC51 : Con Tryz.prog 51 [.agg (encZ SC2), .int .i64 100] (.tup [.agg (encZ SCc), .int .i64 9], [], []) := by
  have := con51s (s := SC2) (m := 100) (by unfold Bd; decide)
  rw [cw8] at this; exact this
theorem conC50a : Con Tryz.prog 50 [.agg (encZ SC2)] (.slv 1 [[.int .i64 0], [.int .i64 2]], [], []) := by
  have := con50s (s := SC2) (by unfold Bd; decide)
  rw [cw9] at this; exact this
theorem conC50b : Con Tryz.prog 50 [.agg (encZ SCc)] (.slv 1 [], [], []) := by
  have := con50s (s := SCc) (by unfold Bd; decide)
  rw [cw12] at this; exact this
theorem conC122a : Con Tryz.prog 122 [.agg (encZ SC2)] (.bool false, [], []) := by
  have := con122s (s := SC2) (by unfold Bd; decide)
  rw [cw10] at this; exact this
theorem conC122b : Con Tryz.prog 122 [.agg (encZ SCc)] (.bool true, [], []) := by
  have := con122s (s := SCc) (by unfold Bd; decide)
  rw [cw11] at this; exact this
theorem conC52 : Con Tryz.prog 52 [.slv 1 [[.int .i64 0], [.int .i64 2]], .slv 1 [[.int .i64 0], [.int .i64 2]]] (.bool true, [], []) := by
  have := con52 (a := [0, 2]) (b := [0, 2]) (by simp)
  simp only [decide_true] at this; exact this
def F47 : AFn := ⟨164, (.seq (.reg [o1 0 (.mv (.const (.bool false)))]) (.seq (.reg [o1 16 (.build [(.int .i64 0), (.int .i64 0), (.int .i64 0), (.int .i64 0), (.int .i64 0), (.int .i64 0), (.bool false)] [(0, 1, (ci 1)), (1, 1, (ci 3))]), o1 17 (.call 33 [16]), o1 15 (.mv 17), o1 18 (.ext 15 0), o1 19 (.ext 15 1), o1 1 (.alloc 33 [(.int .i64 0), (.int .i64 0), (.int .i64 0), (.int .i64 0), (.int .i64 0), (.int .i64 0), (.bool false), (.int .i64 0), (.int .i64 0), (.int .i64 0), .slnil, .slnil, .slnil, (.int .i64 0), .slnil, (.int .i64 0), .slnil, (.int .i64 0), .slnil, .slnil]), o2 (.st 20 1 18), o1 2 (.mv 19)]) (.seq (.reg [o1 21 (.ld 20 true 1), o1 22 (.call 48 [21, (ci 0)]), o1 20 (.mv 22), o1 23 (.ext 20 0), o1 24 (.ext 20 1), o1 3 (.alloc 33 [(.int .i64 0), (.int .i64 0), (.int .i64 0), (.int .i64 0), (.int .i64 0), (.int .i64 0), (.bool false), (.int .i64 0), (.int .i64 0), (.int .i64 0), .slnil, .slnil, .slnil, (.int .i64 0), .slnil, (.int .i64 0), .slnil, (.int .i64 0), .slnil, .slnil]), o2 (.st 20 3 23), o1 4 (.mv 24)]) (.seq (.reg [o1 26 (.ld 20 true 1), o1 27 (.call 48 [26, (ci 3)]), o1 25 (.mv 27), o1 28 (.ext 25 0), o1 29 (.ext 25 1), o1 5 (.alloc 33 [(.int .i64 0), (.int .i64 0), (.int .i64 0), (.int .i64 0), (.int .i64 0), (.int .i64 0), (.bool false), (.int .i64 0), (.int .i64 0), (.int .i64 0), .slnil, .slnil, .slnil, (.int .i64 0), .slnil, (.int .i64 0), .slnil, (.int .i64 0), .slnil, .slnil]), o2 (.st 20 5 28), o1 6 (.mv 29)]) (.seq (.reg [o1 31 (.build [(.int .i64 0), (.int .i64 0), (.int .i64 0), (.int .i64 0), (.int .i64 0), (.int .i64 0), (.bool false), (.int .i64 0), (.int .i64 0), (.int .i64 0), .slnil, .slnil, .slnil, (.int .i64 0), .slnil, (.int .i64 0), .slnil, (.int .i64 0), .slnil, .slnil] []), o1 32 (.call 48 [31, (ci 0)]), o1 30 (.mv 32), o1 33 (.ext 30 0), o1 34 (.ext 30 1), o1 7 (.alloc 33 [(.int .i64 0), (.int .i64 0), (.int .i64 0), (.int .i64 0), (.int .i64 0), (.int .i64 0), (.bool false), (.int .i64 0), (.int .i64 0), (.int .i64 0), .slnil, .slnil, .slnil, (.int .i64 0), .slnil, (.int .i64 0), .slnil, (.int .i64 0), .slnil, .slnil]), o2 (.st 20 7 33), o1 8 (.mv 34)]) (.seq (.reg [o1 36 (.ld 20 true 1), o1 37 (.call 34 [36, (ci 0), (ci 1), (ci 7), (ci 0)]), o1 35 (.mv 37), o1 38 (.ext 35 0), o1 39 (.ext 35 1), o2 (.st 20 1 38)]) (.seq (.reg [o1 41 (.ld 20 true 1), o1 42 (.call 34 [41, (ci 2), (ci 4), (ci 0), (ci 0)]), o1 40 (.mv 42), o1 43 (.ext 40 0), o1 44 (.ext 40 1), o2 (.st 20 1 43)]) (.seq (.reg [o1 46 (.ld 20 true 1), o1 47 (.call 48 [46, (ci 2)]), o1 45 (.mv 47), o1 48 (.ext 45 0), o1 49 (.ext 45 1), o1 9 (.alloc 33 [(.int .i64 0), (.int .i64 0), (.int .i64 0), (.int .i64 0), (.int .i64 0), (.int .i64 0), (.bool false), (.int .i64 0), (.int .i64 0), (.int .i64 0), .slnil, .slnil, .slnil, (.int .i64 0), .slnil, (.int .i64 0), .slnil, (.int .i64 0), .slnil, .slnil]), o2 (.st 20 9 48), o1 10 (.mv 49)]) (.seq (.reg [o1 51 (.ld 20 true 1), o1 52 (.bslice 3 1 5 [(ci 0), (ci 1), (ci 0), (ci 9), (ci 2)]), o1 53 (.call 49 [51, 52]), o1 50 (.mv 53), o1 54 (.ext 50 0), o1 55 (.ext 50 1), o1 11 (.alloc 33 [(.int .i64 0), (.int .i64 0), (.int .i64 0), (.int .i64 0), (.int .i64 0), (.int .i64 0), (.bool false), (.int .i64 0), (.int .i64 0), (.int .i64 0), .slnil, .slnil, .slnil, (.int .i64 0), .slnil, (.int .i64 0), .slnil, (.int .i64 0), .slnil, .slnil]), o2 (.st 20 11 54), o1 12 (.mv 55)]) (.seq (.reg [o1 57 (.ld 20 true 1), o1 58 (.call 51 [57, (ci 100)]), o1 56 (.mv 58), o1 59 (.ext 56 0), o1 60 (.ext 56 1), o1 13 (.alloc 33 [(.int .i64 0), (.int .i64 0), (.int .i64 0), (.int .i64 0), (.int .i64 0), (.int .i64 0), (.bool false), (.int .i64 0), (.int .i64 0), (.int .i64 0), .slnil, .slnil, .slnil, (.int .i64 0), .slnil, (.int .i64 0), .slnil, (.int .i64 0), .slnil, .slnil]), o2 (.st 20 13 59), o1 14 (.mv 60)]) (.seq (.seq (.reg [o1 61 (.faddr 18 9), o1 62 (.ld 1 false 61), o1 63 (.len 62), o1 64 (.bin .neq 63 (ci 3)), o1 65 (.mv 64), o4 66 (.faddr 18 11) 65, o4 67 (.ld 1 false 66) 65, o4 68 (.len 67) 65, o4 69 (.bin .neq 68 (ci 3)) 65, o1 70 (.pick 65 (.const (.bool true)) 69), o1 71 (.mv 70), o4 72 (.faddr 18 13) 71, o4 73 (.ld 1 false 72) 71, o4 74 (.len 73) 71, o4 75 (.bin .neq 74 (ci 3)) 71, o1 76 (.pick 71 (.const (.bool true)) 75)]) (.cond 76 (.seq (.reg [o1 0 (.mv (.const (.bool false)))]) .ret) .skip)) (.seq (.reg [o1 77 (.mv 4), o1 78 (.bin .eql 77 (ci 121)), o1 79 (.mv 78), o3 80 (.mv 6) 79, o3 81 (.bin .eql 80 (ci 123)) 79, o1 82 (.pick 79 81 (.const (.bool false))), o1 83 (.mv 82), o3 84 (.mv 8) 83, o3 85 (.bin .eql 84 (ci 20)) 83, o1 86 (.pick 83 85 (.const (.bool false))), o1 87 (.mv 86), o3 88 (.mv 10) 87, o3 89 (.bin .eql 88 (ci 0)) 87, o1 90 (.pick 87 89 (.const (.bool false))), o1 91 (.mv 90), o3 92 (.faddr 18 9) 91, o3 93 (.ld 1 false 92) 91, o3 94 (.iaddr 11 93 (ci 2)) 91, o3 95 (.faddr 4 94) 91, o3 96 (.ld 1 false 95) 91, o3 97 (.bin .eql 96 (ci 1)) 91, o1 98 (.pick 91 97 (.const (.bool false))), o1 99 (.mv 98), o3 100 (.mv 12) 99, o3 101 (.bin .eql 100 (ci 3)) 99, o1 102 (.pick 99 101 (.const (.bool false))), o1 103 (.mv 102), o3 104 (.faddr 18 11) 103, o3 105 (.ld 1 false 104) 103, o3 106 (.iaddr 11 105 (ci 0)) 103, o3 107 (.faddr 4 106) 103, o3 108 (.ld 1 false 107) 103, o3 109 (.bin .eql 108 (ci 2)) 103, o1 110 (.pick 103 109 (.const (.bool false))), o1 111 (.mv 110), o3 112 (.faddr 18 11) 111, o3 113 (.ld 1 false 112) 111, o3 114 (.iaddr 11 113 (ci 2)) 111, o3 115 (.faddr 4 114) 111, o3 116 (.ld 1 false 115) 111, o3 117 (.bin .eql 116 (ci 1)) 111, o1 118 (.pick 111 117 (.const (.bool false))), o1 119 (.mv 118), o3 120 (.faddr 18 13) 119, o3 121 (.ld 1 false 120) 119, o3 122 (.iaddr 11 121 (ci 2)) 119, o3 123 (.faddr 10 122) 119, o3 124 (.ld 1 false 123) 119, o3 125 (.bin .eql 124 (ci 7)) 119, o1 126 (.pick 119 125 (.const (.bool false))), o1 127 (.mv 126), o3 128 (.faddr 18 13) 127, o3 129 (.ld 1 false 128) 127, o3 130 (.iaddr 11 129 (ci 2)) 127, o3 131 (.faddr 9 130) 127, o3 132 (.ld 1 false 131) 127, o3 133 (.bin .eql 132 (ci 1)) 127, o1 134 (.pick 127 133 (.const (.bool false))), o1 135 (.mv 134), o3 136 (.mv 14) 135, o3 137 (.bin .gtr 136 (ci 6)) 135, o1 138 (.pick 135 137 (.const (.bool false))), o1 139 (.mv 138), o3 140 (.mv 14) 139, o3 141 (.bin .lss (.tmp 140) (ci 20)) 139, o1 142 (.pick 139 (.tmp 141) (.const (.bool false))), o1 143 (.mv (.tmp 142)), o3 144 (.ld 20 true 1) 143, o3 145 (.call 50 [(.tmp 144)]) 143, o3 146 (.bslice 3 1 2 [(ci 0), (ci 2)]) 143, o3 147 (.call 52 [(.tmp 145), (.tmp 146)]) 143, o1 148 (.pick (.tmp 143) (.tmp 147) (.const (.bool false))), o1 149 (.mv (.tmp 148)), o3 150 (.ld 20 true 1) 149, o3 151 (.call 122 [(.tmp 150)]) 149, o3 152 (.not (.tmp 151)) 149, o1 153 (.pick (.tmp 149) (.tmp 152) (.const (.bool false))), o1 154 (.mv (.tmp 153)), o3 155 (.ld 20 true 13) 154, o3 156 (.call 122 [(.tmp 155)]) 154, o1 157 (.pick (.tmp 154) (.tmp 156) (.const (.bool false))), o1 158 (.mv (.tmp 157)), o3 159 (.ld 20 true 13) 158, o3 160 (.call 50 [(.tmp 159)]) 158, o3 161 (.len (.tmp 160)) 158, o3 162 (.bin .eql (.tmp 161) (ci 0)) 158, o1 163 (.pick (.tmp 158) (.tmp 162) (.const (.bool false))), o1 0 (.mv (.tmp 163))]) .ret)))))))))))), [(0, none)]⟩
theorem x47 : xf Tryz.prog 47 = some F47 := by kernel_rfl
theorem ia_lit2 {f : Nat → Option Blk} {sz : Nat} {r r1 r2 : List AV} {rows : List (List AV)} : doIaddr f sz (.slv sz (r :: r1 :: r2 :: rows)) (.int .i64 2) = some { v := .pv r2 } := by
  simp [doIaddr]; omega
theorem con47 : Con Tryz.prog 47 [] (.bool true, [], []) := by
  refine mcb_of_vc mix x47 (by simp [F47]) fun hw _ => ?_
  clear hw
  repeat' with_reducible first | refine gTn_of (fun h => ?_) (fun h => ?_) | refine gT_of (fun h => ?_) (fun h => ?_) | refine caseTn_of (fun h => ?_) (fun h => ?_) | refine caseT_of (fun h => ?_) (fun h => ?_) | refine FN ?_ ?_ ?_ ?_ rfl ?_ | refine kv_ifn ?_ ?_ | refine kv_if ?_ ?_ | refine k_if ?_ ?_ | refine IA ?_ ?_ ?_ | refine L1 ?_ ?_ | refine L2 ?_ ?_ | refine L3 ?_ ?_ ?_ ?_ | refine L4 ?_ ?_ | refine L5 ?_ ?_ ?_ ?_ ?_ | refine L6 ?_ ?_ ?_ ?_ ?_ | refine AC.p0 conC33 ?_ (by simp -implicitDefEqProofs only [qU, pure_encZ]; done) ?_ ?_ | refine AC.p0 conC34a ?_ (by simp -implicitDefEqProofs only [qU, pure_encZ]; done) ?_ ?_ | refine AC.p0 conC34b ?_ (by simp -implicitDefEqProofs only [qU, pure_encZ]; done) ?_ ?_ | refine AC.p0 conC48a ?_ (by simp -implicitDefEqProofs only [qU, pure_encZ]; done) ?_ ?_ | refine AC.p0 conC48b ?_ (by simp -implicitDefEqProofs only [qU, pure_encZ]; done) ?_ ?_ | refine AC.p0 conC48z ?_ (by simp -implicitDefEqProofs only [qU, pure_encZ]; done) ?_ ?_ | refine AC.p0 conC48d ?_ (by simp -implicitDefEqProofs only [qU, pure_encZ]; done) ?_ ?_ | refine AC.p0 conC51 ?_ (by simp -implicitDefEqProofs only [qU, pure_encZ]; done) ?_ ?_ | refine AC.p0 conC50a ?_ (by simp -implicitDefEqProofs only [qU, pure_encZ]; done) ?_ ?_ | refine AC.p0 conC50b ?_ (by simp -implicitDefEqProofs only [qU, pure_encZ]; done) ?_ ?_ | refine AC.p0 conC122a ?_ (by simp -implicitDefEqProofs only [qU, pure_encZ]; done) ?_ ?_ | refine AC.p0 conC122b ?_ (by simp -implicitDefEqProofs only [qU, pure_encZ]; done) ?_ ?_ | refine AC.give (f := 49) [865] ?_ ?_ ?_ | refine ACK.of conC49 ?_ ?_ | refine ACV.of conC52 ?_ ?_ ?_ | refine AC.viewAll ?_ ?_ ?_ | simp -implicitDefEqProofs only [F47, qA, ld_0, ld_pv, st_0, splice, doEqs, qU, List.reduceReplicate, Nat.reduceAdd, Nat.reduceSub, Nat.reduceLeDiff, Nat.reduceEqDiff, Nat.reduceMul, reduceIte, reduceCtorEq, qI, Nat.reduceLT, Nat.reduceBEq, up_s, Int.toNat_natCast, encT, qZ, qW, ia_lit, ia_lit1, ia_lit2, Int.natCast_zero, Int.reduceEq, Int.reduceNe, doBslice, *]
  all_goals first
    | exact Wk.refl _
    | (exfalso; revert h; decide)
    | trace_state

end Go.Sak
