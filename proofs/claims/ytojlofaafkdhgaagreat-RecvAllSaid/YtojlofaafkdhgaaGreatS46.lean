/- Part S46 of the proofs about the program: Pq, K45. Conditions: none. -/
import Derived.Test.YtojlofaafkdhgaaGreatS45
import Derived.Test.YtojlofaafkdhgaaGreatS42
import Derived.Test.YtojlofaafkdhgaaGreatS47
import Derived.Test.YtojlofaafkdhgaaGreatS04
import Derived.Test.YtojlofaafkdhgaaGreatProg
import Derived.KernelRfl
namespace Go.Sak
open Go Go.RowKit
set_option linter.unusedVariables false
set_option linter.unusedSimpArgs false

def BdP (s : State) (k : Nat) : Prop := s.slots.length ≤ k ∧ s.sends.length ≤ k ∧ s.recvs.length ≤ k ∧ s.full.ln.length ≤ k ∧ s.empty.ln.length ≤ k ∧ s.threads.length ≤ k ∧ s.log.length ≤ k
theorem fill_bd {c : Config} {b : Int} {n : Nat} (h : confOk c = true) (hn : (n : Int) ≤ confRoom c) : BdP (fillS c b n) 1000 := by
  have hr := room_of h
  refine ⟨?_, ?_, ?_, ?_, ?_, ?_, ?_⟩
  · show (fillSl (confRoom c).toNat b n).length ≤ _; rw [fillSl_len]; omega
  · exact Nat.zero_le _
  · exact Nat.zero_le _
  · exact Nat.zero_le _
  · exact Nat.zero_le _
  · show (fillT c b n).length ≤ _; rw [fillT_len]; omega
  · show ((List.range n).map _).length ≤ _; simp; omega
theorem put_bd {s : State} {k : Nat} {id : Int} {t : Thread} (h : BdP s k) : BdP (put1 s id t) k := by
  unfold BdP put1 at *; simpa using h
theorem len_w {h t m : Int} (h0 : 0 ≤ h) (h1 : h ≤ t) : posLen ⟨h, t, m⟩ = t - h := by
  simp only [posLen]; split
  · omega
  · rw [if_neg (by omega)]
theorem slotAt_id {l : List Slot} {j : Nat} (h : j < l.length) : slotAt l (j : Int) = j := by
  unfold slotAt; rw [place_id h]; rfl
theorem alone_ok {c : Config} {n : Nat} {val : Int} (h : confOk c = true) (hn : (n : Int) < confRoom c) : ∃ Z vals, sSteps (put1 (fillS c 0 n) (c.th - 1) (t0 2 val 0)) (c.th - 1) 100 = (Z, 7) ∧ BdP Z 1000 ∧ (Z.threads.length : Int) = c.th ∧ (Z.log.length : Int) = n + 1 ∧ Z.sends = [] ∧
    fabQueue Z = ⟨vals, confRoom c, c.pol, 0⟩ ∧ vals.length = n + 1 ∧ (∀ j, j < n → vals.getD j default = (j : Int)) ∧ vals.getD n default = val ∧ (Z.threads.getD (c.th - 1).toNat default).res = 1 := by
  have hr := room_of h
  have hrun := fill_lone (b := 0) (id := c.th - 1) (v := val) h hn (by omega) (by omega) (.inr (.inl rfl)) 93
  have hsd := fill_sd (b := 0) (id := c.th - 1) (v := val) h (by omega : (n : Int) ≤ confRoom c) (by omega) (by omega) (.inr (.inl rfl))
  have hf := s_check_run (s := put1 (fillS c 0 n) (c.th - 1) (t0 2 val 0)) (id := c.th - 1) (93 + 7)
  rw [hrun, fab_iff.2 hsd.fab] at hf
  have hsl : (fillS c 0 n).slots.length = (confRoom c).toNat := fillSl_len
  have hth : (fillS c 0 n).threads.length = c.th.toNat := fillT_len
  refine ⟨put1 (oneIn (fillS c 0 n) (c.th - 1) 2 val) (c.th - 1) (t9 2 val 0 1 0), (List.range (n + 1)).map fun (i : Nat) => ((((fillS c 0 n).slots.set n ⟨(n : Int), val⟩).getD i default).val), ?_, ?_, ?_, ?_, rfl, ?_, by simp, ?_, ?_, ?_⟩
  · unfold sSteps
    rw [show (min (100 : Int) 1000).toNat = 93 + 7 from rfl, hrun]; rfl
  · refine put_bd ⟨?_, Nat.zero_le _, Nat.zero_le _, Nat.zero_le _, Nat.zero_le _, ?_, ?_⟩
    · show ((fillS c 0 n).slots.set _ _).length ≤ _; rw [List.length_set, hsl]; omega
    · show (fillS c 0 n).threads.length ≤ _; rw [hth]; omega
    · show ((List.range n).map _ ++ [_]).length ≤ _; simp; omega
  · show (((fillS c 0 n).threads.set _ _).length : Int) = _; rw [List.length_set, hth]; omega
  · show ((((List.range n).map _ ++ [_]).length : Nat) : Int) = _; simp
  · unfold fabQueue
    rw [if_neg (by simp [hf])]
    have e1 : posLen (put1 (oneIn (fillS c 0 n) (c.th - 1) 2 val) (c.th - 1) (t9 2 val 0 1 0)).word = (n + 1 : Nat) := by
      show posLen ⟨0, (n : Int) + 1, 0⟩ = _
      rw [len_w (by omega) (by omega)]; omega
    have e2 : (put1 (oneIn (fillS c 0 n) (c.th - 1) 2 val) (c.th - 1) (t9 2 val 0 1 0)).slots = (fillS c 0 n).slots.set n ⟨(n : Int), val⟩ := by
      show (fillS c 0 n).slots.set (slotAt (fillS c 0 n).slots (n : Int)) _ = _
      rw [slotAt_id (by rw [hsl]; omega)]; rfl
    have e3 : (((fillS c 0 n).slots.set n ⟨(n : Int), val⟩).length : Int) = confRoom c := by rw [List.length_set, hsl]; omega
    have e4 : (put1 (oneIn (fillS c 0 n) (c.th - 1) 2 val) (c.th - 1) (t9 2 val 0 1 0)).word.h = 0 := rfl
    rw [e1, e2, e3, e4]
    show Queue.mk _ _ c.pol 0 = _
    refine congrArg (fun v => Queue.mk v (confRoom c) c.pol 0) ?_
    refine List.map_congr_left fun i hi => ?_
    rw [List.mem_range] at hi
    rw [show (0 : Int) + (i : Int) = (i : Int) from by omega, slotAt_id (by rw [List.length_set, hsl]; omega)]
  · intro j hj
    have : j < n + 1 := by omega
    simp only [List.getD_eq_getElem?_getD, List.getElem?_map, List.getElem?_range this, Option.map_some, Option.getD_some]
    rw [← List.getD_eq_getElem?_getD, getD_set, if_neg (by omega)]
    show ((fillSl (confRoom c).toNat 0 n).getD j default).val = _
    rw [fillSl_get (by omega)]; simp [hj]
  · have : n < n + 1 := by omega
    simp only [List.getD_eq_getElem?_getD, List.getElem?_map, List.getElem?_range this, Option.map_some, Option.getD_some]
    rw [← List.getD_eq_getElem?_getD, getD_set, if_pos ⟨rfl, by rw [hsl]; omega⟩]
  · show (((fillS c 0 n).threads.set _ _).getD _ _).res = _
    rw [getD_set, if_pos ⟨rfl, by rw [hth]; omega⟩]; rfl
end Go.Sak
namespace Go.Sak
open Go Go.RowKit Go.Proofs
set_option linter.unusedVariables false
set_option linter.unusedSimpArgs false
set_option maxRecDepth 10000
set_option maxHeartbeats 8000000
def F6 : AFn := ⟨152, (.seq (.reg [o1 3 (.box 23 0), o1 6 (.mv (.const (.bool false)))]) (.seq (.reg [o1 23 (.call 21 []), o1 7 (.mv 23)]) (.seq (.reg [o1 25 (.ld 7 true 3), o1 26 (.call 33 [25]), o1 24 (.mv 26), o1 27 (.ext 24 0), o1 28 (.ext 24 1), o1 8 (.alloc 33 [(.int .i64 0), (.int .i64 0), (.int .i64 0), (.int .i64 0), (.int .i64 0), (.int .i64 0), (.bool false), (.int .i64 0), (.int .i64 0), (.int .i64 0), .slnil, .slnil, .slnil, (.int .i64 0), .slnil, (.int .i64 0), .slnil, (.int .i64 0), .slnil, .slnil]), o2 (.st 20 8 27), o1 9 (.mv 28)]) (.seq (.seq (.reg [o1 29 (.mv 9), o1 30 (.bin .neq 29 (ci 0))]) (.cond 30 (.seq (.reg [o1 31 (.mv 7), o1 6 (.mv 31)]) .ret) .skip)) (.seq (.reg [o1 32 (.faddr 10 8), o1 33 (.ld 1 false 32), o1 34 (.len 33), o1 10 (.mv 34)]) (.seq (.seq (.reg [o1 35 (.mv 10), o1 36 (.bin .eql 35 (ci 0))]) (.cond 36 (.seq (.reg [o1 6 (.mv (.const (.bool false)))]) .ret) .skip)) (.seq (.reg [o1 37 (.mv 1), o1 38 (.conv .i64 37), o1 39 (.mv 10), o1 40 (.bin .rem 38 39), o1 11 (.mv 40)]) (.seq (.seq (.reg [o1 12 (.mv (ci 0))]) (.block 0 (.loop (.seq (.seq (.reg [o1 41 (.mv 12), o1 42 (.mv 11), o1 43 (.bin .lss 41 42)]) (.cond 43 .skip (.exit 0))) (.seq (.block 1 (.seq (.reg [o1 47 (.ld 20 true 8), o1 48 (.mv 12), o1 49 (.call 34 [47, (ci 0), (ci 1), 48, (ci 0)]), o1 46 (.mv 49), o1 50 (.ext 46 0), o1 51 (.ext 46 1), o1 13 (.alloc 33 [(.int .i64 0), (.int .i64 0), (.int .i64 0), (.int .i64 0), (.int .i64 0), (.int .i64 0), (.bool false), (.int .i64 0), (.int .i64 0), (.int .i64 0), .slnil, .slnil, .slnil, (.int .i64 0), .slnil, (.int .i64 0), .slnil, (.int .i64 0), .slnil, .slnil]), o2 (.st 20 13 50), o1 14 (.mv 51)]) (.seq (.reg [o1 53 (.ld 20 true 13), o1 54 (.call 23 [53, (ci 0), (ci 100)]), o1 52 (.mv 54), o1 55 (.ext 52 0), o1 56 (.ext 52 1), o1 15 (.alloc 33 [(.int .i64 0), (.int .i64 0), (.int .i64 0), (.int .i64 0), (.int .i64 0), (.int .i64 0), (.bool false), (.int .i64 0), (.int .i64 0), (.int .i64 0), .slnil, .slnil, .slnil, (.int .i64 0), .slnil, (.int .i64 0), .slnil, (.int .i64 0), .slnil, .slnil]), o2 (.st 20 15 55), o1 16 (.mv 56)]) (.seq (.seq (.reg [o1 57 (.mv 14), o1 58 (.bin .neq 57 (ci 0)), o1 59 (.mv 58), o4 60 (.mv 16) 59, o4 61 (.bin .neq 60 (ci 7)) 59, o1 62 (.pick 59 (.const (.bool true)) 61)]) (.cond 62 (.seq (.reg [o1 6 (.mv (.const (.bool false)))]) .ret) .skip)) (.reg [o1 63 (.ld 20 true 15), o2 (.st 20 8 63)]))))) (.reg [o1 44 (.mv 12), o1 45 (.bin .add 44 (ci 1)), o1 12 (.mv 45)])))))) (.seq (.reg [o1 65 (.ld 20 true 8), o1 66 (.faddr 1 3), o1 67 (.ld 1 false 66), o1 68 (.bin .sub 67 (ci 1)), o1 69 (.mv 2), o1 70 (.call 34 [65, 68, (ci 2), 69, (ci 0)]), o1 64 (.mv 70), o1 71 (.ext 64 0), o1 72 (.ext 64 1), o1 17 (.alloc 33 [(.int .i64 0), (.int .i64 0), (.int .i64 0), (.int .i64 0), (.int .i64 0), (.int .i64 0), (.bool false), (.int .i64 0), (.int .i64 0), (.int .i64 0), .slnil, .slnil, .slnil, (.int .i64 0), .slnil, (.int .i64 0), .slnil, (.int .i64 0), .slnil, .slnil]), o2 (.st 20 17 71), o1 18 (.mv 72)]) (.seq (.reg [o1 74 (.ld 20 true 17), o1 75 (.faddr 1 3), o1 76 (.ld 1 false 75), o1 77 (.bin .sub 76 (ci 1)), o1 78 (.call 23 [74, 77, (ci 100)]), o1 73 (.mv 78), o1 79 (.ext 73 0), o1 80 (.ext 73 1), o1 19 (.alloc 33 [(.int .i64 0), (.int .i64 0), (.int .i64 0), (.int .i64 0), (.int .i64 0), (.int .i64 0), (.bool false), (.int .i64 0), (.int .i64 0), (.int .i64 0), .slnil, .slnil, .slnil, (.int .i64 0), .slnil, (.int .i64 0), .slnil, (.int .i64 0), .slnil, .slnil]), o2 (.st 20 19 79), o1 20 (.mv 80)]) (.seq (.reg [o1 81 (.ld 20 true 19), o1 82 (.call 35 [81]), o1 21 (.alloc 54 [.slnil, (.int .i64 0), (.int .i64 0), (.int .i64 0)]), o2 (.st 4 21 82)]) (.seq (.seq (.reg [o1 83 (.faddr 0 21), o1 84 (.ld 1 false 83), o1 85 (.len 84), o1 86 (.mv 11), o1 87 (.bin .add 86 (ci 1)), o1 88 (.bin .neq 85 87), o1 89 (.mv 88), o4 90 (.faddr 18 19) 89, o4 91 (.ld 1 false 90) 89, o4 92 (.len 91) 89, o4 93 (.faddr 1 3) 89, o4 94 (.ld 1 false 93) 89, o4 95 (.bin .neq 92 94) 89, o1 96 (.pick 89 (.const (.bool true)) 95), o1 97 (.mv 96), o4 98 (.faddr 19 19) 97, o4 99 (.ld 1 false 98) 97, o4 100 (.len 99) 97, o4 101 (.mv 11) 97, o4 102 (.bin .add 101 (ci 1)) 97, o4 103 (.bin .neq 100 102) 97, o1 104 (.pick 97 (.const (.bool true)) 103)]) (.cond 104 (.seq (.reg [o1 6 (.mv (.const (.bool false)))]) .ret) .skip)) (.seq (.seq (.reg [o1 22 (.mv (ci 0))]) (.block 2 (.loop (.seq (.seq (.reg [o1 105 (.mv 22), o1 106 (.mv 11), o1 107 (.bin .lss 105 106)]) (.cond 107 .skip (.exit 2))) (.seq (.block 3 (.seq (.reg [o1 110 (.faddr 0 21), o1 111 (.ld 1 false 110), o1 112 (.mv 22), o1 113 (.iaddr 1 111 112), o1 114 (.ld 1 false 113), o1 115 (.mv 22), o1 116 (.bin .neq 114 115)]) (.cond 116 (.seq (.reg [o1 6 (.mv (.const (.bool false)))]) .ret) .skip))) (.reg [o1 108 (.mv 22), o1 109 (.bin .add 108 (ci 1)), o1 22 (.mv 109)])))))) (.seq (.reg [o1 117 (.mv 7), o1 118 (.mv 117), o3 119 (.mv 18) 118, o3 120 (.bin .eql 119 (ci 0)) 118, o1 121 (.pick 118 120 (.const (.bool false))), o1 122 (.mv 121), o3 123 (.mv 20) 122, o3 124 (.bin .eql 123 (ci 7)) 122, o1 125 (.pick 122 124 (.const (.bool false))), o1 126 (.mv 125), o3 127 (.faddr 0 21) 126, o3 128 (.ld 1 false 127) 126, o3 129 (.mv 11) 126, o3 130 (.iaddr 1 128 129) 126, o3 131 (.ld 1 false 130) 126, o3 132 (.mv 2) 126, o3 133 (.bin .eql 131 132) 126, o1 134 (.pick 126 133 (.const (.bool false))), o1 135 (.mv 134), o3 136 (.faddr 18 19) 135, o3 137 (.ld 1 false 136) 135, o3 138 (.faddr 1 3) 135, o3 139 (.ld 1 false 138) 135, o3 140 (.bin .sub 139 (ci 1)) 135, o3 141 (.iaddr 11 137 (.tmp 140)) 135, o3 142 (.faddr 9 (.tmp 141)) 135, o3 143 (.ld 1 false (.tmp 142)) 135, o3 144 (.bin .eql (.tmp 143) (ci 1)) 135, o1 145 (.pick 135 (.tmp 144) (.const (.bool false))), o1 146 (.mv (.tmp 145)), o3 147 (.faddr 11 19) 146, o3 148 (.ld 1 false (.tmp 147)) 146, o3 149 (.len (.tmp 148)) 146, o3 150 (.bin .eql (.tmp 149) (ci 0)) 146, o1 151 (.pick (.tmp 146) (.tmp 150) (.const (.bool false))), o1 6 (.mv (.tmp 151))]) .ret)))))))))))))), [(6, none)]⟩
theorem x6 : xf Tryz.prog 6 = some F6 := by kernel_rfl
set_option linter.defProp false
def qQ := And.intro (And.intro (And.intro (show ∀ q : Queue, (encQ q).length = 4 from fun _ => rfl) (show ∀ q : Queue, (encQ q).take 4 = encQ q from fun _ => rfl)) (And.intro (show ∀ q : Queue, (encQ q).all AV.one = true from fun _ => rfl) (show ∀ q : Queue, (encQ q)[0]? = some (.slv 1 (q.vals.map encI)) from fun _ => rfl))) (And.intro (And.intro (show ∀ q : Queue, (encQ q)[1]? = some (.int .i64 q.cap) from fun _ => rfl) (show ∀ q : Queue, (encQ q)[2]? = some (.int .i64 q.pol) from fun _ => rfl)) (And.intro (show ∀ q : Queue, (encQ q)[3]? = some (.int .i64 q.mode) from fun _ => rfl) (show ∀ q : Queue, (encQ q).drop 4 = [] from fun _ => rfl)))
theorem pure_encQ (q : Queue) : pures (encQ q) = true := by simp [encQ, pures, AV.pure, puress_map pure_encI]
theorem pure_encC (c : Config) : pures (encC c) = true := rfl
def qQ2 := And.intro (And.intro (pure_encQ) (fun (L : List Nat) (x : Queue) => inNs_pure (L := L) _ (pure_encQ x))) (And.intro (fun x : Queue => nmsL_pure _ (pure_encQ x)) (fun (T : Tr) (x : Queue) => trs_pure T _ (pure_encQ x)))
def qCf := And.intro (And.intro (And.intro (show ∀ c : Config, (encC c).length = 7 from fun _ => rfl) (show ∀ c : Config, (encC c).take 7 = encC c from fun _ => rfl)) (And.intro (show ∀ c : Config, (encC c).all AV.one = true from fun _ => rfl) (And.intro (show ∀ c : Config, (encC c)[1]? = some (.int .i64 c.th) from fun _ => rfl) (show ∀ c : Config, (encC c)[2]? = some (.int .i64 c.pol) from fun _ => rfl)))) (And.intro (And.intro (show ∀ c : Config, (encC c)[3]? = some (.int .i64 c.wt) from fun _ => rfl) (And.intro (show ∀ c : Config, (encC c).drop 7 = [] from fun _ => rfl) (pure_encC))) (And.intro (fun (L : List Nat) (x : Config) => inNs_pure (L := L) _ (pure_encC x)) (And.intro (fun x : Config => nmsL_pure _ (pure_encC x)) (fun (T : Tr) (x : Config) => trs_pure T _ (pure_encC x)))))
theorem con33s {c : Config} : Con Tryz.prog 33 [.agg (encC c)] (.tup [.agg (encZ (fabNew c).1), .int .i64 (fabNew c).2], [], []) := con33
theorem bdP {s : State} {k n : Nat} (h : BdP s k) (hk : k ≤ n) : Bd s n := (show Bd s k from h).mono hk
theorem bd_new {c : Config} : BdP (fabNew c).1 1000 := by
  by_cases h : confOk c = true
  · rw [fill_new (b := 0) h]; exact fill_bd h (by have := room_of h; simp; omega)
  · unfold fabNew; rw [if_pos (by rw [Ne, confCheck_ok]; exact h)]; exact ⟨Nat.zero_le _, Nat.zero_le _, Nat.zero_le _, Nat.zero_le _, Nat.zero_le _, Nat.zero_le _, Nat.zero_le _⟩
/-- sakialaw14.SendAlone -/
theorem con6 {c : Config} {many val : Int} (hm : 0 ≤ many) : Con Tryz.prog 6 [.agg (encC c), .int .u8 many, .int .i64 val] (.bool true, [], []) := by
  by_cases hok : confOk c = true
  · have hr := room_of hok
    have hnew := fill_new (b := 0) hok
    have hb := fill_bd (b := 0) (n := 0) hok (by simp; omega)
    obtain ⟨n, hn⟩ : ∃ n : Nat, (n : Int) = many.tmod (confRoom c) := ⟨(many.tmod (confRoom c)).toNat, by have := Int.tmod_nonneg (confRoom c) hm; omega⟩
    have hnr : (n : Int) < confRoom c := by rw [hn]; exact Int.tmod_lt_of_pos _ (by omega)
    have hsl : ((fillS c 0 0).slots.length : Int) = confRoom c := (fill_fab hok (by simp; omega)).len
    refine mcb_of_vc mix x6 (by simp [F6]) fun hw _ => ?_
    simp only [wfs, AV.wf, inR_i64] at hw
    have hwm : IntKind.wrap .i64 many = many := by
      have h2 : inR .u8 many := hw.2.1
      unfold inR at h2
      rw [show IntKind.u8.max = 255 from by decide] at h2
      exact wrap64 (by omega) (by omega)
    have hz : (confRoom c = 0) = False := by simp; omega
    have hwc : IntKind.wrap .i64 (c.th - 1) = c.th - 1 := wrap64 (by omega) (by omega)
    clear hw
    repeat' with_reducible first | refine gTn_of (fun h => ?_) (fun h => ?_) | refine gT_of (fun h => ?_) (fun h => ?_) | refine caseTn_of (fun h => ?_) (fun h => ?_) | refine caseT_of (fun h => ?_) (fun h => ?_) | refine FN ?_ ?_ ?_ ?_ rfl ?_ | refine kv_ifn ?_ ?_ | refine kv_if ?_ ?_ | refine k_if ?_ ?_ | refine IA ?_ ?_ ?_ | refine L1 ?_ ?_ | refine L2 ?_ ?_ | refine L3 ?_ ?_ ?_ ?_ | refine L4 ?_ ?_ | refine L5 ?_ ?_ ?_ ?_ ?_ | refine L6 ?_ ?_ ?_ ?_ ?_ | refine AC.p0 (con21 ) ?_ (by simp -implicitDefEqProofs only [qU, pure_encZ, pure_encQ, pure_encC]; done) ?_ ?_ | refine AC.p0 (con33s ) ?_ (by simp -implicitDefEqProofs only [qU, pure_encZ, pure_encQ, pure_encC]; done) ?_ ?_ | refine AC.p0 (con34s ?_) ?_ (by simp -implicitDefEqProofs only [qU, pure_encZ, pure_encQ, pure_encC]; done) ?_ ?_ | refine AC.p0 (con23 ?_) ?_ (by simp -implicitDefEqProofs only [qU, pure_encZ, pure_encQ, pure_encC]; done) ?_ ?_ | refine AC.p0 (con35s ?_) ?_ (by simp -implicitDefEqProofs only [qU, pure_encZ, pure_encQ, pure_encC]; done) ?_ ?_ | simp -implicitDefEqProofs only [F6, qA, ld_0, ld_pv, st_0, splice, doEqs, qU, List.reduceReplicate, Nat.reduceAdd, Nat.reduceSub, Nat.reduceLeDiff, Nat.reduceEqDiff, Nat.reduceMul, reduceIte, reduceCtorEq, qI, Nat.reduceLT, Nat.reduceBEq, up_s, Int.toNat_natCast, encT, qZ, nl_s, nl_0, qC, qT, qQ, qQ2, qCf, doConv, encI, Int.reduceEq, Int.reduceNe, Int.reduceLT, Int.reduceLE, lm_normal, lm_exit, lm_ret, Int.natCast_zero, *]
    all_goals first
      | exact bdP hb (by omega)
      | (intro e; simp [hz] at e; done)
      | refine lm_of 5 (fun i : Nat => nl 2 (some (.int .i64 val) :: some (.ptr 2 0 0) :: nl 3 (some (.bool true) :: some (.ptr 3 0 0) :: nl 2 (some (.int .i64 n) :: some (.int .i64 i) :: nl 139 [])))) (fun i => [(2, .rows 23 7 [encC c]), (3, .rows 33 20 [encZ (fillS c 0 i)])]) (fun i => i ≤ n) (fun i => n - i) [] [(1, 2), (145, 3)] 0 (by omega) ?_ ?_ ?_ ?_ ?_ ?_
      | trace_state
    rotate_right
    · intro i hi
      clear hn hnew hb
      rcases Nat.lt_or_eq_of_le hi with hlt | rfl
      · have hd : ((i : Int) < (n : Int)) = True := by simp; omega
        have hb0 := fill_bd (b := 0) (n := i) hok (by omega)
        have hb1 := put_bd (id := 0) (t := t0 1 i 0) hb0
        have e1 := fill_invoke (b := 0) (n := i) (id := 0) (v := i) hok (by omega) (by omega) (by omega) (.inl rfl)
        have e2 : sSteps (put1 (fillS c 0 i) 0 (t0 1 i 0)) 0 100 = (fillS c 0 (i + 1), 7) := by
          have := fill_steps (b := 0) (n := i) hok (by omega)
          simpa using this
        have hb2 := hb1
        have hwi : IntKind.wrap .i64 ((i : Int) + 1) = ((i + 1 : Nat) : Int) := by rw [wrap64 (by omega) (by omega)]; omega
        simp only [all_some, all_none, all_nil, nl_s, nl_0]
        intros
        repeat' with_reducible first | refine gTn_of (fun h => ?_) (fun h => ?_) | refine gT_of (fun h => ?_) (fun h => ?_) | refine caseTn_of (fun h => ?_) (fun h => ?_) | refine caseT_of (fun h => ?_) (fun h => ?_) | refine FN ?_ ?_ ?_ ?_ rfl ?_ | refine kv_ifn ?_ ?_ | refine kv_if ?_ ?_ | refine k_if ?_ ?_ | refine IA ?_ ?_ ?_ | refine L1 ?_ ?_ | refine L2 ?_ ?_ | refine L3 ?_ ?_ ?_ ?_ | refine L4 ?_ ?_ | refine L5 ?_ ?_ ?_ ?_ ?_ | refine L6 ?_ ?_ ?_ ?_ ?_ | refine AC.p0 (con21 ) ?_ (by simp -implicitDefEqProofs only [qU, pure_encZ, pure_encQ, pure_encC]; done) ?_ ?_ | refine AC.p0 (con33s ) ?_ (by simp -implicitDefEqProofs only [qU, pure_encZ, pure_encQ, pure_encC]; done) ?_ ?_ | refine AC.p0 (con34s ?_) ?_ (by simp -implicitDefEqProofs only [qU, pure_encZ, pure_encQ, pure_encC]; done) ?_ ?_ | refine AC.p0 (con23 ?_) ?_ (by simp -implicitDefEqProofs only [qU, pure_encZ, pure_encQ, pure_encC]; done) ?_ ?_ | refine AC.p0 (con35s ?_) ?_ (by simp -implicitDefEqProofs only [qU, pure_encZ, pure_encQ, pure_encC]; done) ?_ ?_ | refine ia_of (d := default) ?_ ?_ | refine rm_of [] [(2, 2), (3, 3)] (i + 1) ?_ ?_ ?_ ?_ ?_ ?_ | simp -implicitDefEqProofs only [F6, qA, ld_0, ld_pv, st_0, splice, doEqs, qU, List.reduceReplicate, Nat.reduceAdd, Nat.reduceSub, Nat.reduceLeDiff, Nat.reduceEqDiff, Nat.reduceMul, reduceIte, reduceCtorEq, qI, Nat.reduceLT, Nat.reduceBEq, up_s, Int.toNat_natCast, encT, qZ, nl_s, nl_0, qC, qT, qQ, qQ2, qCf, doConv, encI, Int.reduceEq, Int.reduceNe, Int.reduceLT, Int.reduceLE, lm_normal, lm_exit, lm_ret, Int.natCast_zero, *]
        all_goals first
          | exact bdP hb0 (by omega)
          | exact bdP hb1 (by omega)
          | exact bdP hb2 (by omega)
          | exact Wk.refl _
          | omega
          | (simp only [decide_eq_true_eq, decide_eq_false_iff_not] at *; omega)
          | trace_state
      · have hd : ((i : Int) < (i : Int)) = False := by simp
        have hb0 := fill_bd (b := 0) (n := i) hok (by omega)
        have hb1 := put_bd (id := c.th - 1) (t := t0 2 val 0) hb0
        have e1 := fill_invoke (b := 0) (n := i) (id := c.th - 1) (v := val) hok (by omega) (by omega) (by omega) (.inr (.inl rfl))
        obtain ⟨Z, vals, e2, hb2, z1, z2, z3, z4, z5, z6, z7, z8⟩ := alone_ok (val := val) hok hnr
        have hwi : IntKind.wrap .i64 ((i : Int) + 1) = (i : Int) + 1 := wrap64 (by omega) (by omega)
        have z5' : (vals.length : Int) = (i : Int) + 1 := by omega
        clear z5
        simp only [all_some, all_none, all_nil, nl_s, nl_0]
        intros
        repeat' with_reducible first | refine gTn_of (fun h => ?_) (fun h => ?_) | refine gT_of (fun h => ?_) (fun h => ?_) | refine caseTn_of (fun h => ?_) (fun h => ?_) | refine caseT_of (fun h => ?_) (fun h => ?_) | refine FN ?_ ?_ ?_ ?_ rfl ?_ | refine kv_ifn ?_ ?_ | refine kv_if ?_ ?_ | refine k_if ?_ ?_ | refine IA ?_ ?_ ?_ | refine L1 ?_ ?_ | refine L2 ?_ ?_ | refine L3 ?_ ?_ ?_ ?_ | refine L4 ?_ ?_ | refine L5 ?_ ?_ ?_ ?_ ?_ | refine L6 ?_ ?_ ?_ ?_ ?_ | refine AC.p0 (con21 ) ?_ (by simp -implicitDefEqProofs only [qU, pure_encZ, pure_encQ, pure_encC]; done) ?_ ?_ | refine AC.p0 (con33s ) ?_ (by simp -implicitDefEqProofs only [qU, pure_encZ, pure_encQ, pure_encC]; done) ?_ ?_ | refine AC.p0 (con34s ?_) ?_ (by simp -implicitDefEqProofs only [qU, pure_encZ, pure_encQ, pure_encC]; done) ?_ ?_ | refine AC.p0 (con23 ?_) ?_ (by simp -implicitDefEqProofs only [qU, pure_encZ, pure_encQ, pure_encC]; done) ?_ ?_ | refine AC.p0 (con35s ?_) ?_ (by simp -implicitDefEqProofs only [qU, pure_encZ, pure_encQ, pure_encC]; done) ?_ ?_ | refine ia_of (d := default) ?_ ?_ | simp -implicitDefEqProofs only [F6, qA, ld_0, ld_pv, st_0, splice, doEqs, qU, List.reduceReplicate, Nat.reduceAdd, Nat.reduceSub, Nat.reduceLeDiff, Nat.reduceEqDiff, Nat.reduceMul, reduceIte, reduceCtorEq, qI, Nat.reduceLT, Nat.reduceBEq, up_s, Int.toNat_natCast, encT, qZ, nl_s, nl_0, qC, qT, qQ, qQ2, qCf, doConv, encI, Int.reduceEq, Int.reduceNe, Int.reduceLT, Int.reduceLE, lm_normal, lm_exit, lm_ret, Int.natCast_zero, *]
        all_goals first
          | exact bdP hb0 (by omega)
          | exact bdP hb1 (by omega)
          | exact bdP hb2 (by omega)
          | exact Wk.refl _
          | omega
          | (simp only [decide_eq_true_eq, decide_eq_false_iff_not] at *; omega)
          | refine lm_of 8 (fun j : Nat => nl 2 (some (.int .i64 val) :: some (.ptr 2 0 0) :: nl 3 (some (.bool true) :: nl 3 (some (.int .i64 i) :: nl 6 (some (.int .i64 0) :: some (.ptr 3 0 0) :: some (.int .i64 7) :: some (.ptr 4 0 0) :: some (.int .i64 j) :: nl 129 []))))) (fun j => [(2, .rows 23 7 [encC c]), (3, .rows 33 20 [encZ Z]), (4, .rows 54 4 [encQ ⟨vals, confRoom c, c.pol, 0⟩])]) (fun j => j ≤ i) (fun j => i - j) [] [(2, 2), (373, 3), (453, 4)] 0 (by omega) ?_ ?_ ?_ ?_ ?_ ?_
          | trace_state
        rotate_right
        · intro j hj
          clear hb0 hb1 e1 e2
          rcases Nat.lt_or_eq_of_le hj with hlt | rfl
          · have hdj : ((j : Int) < (i : Int)) = True := by simp; omega
            have hwj : IntKind.wrap .i64 ((j : Int) + 1) = ((j + 1 : Nat) : Int) := by rw [wrap64 (by omega) (by omega)]; omega
            have z6j := z6 j hlt
            simp only [all_some, all_none, all_nil, nl_s, nl_0]
            intros
            repeat' with_reducible first | refine gTn_of (fun h => ?_) (fun h => ?_) | refine gT_of (fun h => ?_) (fun h => ?_) | refine caseTn_of (fun h => ?_) (fun h => ?_) | refine caseT_of (fun h => ?_) (fun h => ?_) | refine FN ?_ ?_ ?_ ?_ rfl ?_ | refine kv_ifn ?_ ?_ | refine kv_if ?_ ?_ | refine k_if ?_ ?_ | refine IA ?_ ?_ ?_ | refine L1 ?_ ?_ | refine L2 ?_ ?_ | refine L3 ?_ ?_ ?_ ?_ | refine L4 ?_ ?_ | refine L5 ?_ ?_ ?_ ?_ ?_ | refine L6 ?_ ?_ ?_ ?_ ?_ | refine AC.p0 (con21 ) ?_ (by simp -implicitDefEqProofs only [qU, pure_encZ, pure_encQ, pure_encC]; done) ?_ ?_ | refine AC.p0 (con33s ) ?_ (by simp -implicitDefEqProofs only [qU, pure_encZ, pure_encQ, pure_encC]; done) ?_ ?_ | refine AC.p0 (con34s ?_) ?_ (by simp -implicitDefEqProofs only [qU, pure_encZ, pure_encQ, pure_encC]; done) ?_ ?_ | refine AC.p0 (con23 ?_) ?_ (by simp -implicitDefEqProofs only [qU, pure_encZ, pure_encQ, pure_encC]; done) ?_ ?_ | refine AC.p0 (con35s ?_) ?_ (by simp -implicitDefEqProofs only [qU, pure_encZ, pure_encQ, pure_encC]; done) ?_ ?_ | refine ia_of (d := default) ?_ ?_ | refine rm_of [] [(2, 2), (3, 3), (4, 4)] (j + 1) ?_ ?_ ?_ ?_ ?_ ?_ | simp -implicitDefEqProofs only [F6, qA, ld_0, ld_pv, st_0, splice, doEqs, qU, List.reduceReplicate, Nat.reduceAdd, Nat.reduceSub, Nat.reduceLeDiff, Nat.reduceEqDiff, Nat.reduceMul, reduceIte, reduceCtorEq, qI, Nat.reduceLT, Nat.reduceBEq, up_s, Int.toNat_natCast, encT, qZ, nl_s, nl_0, qC, qT, qQ, qQ2, qCf, doConv, encI, Int.reduceEq, Int.reduceNe, Int.reduceLT, Int.reduceLE, lm_normal, lm_exit, lm_ret, Int.natCast_zero, *]
            all_goals first
              | omega
              | exact Wk.refl _
              | trace_state
          · have hdj : ((j : Int) < (j : Int)) = False := by simp
            simp only [all_some, all_none, all_nil, nl_s, nl_0]
            intros
            repeat' with_reducible first | refine gTn_of (fun h => ?_) (fun h => ?_) | refine gT_of (fun h => ?_) (fun h => ?_) | refine caseTn_of (fun h => ?_) (fun h => ?_) | refine caseT_of (fun h => ?_) (fun h => ?_) | refine FN ?_ ?_ ?_ ?_ rfl ?_ | refine kv_ifn ?_ ?_ | refine kv_if ?_ ?_ | refine k_if ?_ ?_ | refine IA ?_ ?_ ?_ | refine L1 ?_ ?_ | refine L2 ?_ ?_ | refine L3 ?_ ?_ ?_ ?_ | refine L4 ?_ ?_ | refine L5 ?_ ?_ ?_ ?_ ?_ | refine L6 ?_ ?_ ?_ ?_ ?_ | refine AC.p0 (con21 ) ?_ (by simp -implicitDefEqProofs only [qU, pure_encZ, pure_encQ, pure_encC]; done) ?_ ?_ | refine AC.p0 (con33s ) ?_ (by simp -implicitDefEqProofs only [qU, pure_encZ, pure_encQ, pure_encC]; done) ?_ ?_ | refine AC.p0 (con34s ?_) ?_ (by simp -implicitDefEqProofs only [qU, pure_encZ, pure_encQ, pure_encC]; done) ?_ ?_ | refine AC.p0 (con23 ?_) ?_ (by simp -implicitDefEqProofs only [qU, pure_encZ, pure_encQ, pure_encC]; done) ?_ ?_ | refine AC.p0 (con35s ?_) ?_ (by simp -implicitDefEqProofs only [qU, pure_encZ, pure_encQ, pure_encC]; done) ?_ ?_ | refine ia_of (d := default) ?_ ?_ | refine rm_of [] [(2, 2), (3, 3), (4, 4)] (j + 1) ?_ ?_ ?_ ?_ ?_ ?_ | simp -implicitDefEqProofs only [F6, qA, ld_0, ld_pv, st_0, splice, doEqs, qU, List.reduceReplicate, Nat.reduceAdd, Nat.reduceSub, Nat.reduceLeDiff, Nat.reduceEqDiff, Nat.reduceMul, reduceIte, reduceCtorEq, qI, Nat.reduceLT, Nat.reduceBEq, up_s, Int.toNat_natCast, encT, qZ, nl_s, nl_0, qC, qT, qQ, qQ2, qCf, doConv, encI, Int.reduceEq, Int.reduceNe, Int.reduceLT, Int.reduceLE, lm_normal, lm_exit, lm_ret, Int.natCast_zero, *]
            all_goals first
              | omega
              | exact Wk.refl _
              | trace_state
        all_goals first
          | omega
          | (simp -implicitDefEqProofs only [qA, ld_0, ld_pv, st_0, splice, doEqs, qU, List.reduceReplicate, Nat.reduceAdd, Nat.reduceSub, Nat.reduceLeDiff, Nat.reduceEqDiff, Nat.reduceMul, reduceIte, reduceCtorEq, qI, Nat.reduceLT, Nat.reduceBEq, qZ, nl_s, nl_0, qCf, qQ, qQ2]; first | done | (simp; done))
          | trace_state
    all_goals first
      | omega
      | (simp -implicitDefEqProofs only [qA, ld_0, ld_pv, st_0, splice, doEqs, qU, List.reduceReplicate, Nat.reduceAdd, Nat.reduceSub, Nat.reduceLeDiff, Nat.reduceEqDiff, Nat.reduceMul, reduceIte, reduceCtorEq, qI, Nat.reduceLT, Nat.reduceBEq, qZ, nl_s, nl_0, qCf, hn]; first | done | (simp; done))
      | trace_state
  · have hc : ¬ confCheck c = 0 := by rw [confCheck_ok]; exact hok
    have hnew2 : (fabNew c).2 = 20 := by
      unfold fabNew; rw [if_pos hc]; unfold confCheck; rw [if_neg hok]
    refine mcb_of_vc mix x6 (by simp [F6]) fun hw _ => ?_
    clear hw
    repeat' with_reducible first | refine gTn_of (fun h => ?_) (fun h => ?_) | refine gT_of (fun h => ?_) (fun h => ?_) | refine caseTn_of (fun h => ?_) (fun h => ?_) | refine caseT_of (fun h => ?_) (fun h => ?_) | refine FN ?_ ?_ ?_ ?_ rfl ?_ | refine kv_ifn ?_ ?_ | refine kv_if ?_ ?_ | refine k_if ?_ ?_ | refine IA ?_ ?_ ?_ | refine L1 ?_ ?_ | refine L2 ?_ ?_ | refine L3 ?_ ?_ ?_ ?_ | refine L4 ?_ ?_ | refine L5 ?_ ?_ ?_ ?_ ?_ | refine L6 ?_ ?_ ?_ ?_ ?_ | refine AC.p0 (con21 ) ?_ (by simp -implicitDefEqProofs only [qU, pure_encZ, pure_encQ, pure_encC]; done) ?_ ?_ | refine AC.p0 (con33s ) ?_ (by simp -implicitDefEqProofs only [qU, pure_encZ, pure_encQ, pure_encC]; done) ?_ ?_ | refine AC.p0 (con34s ?_) ?_ (by simp -implicitDefEqProofs only [qU, pure_encZ, pure_encQ, pure_encC]; done) ?_ ?_ | refine AC.p0 (con23 ?_) ?_ (by simp -implicitDefEqProofs only [qU, pure_encZ, pure_encQ, pure_encC]; done) ?_ ?_ | refine AC.p0 (con35s ?_) ?_ (by simp -implicitDefEqProofs only [qU, pure_encZ, pure_encQ, pure_encC]; done) ?_ ?_ | simp -implicitDefEqProofs only [F6, qA, ld_0, ld_pv, st_0, splice, doEqs, qU, List.reduceReplicate, Nat.reduceAdd, Nat.reduceSub, Nat.reduceLeDiff, Nat.reduceEqDiff, Nat.reduceMul, reduceIte, reduceCtorEq, qI, Nat.reduceLT, Nat.reduceBEq, up_s, Int.toNat_natCast, encT, qZ, nl_s, nl_0, qC, qT, qQ, qQ2, qCf, doConv, encI, Int.reduceEq, Int.reduceNe, Int.reduceLT, Int.reduceLE, lm_normal, lm_exit, lm_ret, Int.natCast_zero, hnew2, *]
    all_goals first
      | exact bdP bd_new (by omega)
      | exact Wk.refl _
      | trace_state

end Go.Sak
