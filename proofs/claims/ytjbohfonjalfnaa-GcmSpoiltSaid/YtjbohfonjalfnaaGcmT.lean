/- One changed byte is told by the seal, unless the key's own block is nought. No conditions. -/
import Derived.Test.YtjbohfonjalfnaaGcmH
set_option linter.unusedSimpArgs false
set_option linter.unusedVariables false
set_option maxRecDepth 100000
set_option maxHeartbeats 4000000
namespace Go.Proofs.Ytjbohfonjalfnaa
open Go
open List (getD_cons_zero getD_cons_succ set_cons_zero set_cons_succ)
open Nat (zero_add add_zero mul_one zero_mul)

theorem xor2_inj {a b : P2} {l : P2} (h : ((a.1 ^^^ l.1, a.2 ^^^ l.2) : P2) = (b.1 ^^^ l.1, b.2 ^^^ l.2)) : a = b := by
  have h1 := congrArg (fun p : P2 => p.1 ^^^ l.1) h
  have h2 := congrArg (fun p : P2 => p.2 ^^^ l.2) h
  simp only [UInt64.xor_assoc, UInt64.xor_self, UInt64.xor_zero] at h1 h2
  exact Prod.ext h1 h2
theorem xor2_inj' {a b : P2} {l : P2} (h : ((l.1 ^^^ a.1, l.2 ^^^ a.2) : P2) = (l.1 ^^^ b.1, l.2 ^^^ b.2)) : a = b := by
  refine xor2_inj (l := l) ?_
  rw [UInt64.xor_comm a.1, UInt64.xor_comm a.2, UInt64.xor_comm b.1, UInt64.xor_comm b.2]; exact h
theorem mulP_cancel {a b h : P2} (e : mulP a h = mulP b h) : h = (0, 0) ∨ a = b := by
  have e1 : gm (pw a) (pw h) = gm (pw b) (pw h) := by rw [← pw_mul, ← pw_mul, e]
  have e2 : gm (pw a ^^^ pw b) (pw h) = 0 := by rw [gm_xor_l, e1, Nat.xor_self]
  rcases gm_nought (Nat.xor_lt_two_pow (pw_lt a) (pw_lt b)) (pw_lt h) e2 with e3 | e3
  · right
    have := congrArg (· ^^^ pw b) e3
    simp only [Nat.xor_assoc, Nat.xor_self, Nat.xor_zero, Nat.zero_xor] at this
    exact pw_inj this
  · left; exact pw_inj e3
theorem takeP_reg {h r r' : P2} {l : List UInt8} : ∀ n, takeP h r l n = takeP h r' l n → h = (0, 0) ∨ r = r'
  | 0, e => .inr e
  | n + 1, e => by
    rcases mulP_cancel e with e1 | e1
    · exact .inl e1
    · exact takeP_reg n (xor2_inj e1)
theorem takeP_diff {h r : P2} {l l' : List UInt8} {j : Nat} (hne : l.getD j 0 ≠ l'.getD j 0) (hs : ∀ i, i ≠ j → l.getD i 0 = l'.getD i 0) : ∀ m, takeP h r l (j / 16 + 1 + m) = takeP h r l' (j / 16 + 1 + m) → h = (0, 0)
  | 0, e => by
    have e0 : takeP h r l (j / 16) = takeP h r l' (j / 16) := takeP_congr h r _ fun i hi => hs i (by omega)
    rw [Nat.add_zero, takeP, takeP, e0] at e
    rcases mulP_cancel e with e1 | e1
    · exact e1
    · exfalso
      have e2 := xor2_inj' e1
      have e3 := congrArg (fun p => nbP p (j % 16)) e2
      unfold blkP at e3
      simp only [nb_of _ _ (Nat.mod_lt j (by decide : 0 < 16))] at e3
      rw [show 16 * (j / 16) + j % 16 = j by omega] at e3
      exact hne e3
  | m + 1, e => by
    rw [← Nat.add_assoc, takeP, takeP] at e
    have eb : blkP l (j / 16 + 1 + m) = blkP l' (j / 16 + 1 + m) := ofP_congr fun i hi => hs _ (by omega)
    rw [eb] at e
    rcases mulP_cancel e with e1 | e1
    · exact e1
    · exact takeP_diff hne hs m (xor2_inj e1)
theorem takeP_byte {h r : P2} {l l' : List UInt8} {j : Nat} (hj : j < l.length) (hl : l.length = l'.length) (hne : l.getD j 0 ≠ l'.getD j 0) (hs : ∀ i, i ≠ j → l.getD i 0 = l'.getD i 0) (e : takeP h r l (blocks l) = takeP h r l' (blocks l')) : h = (0, 0) := by
  have hb : blocks l' = blocks l := by unfold blocks; rw [hl]
  rw [hb] at e
  obtain ⟨m, hm⟩ : ∃ m, blocks l = j / 16 + 1 + m := ⟨blocks l - (j / 16 + 1), by unfold blocks; omega⟩
  rw [hm] at e
  exact takeP_diff hne hs m e
theorem seal_inj {K : Nat → UInt8} {h : P2} {nl al cl al' cl' : List UInt8} (e : sealL K h nl al cl = sealL K h nl al' cl') : sealP h al cl = sealP h al' cl' := by
  have hb : ∀ i, i < 16 → nbP (sealP h al cl) i = nbP (sealP h al' cl') i := fun i hi => by
    have := congrArg (fun l : List UInt8 => l.getD i 0) e
    unfold sealL at this
    simp only [strm_at _ _ _ _ hi] at this
    have e1 : ((List.range 16).map (nbP (sealP h al cl))).getD i 0 = nbP (sealP h al cl) i := cut16 _ hi
    have e2 : ((List.range 16).map (nbP (sealP h al' cl'))).getD i 0 = nbP (sealP h al' cl') i := cut16 _ hi
    rw [e1, e2] at this
    have h2 := congrArg (· ^^^ ksF K (gctr nl 1) (0 + i)) this
    simpa [UInt8.xor_assoc] using h2
  rw [← of_nb (sealP h al cl), ← of_nb (sealP h al' cl')]
  exact ofP_congr hb
theorem set_getD (l : List UInt8) (j : Nat) (v : UInt8) (i : Nat) (hj : j < l.length) : (l.set j v).getD i 0 = if i = j then v else l.getD i 0 := by
  simp only [List.getD, List.getElem?_set]
  by_cases h : j = i
  · subst h; rw [if_pos rfl, if_pos rfl, if_pos hj]; rfl
  · rw [if_neg h, if_neg (fun e => h e.symm)]
theorem xor_ne {a x : UInt8} (h : x ≠ 0) : a ≠ a ^^^ x := fun e => h (by
  have := congrArg (a ^^^ ·) e
  simpa [← UInt8.xor_assoc] using this.symm)
/-- A hidden byte is changed. -/
theorem spoilt_hid {K : Nat → UInt8} {h : P2} {nl al cl : List UInt8} {j : Nat} {x : UInt8} (hj : j < cl.length) (hx : x ≠ 0) (e : sealL K h nl al (cl.set j (cl.getD j 0 ^^^ x)) = sealL K h nl al cl) : h = (0, 0) := by
  have e1 := seal_inj e
  unfold sealP at e1
  rw [List.length_set] at e1
  rcases mulP_cancel e1 with e2 | e2
  · exact e2
  · have e3 := xor2_inj (l := (UInt64.ofNat al.length <<< 3, UInt64.ofNat cl.length <<< 3)) e2
    refine takeP_byte (j := j) (by rw [List.length_set]; exact hj) (List.length_set) ?_ (fun i hi => ?_) e3
    · rw [set_getD _ _ _ _ hj, if_pos rfl]; exact fun e => xor_ne hx e.symm
    · rw [set_getD _ _ _ _ hj, if_neg hi]
/-- A byte beside is changed. -/
theorem spoilt_side {K : Nat → UInt8} {h : P2} {nl al cl : List UInt8} {j : Nat} {x : UInt8} (hj : j < al.length) (hx : x ≠ 0) (e : sealL K h nl (al.set j (al.getD j 0 ^^^ x)) cl = sealL K h nl al cl) : h = (0, 0) := by
  have e1 := seal_inj e
  unfold sealP at e1
  rw [List.length_set] at e1
  rcases mulP_cancel e1 with e2 | e2
  · exact e2
  · have e3 := xor2_inj (l := (UInt64.ofNat al.length <<< 3, UInt64.ofNat cl.length <<< 3)) e2
    rcases takeP_reg _ e3 with e4 | e4
    · exact e4
    · refine takeP_byte (j := j) (by rw [List.length_set]; exact hj) (List.length_set) ?_ (fun i hi => ?_) e4
      · rw [set_getD _ _ _ _ hj, if_pos rfl]; exact fun e => xor_ne hx e.symm
      · rw [set_getD _ _ _ _ hj, if_neg hi]
/-- What is handed to Open behind the change. -/
def spoC (c : List UInt8) (k : Nat) (x : UInt8) : List UInt8 := if k < c.length then c.set k (c.getD k 0 ^^^ x) else c
def spoS (c s : List UInt8) (k : Nat) (x : UInt8) : List UInt8 := if k < c.length then s else s.set (k - c.length) (s.getD (k - c.length) 0 ^^^ x)
def toldEq (K : Nat → UInt8) (h : P2) (nl c s : List UInt8) (k : Nat) (x : UInt8) : Prop := sealL K h nl (spoS c s k x) ((spoC c k x).take ((spoC c k x).length - 16)) = (spoC c k x).drop ((spoC c k x).length - 16)
theorem spoC_len (c : List UInt8) (k : Nat) (x : UInt8) : (spoC c k x).length = c.length := by
  unfold spoC; split
  · exact List.length_set
  · rfl
theorem spoilt_law {K : Nat → UInt8} {h : P2} {nl al bl : List UInt8} {k : Nat} {x : UInt8} (hk : k < (sealedL K h nl al bl).length + al.length) (hx : x ≠ 0) (e : toldEq K h nl (sealedL K h nl al bl) al k x) : h = (0, 0) := by
  unfold toldEq at e
  rw [spoC_len, sealedL_len, Nat.add_sub_cancel] at e
  rw [sealedL_len] at hk
  have hh := hidL_len K nl bl
  have ht := sealL_len K h nl al (hidL K nl bl)
  have hd : sealedL K h nl al bl = hidL K nl bl ++ sealL K h nl al (hidL K nl bl) := rfl
  by_cases h1 : k < bl.length
  · unfold spoC spoS at e
    rw [if_pos (by rw [sealedL_len]; omega), if_pos (by rw [sealedL_len]; omega), hd] at e
    have e1 : (hidL K nl bl ++ sealL K h nl al (hidL K nl bl)).getD k 0 = (hidL K nl bl).getD k 0 := by simp only [List.getD, List.getElem?_append, hh, h1, if_true]
    rw [e1, List.set_append_left _ _ (by rw [hh]; exact h1), List.take_left' (by rw [List.length_set, hh]), List.drop_left' (by rw [List.length_set, hh])] at e
    exact spoilt_hid (by rw [hh]; exact h1) hx e
  · by_cases h2 : k < bl.length + 16
    · exfalso
      unfold spoC spoS at e
      rw [if_pos (by rw [sealedL_len]; omega), if_pos (by rw [sealedL_len]; omega), hd] at e
      rw [List.set_append_right _ _ (by rw [hh]; omega), hh, List.take_left' hh, List.drop_left' hh] at e
      have e2 := congrArg (fun l : List UInt8 => l.getD (k - bl.length) 0) e
      rw [set_getD _ _ _ _ (by rw [ht]; omega), if_pos rfl] at e2
      have e3 : (hidL K nl bl ++ sealL K h nl al (hidL K nl bl)).getD k 0 = (sealL K h nl al (hidL K nl bl)).getD (k - bl.length) 0 := by
        simp only [List.getD, List.getElem?_append, hh, h1, if_false]
      rw [e3] at e2
      exact xor_ne hx e2
    · unfold spoC spoS at e
      rw [if_neg (by rw [sealedL_len]; omega), if_neg (by rw [sealedL_len]; omega), sealedL_len] at e
      rw [hd, List.take_left' hh, List.drop_left' hh] at e
      exact spoilt_side (by omega) hx e
theorem seal_nought (K : Nat → UInt8) (nl al al' cl : List UInt8) : sealL K (0, 0) nl al cl = sealL K (0, 0) nl al' cl := by
  unfold sealL sealP
  rw [mulP_comm _ (0, 0), mulP_zero, mulP_comm _ (0, 0), mulP_zero]
theorem spoC_zero (c : List UInt8) (k : Nat) : c.set k (c.getD k 0 ^^^ 0) = c := by
  rw [UInt8.xor_zero]
  apply List.ext_getElem (by simp)
  intro i h1 h2
  rw [List.getElem_set]; split
  · rename_i e; subst e; simp [List.getD, h2]
  · rfl
theorem spo_same (K : Nat → UInt8) (h : P2) (nl al bl : List UInt8) (k : Nat) : toldEq K h nl (sealedL K h nl al bl) al k 0 := by
  have e1 : spoC (sealedL K h nl al bl) k 0 = sealedL K h nl al bl := by
    unfold spoC; split
    · rename_i hk
      rw [UInt8.xor_zero]
      apply List.ext_getElem (by simp)
      intro i h1 h2
      rw [List.getElem_set]; split
      · rename_i e; subst e; simp [List.getD, h2]
      · rfl
    · rfl
  have e2 : spoS (sealedL K h nl al bl) al k 0 = al := by
    unfold spoS; split
    · rfl
    · rw [UInt8.xor_zero]
      apply List.ext_getElem (by simp)
      intro i h1 h2
      rw [List.getElem_set]; split
      · rename_i e; subst e; simp [List.getD, h2]
      · rfl
  unfold toldEq
  rw [e1, e2, sealed_take, sealed_drop]

end Go.Proofs.Ytjbohfonjalfnaa
