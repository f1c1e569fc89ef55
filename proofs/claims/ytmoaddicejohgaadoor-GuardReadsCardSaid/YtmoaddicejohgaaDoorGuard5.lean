/- Walks of guard.Seal and of the document's DocSeal, with all that they refuse. No further conditions. -/
import Derived.Test.YtmoaddicejohgaaDoorGuard4
set_option linter.unusedSimpArgs false
set_option linter.unusedVariables false
set_option maxRecDepth 100000
set_option maxHeartbeats 4000000
namespace Go.Proofs.YtmoaddicejohgaaDoor
open Go
open List (getD_cons_zero getD_cons_succ set_cons_zero set_cons_succ)

def keyF16 (a : ByteArray) : Nat → UInt8 := kexp fun i => a.data.toList.getD i 0
def sealBody (a b : ByteArray) (hl : List UInt8) (n : Nat) (cl : List UInt8) : List UInt8 := hl ++ sealedL (keyF16 a) (hP (keyF16 a)) (nonL b.data.toList n 8) hl cl
/-- A packet's bytes. -/
def sealOut (a b c : ByteArray) (hl : List UInt8) (sz n : Nat) (cl : List UInt8) : List UInt8 :=
  hideL (sealBody a b hl n cl) (maskL c.data.toList (sealBody a b hl n cl) (hl.length - sz)) (hl.length - sz) sz
/-- What Seal refuses, and by which number. -/
def sealE (a b c : ByteArray) (hl : List UInt8) (size number : Int) (cn : Nat) : Nat :=
  if 1 ≤ size ∧ size ≤ 4 ∧ 0 ≤ number ∧ number ≤ 4611686018427387903 ∧ rightB a b c = true ∧ size + 1 ≤ hl.length then
    if (hl.getD 0 0).toNat % 4 = size.toNat - 1 ∧ lowN (hl.drop (hl.length - size.toNat)) size.toNat = number.toNat % 2 ^ (8 * size.toNat) then
      if cn + size.toNat < 4 then 3 else if 65000 < cn then 5 else 0
    else 2
  else 1
theorem rightB_is {a b c : ByteArray} (h : rightB a b c = true) : a.size = 16 ∧ b.size = 12 ∧ c.size = 16 := by
  unfold rightB at h
  simpa using h
theorem u8_and3 (x : UInt8) : (x &&& 3).toNat = x.toNat % 4 := eq_of_beq (u8_all (fun x => (x &&& 3).toNat == x.toNat % 4) (by decide) x)
theorem lowN_succ (l : List UInt8) (n : Nat) : lowN l (n + 1) = lowN l n * 256 + (l.getD n 0).toNat := by
  show lowN l n * 2 ^ 8 ||| _ = _
  rw [Nat.mul_comm, ← Nat.two_pow_add_eq_or_of_lt (lt_u8 _), Nat.mul_comm]
theorem low_byte (l : List UInt8) : ∀ n i, i < n → lowN l n / 2 ^ (8 * i) % 256 = (l.getD (n - 1 - i) 0).toNat
  | 0, _, h => absurd h (Nat.not_lt_zero _)
  | n + 1, i, h => by
    have hb := lt_u8 (l.getD n 0)
    rw [lowN_succ]
    cases i with
    | zero =>
      rw [show n + 1 - 1 - 0 = n by omega, show 2 ^ (8 * 0) = 1 from rfl]; omega
    | succ i =>
      rw [show n + 1 - 1 - (i + 1) = n - 1 - i by omega, ← low_byte l n i (by omega), show 8 * (i + 1) = 8 + 8 * i by omega, Nat.pow_add, ← Nat.div_div_eq_div_mul]
      rw [show (lowN l n * 256 + (l.getD n 0).toNat) / 2 ^ 8 = lowN l n by omega]
theorem low_step {A B k : Nat} (h : A % 2 ^ (8 * k) = B % 2 ^ (8 * k)) (hb : A / 2 ^ (8 * k) % 256 = B / 2 ^ (8 * k) % 256) : A % 2 ^ (8 * (k + 1)) = B % 2 ^ (8 * (k + 1)) := by
  rw [show 8 * (k + 1) = 8 * k + 8 by omega, Nat.pow_add, Nat.mod_mul, Nat.mod_mul, h, hb]
theorem low_no {A B k n : Nat} (hk : k < n) (hb : A / 2 ^ (8 * k) % 256 ≠ B / 2 ^ (8 * k) % 256) : A % 2 ^ (8 * n) ≠ B % 2 ^ (8 * n) := by
  intro h
  apply hb
  have e : ∀ X : Nat, X % 2 ^ (8 * n) / 2 ^ (8 * k) % 256 = X / 2 ^ (8 * k) % 256 := fun X => by
    rw [show 8 * n = 8 * k + (8 + 8 * (n - k - 1)) by omega, Nat.pow_add, Nat.mod_mul_right_div_self, Nat.pow_add]
    exact Nat.mod_mod_of_dvd _ ⟨_, rfl⟩
  rw [← e A, ← e B, h]
theorem drop_low (l : List UInt8) (sz i : Nat) (hi : i < sz) (hs : sz ≤ l.length) : (l.drop (l.length - sz)).getD (sz - 1 - i) 0 = l.getD (l.length - 1 - i) 0 := by
  simp only [List.getD, List.getElem?_drop]
  rw [show l.length - sz + (sz - 1 - i) = l.length - 1 - i by omega]
theorem ofNat_byte (x : UInt8) (n : Nat) : x = UInt8.ofNat n ↔ x.toNat = n % 256 := by
  constructor
  · rintro rfl; simp
  · intro h; apply UInt8.toNat_inj.1; simpa using h
theorem sealed_bsz (K : Nat → UInt8) (h : P2) (nl al bl : List UInt8) : (⟨(sealedL K h nl al bl).toArray⟩ : ByteArray).size = bl.length + 16 := by rw [bsz, sealedL_len]
theorem sealBody_len (a b : ByteArray) (hl : List UInt8) (n : Nat) (cl : List UInt8) : (sealBody a b hl n cl).length = hl.length + (cl.length + 16) := by
  unfold sealBody; rw [List.length_append, sealedL_len]
theorem sealOut_len (a b c : ByteArray) (hl : List UInt8) (sz n : Nat) (cl : List UInt8) : (sealOut a b c hl sz n cl).length = hl.length + (cl.length + 16) := by
  unfold sealOut; rw [hideL_len, sealBody_len]

theorem gseal_calls (a b c : ByteArray) (hv cv : Value) (hl cl : List UInt8) (size number : Int) (w : World) (hh : Sl w hv hl) (hcl : Sl w cv cl) (hl1 : hl.length ≤ 100000) (hl2 : cl.length ≤ 100000) (hs1 : -9223372036854775808 ≤ size) (hs2 : size ≤ 9223372036854775807) : Ret Tryd.prog 13 #[.agg #[.string a, .string b, .string c], hv, I64 size, I64 number, cv] w fun v w' => (sealE a b c hl size number cl.length = 0 → ∃ o cap cs, v = .tuple #[own o (hl.length + (cl.length + 16)) cap, I64 (0 : Nat)] ∧ Chg [] w w' ∧ OwnC o (hl.length + (cl.length + 16)) cap 1 cs ((sealOut a b c hl size.toNat number.toNat cl).map V8) ∧ ∀ b, o = some b → w.heap.size ≤ b ∧ Blk w' b 5 cs) ∧ ∀ e, sealE a b c hl size number cl.length = e → e ≠ 0 → v = .tuple #[.slice none 0 0, I64 (e : Nat)] ∧ Chg [] w w' := by
 refine Ret.enter Tryd.func13 rfl ?_
 simp only [Tryd.ntmps13, fe, Nat.reduceAdd, Nat.reduceSub]
 have hH := Hp.start [] w
 refine wp_seq_k ?_
 intro K1 hK1
 refine wrt [.x 0, .p 1, .p 2] ?_
 refine plan_box rfl rfl hH rfl ?_
 clear hH
 intro b2 w3 hH
 (try simp only [nf, nh, Value.cells, arrB_set] at hH ⊢)
 refine pa (pka 0 ?_);simp only [nf]
 refine plan_nil hH ?_
 clear hH
 intro w4 hH
 refine hK1 _ _ ?_
 (try clear hK1 K1)
 refine wp_seq_k ?_
 intro K5 hK5
 refine wp_seq_k ?_
 intro K6 hK6
 refine wrt [.p 0, .p 1, .p 2, .p 3, .p 4, .p 5, .p 6, .p 7, .p 8, .p 9, .p 10, .p 11, .p 12, .p 13, .p 14, .q 15, .q 16, .p 17, .p 18, .p 19, .p 20, .p 21, .p 22, .p 23, .p 24, .p 25] ?_
 refine pm ?_;simp only [nf]
 refine pp rfl rfl (pr_bin rfl rfl (by first | exact bin_lss_n (n := 1)  | exact bin_lss_i)) ?_;simp only [nf]
 refine pm ?_;simp only [nf]
 refine plan_pc_f rfl rfl rfl (fun hb => by have hb' := hb; try simp only [gsl] at hb'; rw [hb]; exact pr_move) ?_
 (try simp only [nf])
 refine plan_pc_f rfl rfl rfl (fun hb => by have hb' := hb; try simp only [gsl] at hb'; rw [hb]; exact (pr_bin rfl rfl (by first | exact bin_gtr_n (n := 4)  | exact bin_gtr_i))) ?_
 (try simp only [nf])
 refine pp rfl rfl (pr_pick_or rfl rfl rfl) ?_;simp only [nf]
 refine pm ?_;simp only [nf]
 refine plan_pc_f rfl rfl rfl (fun hb => by have hb' := hb; try simp only [gsl] at hb'; rw [hb]; exact pr_move) ?_
 (try simp only [nf])
 refine plan_pc_f rfl rfl rfl (fun hb => by have hb' := hb; try simp only [gsl] at hb'; rw [hb]; exact (pr_bin rfl rfl (by first | exact bin_lss_n (n := 0)  | exact bin_lss_i))) ?_
 (try simp only [nf])
 refine pp rfl rfl (pr_pick_or rfl rfl rfl) ?_;simp only [nf]
 refine pm ?_;simp only [nf]
 refine plan_pc_f rfl rfl rfl (fun hb => by have hb' := hb; try simp only [gsl] at hb'; rw [hb]; exact pr_move) ?_
 (try simp only [nf])
 refine plan_pc_f rfl rfl rfl (fun hb => by have hb' := hb; try simp only [gsl] at hb'; rw [hb]; exact (pr_bin rfl rfl (by first | exact bin_gtr_n (n := 4611686018427387903)  | exact bin_gtr_i))) ?_
 (try simp only [nf])
 refine pp rfl rfl (pr_pick_or rfl rfl rfl) ?_;simp only [nf]
 refine pm ?_;simp only [nf]
 refine plan_qc_f rfl rfl rfl (fun hb => by have hb' := hb; try simp only [gsl] at hb'; rw [hb]; exact (qr_loadW rfl (hH.blk 0 rfl) Tryd.underlying37 rfl sz37 (by simp))) ?_
 (try simp only [nf])
 refine plan_qc_f rfl rfl rfl (fun hb => by have hb' := hb; try simp only [gsl] at hb'; rw [hb]; exact (qr_call cf27 (fun w' hw => right_calls _ _ _ w') rfl)) ?_
 (try simp only [nf])
 refine plan_pc_f rfl rfl rfl (fun hb => by have hb' := hb; try simp only [gsl] at hb'; rw [hb]; exact (pr_not rfl)) ?_
 (try simp only [nf])
 refine pp rfl rfl (pr_pick_or rfl rfl rfl) ?_;simp only [nf]
 refine pm ?_;simp only [nf]
 refine plan_pc_f rfl rfl rfl (fun hb => by have hb' := hb; try simp only [gsl] at hb'; rw [hb]; exact pr_move) ?_
 (try simp only [nf])
 refine plan_pc_f rfl rfl rfl (fun hb => by have hb' := hb; try simp only [gsl] at hb'; rw [hb]; exact (pr_len_Sl (hh.chg hH.chg) rfl Tryd.underlying22)) ?_
 (try simp only [nf])
 refine plan_pc_f rfl rfl rfl (fun hb => by have hb' := hb; try simp only [gsl] at hb'; rw [hb]; exact pr_move) ?_
 (try simp only [nf])
 refine plan_pc_f rfl rfl rfl (fun hb => by have hb' := hb; try simp only [gsl] at hb'; rw [hb]; exact (pr_bin rfl rfl (by first | exact bin_add_n (n := 1) (by first | omega | (first | (simp only [List.length_drop, List.length_append, sealedL_len] at *; omega) | (have := lt_u8 (hl.getD 0 0 &&& 3); omega))) | exact bin_add_i (by first | omega | (first | (simp only [List.length_drop, List.length_append, sealedL_len] at *; omega) | (have := lt_u8 (hl.getD 0 0 &&& 3); omega))) (by first | omega | (first | (simp only [List.length_drop, List.length_append, sealedL_len] at *; omega) | (have := lt_u8 (hl.getD 0 0 &&& 3); omega)))))) ?_
 (try simp only [nf])
 refine plan_pc_f rfl rfl rfl (fun hb => by have hb' := hb; try simp only [gsl] at hb'; rw [hb]; exact (pr_bin rfl rfl (by first | exact bin_lss_n  | exact bin_lss_i))) ?_
 (try simp only [nf])
 refine pp rfl rfl (pr_pick_or rfl rfl rfl) ?_;simp only [nf]
 refine plan_nil hH ?_
 clear hH
 intro w7 hH
 refine hK6 _ _ ?_
 (try clear hK6 K6)
 refine wp_cond_split rfl (fun hc8 => ?_) (fun hc8 => ?_)
 ·
  (try simp only [cnd, gsl] at hc8)
  have hq := hc8
  refine wp_seq_k ?_
  intro K9 hK9
  refine wrt [.p 0, .p 1] ?_
  refine pa (pka 1 ?_);simp only [nf]
  refine plan_nil hH ?_
  clear hH
  intro w10 hH
  refine hK9 _ _ ?_
  (try clear hK9 K9)
  refine wp_ret ?_
  (try simp only [Exit.then, Exit.inBlock, ↓reduceIte, Nat.reduceEqDiff])
  refine BP.ret2 rfl rfl rfl ?_
  have he : sealE a b c hl size number cl.length = 1 := by
    unfold sealE
    rw [if_neg (fun h => by obtain ⟨h1, h2, h3, h4, h5, h6⟩ := h; rcases hq with ((((hq | hq) | hq) | hq) | hq) | hq <;> first | omega | (rw [h5] at hq; cases hq))]
  exact ⟨fun h => by (rw [he] at h; cases h), fun e h1 _ => by (rw [he] at h1; subst h1; exact ⟨rfl, hH.chg⟩)⟩
 ·
  (try simp only [cnd, gsl] at hc8)
  have hq := hc8
  have hok : 1 ≤ size ∧ size ≤ 4 ∧ 0 ≤ number ∧ number ≤ 4611686018427387903 ∧ rightB a b c = true ∧ size + 1 ≤ hl.length := ⟨by omega, by omega, by omega, by omega, hq.1.2, by first | omega | (rw [str_len]; omega)⟩
  obtain ⟨ha, hb, hc⟩ := rightB_is hok.2.2.2.2.1
  obtain ⟨sz, rfl⟩ : ∃ k : Nat, size = k := ⟨size.toNat, by omega⟩
  obtain ⟨nu, rfl⟩ : ∃ k : Nat, number = k := ⟨number.toNat, by omega⟩
  have hm : ((sz : Nat) : Int).toNat = sz := by omega
  have hnm : ((nu : Nat) : Int).toNat = nu := by omega
  obtain ⟨hw1, hw2, hw3⟩ := pow_size sz (by omega) (by omega)
  have hsz1 : 1 ≤ sz := by omega
  have hsz4 : sz ≤ 4 := by omega
  refine wp_skip ?_
  refine hK5 _ _ ?_
  (try clear hK5 K5)
  refine wp_seq_k ?_
  intro K11 hK11
  refine wp_seq_k ?_
  intro K12 hK12
  refine wrp [.p 0, .p 1, .p 5, .p 6, .q 2, .p 3, .p 4, .p 7, .p 8, .p 9, .p 10, .p 11, .p 12, .p 13, .p 14, .p 16, .p 17, .p 18, .p 19, .p 20, .p 21, .q 15, .p 22, .p 23] ?_
  refine pm ?_;simp only [nf]
  refine pp rfl rfl (pr_idx_Sl (i := 0) (hh.chg hH.chg) rfl rfl Tryd.underlying22 sz5 (by first | omega | (first | (simp only [List.length_drop, List.length_append, sealedL_len] at *; omega) | (have := lt_u8 (hl.getD 0 0 &&& 3); omega)))) ?_;simp only [nf]
  refine pm ?_;simp only [nf]
  refine pp rfl rfl (pr_bin rfl rfl (by first | exact bin_sub_n (n := 1) (by first | omega | (first | (simp only [List.length_drop, List.length_append, sealedL_len] at *; omega) | (have := lt_u8 (hl.getD 0 0 &&& 3); omega))) (by first | omega | (first | (simp only [List.length_drop, List.length_append, sealedL_len] at *; omega) | (have := lt_u8 (hl.getD 0 0 &&& 3); omega))) | exact bin_sub_i (by first | omega | (first | (simp only [List.length_drop, List.length_append, sealedL_len] at *; omega) | (have := lt_u8 (hl.getD 0 0 &&& 3); omega))) (by first | omega | (first | (simp only [List.length_drop, List.length_append, sealedL_len] at *; omega) | (have := lt_u8 (hl.getD 0 0 &&& 3); omega))))) ?_;simp only [nf]
  refine pq rfl rfl (qr_load1 rfl Tryd.underlying5 rfl (Sl.cell (i := 0) (hh.chg hH.chg) (by first | omega | (first | (simp only [List.length_drop, List.length_append, sealedL_len] at *; omega) | (have := lt_u8 (hl.getD 0 0 &&& 3); omega))))) ?_;simp only [nf]
  refine pp rfl rfl (pr_bin rfl rfl (bin_and_u8 _ 3)) ?_;simp only [nf]
  refine pp rfl rfl (pr_conv rfl (cnv_u8_n _ Tryd.underlying5 Tryd.underlying3)) ?_;simp only [nf]
  refine pp rfl rfl (pr_bin rfl rfl (by first | exact bin_neq_n  | exact bin_neq_i)) ?_;simp only [nf]
  refine pm ?_;simp only [nf]
  refine plan_pc_f rfl rfl rfl (fun hb => by have hb' := hb; try simp only [gsl] at hb'; rw [hb]; exact pr_move) ?_
  (try simp only [nf])
  refine plan_pc_f rfl rfl rfl (fun hb => by have hb' := hb; try simp only [gsl] at hb'; rw [hb]; exact pr_move) ?_
  (try simp only [nf])
  refine plan_pc_f rfl rfl rfl (fun hb => by have hb' := hb; try simp only [gsl] at hb'; rw [hb]; exact (pr_len_Sl (hh.chg hH.chg) rfl Tryd.underlying22)) ?_
  (try simp only [nf])
  refine plan_pc_f rfl rfl rfl (fun hb => by have hb' := hb; try simp only [gsl] at hb'; rw [hb]; exact pr_move) ?_
  (try simp only [nf])
  refine plan_pc_f rfl rfl rfl (fun hb => by have hb' := hb; try simp only [gsl] at hb'; rw [hb]; exact (pr_bin rfl rfl (by first | exact bin_sub_n (by first | omega | (first | (simp only [List.length_drop, List.length_append, sealedL_len] at *; omega) | (have := lt_u8 (hl.getD 0 0 &&& 3); omega))) (by first | omega | (first | (simp only [List.length_drop, List.length_append, sealedL_len] at *; omega) | (have := lt_u8 (hl.getD 0 0 &&& 3); omega))) | exact bin_sub_i (by first | omega | (first | (simp only [List.length_drop, List.length_append, sealedL_len] at *; omega) | (have := lt_u8 (hl.getD 0 0 &&& 3); omega))) (by first | omega | (first | (simp only [List.length_drop, List.length_append, sealedL_len] at *; omega) | (have := lt_u8 (hl.getD 0 0 &&& 3); omega)))))) ?_
  (try simp only [nf])
  refine plan_pc_f rfl rfl rfl (fun hb => by have hb' := hb; try simp only [gsl] at hb'; rw [hb]; exact (pr_slice_Sl_l (hh.chg hH.chg) rfl rfl Tryd.underlying22 sz5 (by first | omega | (first | (simp only [List.length_drop, List.length_append, sealedL_len] at *; omega) | (have := lt_u8 (hl.getD 0 0 &&& 3); omega))))) ?_
  (try simp only [nf])
  refine plan_pc_f rfl rfl rfl (fun hb => by have hb' := hb; try simp only [gsl] at hb'; rw [hb]; exact pr_move) ?_
  (try simp only [nf])
  refine plan_pc_f rfl rfl rfl (fun hb => by have hb' := hb; try simp only [gsl] at hb'; rw [hb]; exact pr_move) ?_
  (try simp only [nf])
  refine plan_pc_f rfl rfl rfl (fun hb => by have hb' := hb; try simp only [gsl] at hb'; rw [hb]; exact (pr_bin rfl rfl (by first | exact bin_mul_n (m := 8) (by first | omega | (first | (simp only [List.length_drop, List.length_append, sealedL_len] at *; omega) | (have := lt_u8 (hl.getD 0 0 &&& 3); omega))) | exact bin_mul_i (by first | omega | (first | (simp only [List.length_drop, List.length_append, sealedL_len] at *; omega) | (have := lt_u8 (hl.getD 0 0 &&& 3); omega))) (by first | omega | (first | (simp only [List.length_drop, List.length_append, sealedL_len] at *; omega) | (have := lt_u8 (hl.getD 0 0 &&& 3); omega)))))) ?_
  (try simp only [nf])
  refine plan_pc_f rfl rfl rfl (fun hb => by have hb' := hb; try simp only [gsl] at hb'; rw [hb]; exact (pr_bin rfl rfl (bin_shl_n (m := 1) (by first | omega | (first | (simp only [List.length_drop, List.length_append, sealedL_len] at *; omega) | (have := lt_u8 (hl.getD 0 0 &&& 3); omega))) (by first | omega | (first | (simp only [List.length_drop, List.length_append, sealedL_len] at *; omega) | (have := lt_u8 (hl.getD 0 0 &&& 3); omega)))))) ?_
  (try simp only [nf])
  refine plan_pc_f rfl rfl rfl (fun hb => by have hb' := hb; try simp only [gsl] at hb'; rw [hb]; exact (pr_bin rfl rfl (by first | exact bin_sub_n (n := 1) (by first | omega | (first | (simp only [List.length_drop, List.length_append, sealedL_len] at *; omega) | (have := lt_u8 (hl.getD 0 0 &&& 3); omega))) (by first | omega | (first | (simp only [List.length_drop, List.length_append, sealedL_len] at *; omega) | (have := lt_u8 (hl.getD 0 0 &&& 3); omega))) | exact bin_sub_i (by first | omega | (first | (simp only [List.length_drop, List.length_append, sealedL_len] at *; omega) | (have := lt_u8 (hl.getD 0 0 &&& 3); omega))) (by first | omega | (first | (simp only [List.length_drop, List.length_append, sealedL_len] at *; omega) | (have := lt_u8 (hl.getD 0 0 &&& 3); omega)))))) ?_
  (try simp only [nf])
  refine plan_pc_f rfl rfl rfl (fun hb => by have hb' := hb; try simp only [gsl] at hb'; rw [hb]; exact (pr_bin rfl rfl (by first | exact bin_and_n (by first | omega | (first | (simp only [List.length_drop, List.length_append, sealedL_len] at *; omega) | (have := lt_u8 (hl.getD 0 0 &&& 3); omega))) (by first | omega | (first | (simp only [List.length_drop, List.length_append, sealedL_len] at *; omega) | (have := lt_u8 (hl.getD 0 0 &&& 3); omega)))))) ?_
  (try simp only [nf])
  refine plan_qc_f rfl rfl rfl (fun hb => by have hb' := hb; try simp only [gsl] at hb'; rw [hb]; exact (qr_call cf28 (fun w' hw => low_calls _ _ w' ((Sl.cutl (hh.chg hH.chg) (by first | omega | (first | (simp only [List.length_drop, List.length_append, sealedL_len] at *; omega) | (have := lt_u8 (hl.getD 0 0 &&& 3); omega)))).chg hw) (by rw [List.length_drop]; omega)) rfl)) ?_
  (try simp only [nf])
  refine plan_pc_f rfl rfl rfl (fun hb => by have hb' := hb; try simp only [gsl] at hb'; rw [hb]; exact (pr_bin rfl rfl (by first | exact bin_neq_n  | exact bin_neq_i))) ?_
  (try simp only [nf])
  refine pp rfl rfl (pr_pick_or rfl rfl rfl) ?_;simp only [nf]
  refine plan_nil hH ?_
  clear hH
  intro w13 hH
  refine hK12 _ _ ?_
  (try clear hK12 K12)
  refine wp_cond_split rfl (fun hc14 => ?_) (fun hc14 => ?_)
  ·
   (try simp only [cnd, gsl] at hc14)
   have hf := hc14
   refine wp_seq_k ?_
   intro K15 hK15
   refine wrt [.p 0, .p 1] ?_
   refine pa (pka 2 ?_);simp only [nf]
   refine plan_nil hH ?_
   clear hH
   intro w16 hH
   refine hK15 _ _ ?_
   (try clear hK15 K15)
   refine wp_ret ?_
   (try simp only [Exit.then, Exit.inBlock, ↓reduceIte, Nat.reduceEqDiff])
   refine BP.ret2 rfl rfl rfl ?_
   have he : sealE a b c hl (sz : Nat) (nu : Nat) cl.length = 2 := by
     unfold sealE
     rw [if_pos hok, hm, hnm, if_neg (fun h => by (obtain ⟨h1, h2⟩ := h; rw [u8_and3, Nat.one_mul, Nat.and_two_pow_sub_one_eq_mod, List.length_drop] at hf; rw [show hl.length - (hl.length - sz) = sz by omega] at hf; rcases hf with hf | hf <;> first | exact hf h1 | exact hf h2))]
   exact ⟨fun h => by (rw [he] at h; cases h), fun e h1 _ => by (rw [he] at h1; subst h1; exact ⟨rfl, hH.chg⟩)⟩
  ·
   (try simp only [cnd, gsl] at hc14)
   have hf := hc14
   refine wp_skip ?_
   refine hK11 _ _ ?_
   (try clear hK11 K11)
   refine wp_seq_k ?_
   intro K17 hK17
   refine wp_block ?_
   refine wp_seq_k ?_
   intro K18 hK18
   refine wrt [.p 0, .p 1, .p 2, .p 3, .p 4, .p 5] ?_
   refine pm ?_;simp only [nf]
   refine pp rfl rfl (pr_len_Sl (hcl.chg hH.chg) rfl Tryd.underlying22) ?_;simp only [nf]
   refine pm ?_;simp only [nf]
   refine pp rfl rfl (pr_bin rfl rfl (by first | exact bin_sub_n (m := 4) (by first | omega | (first | (simp only [List.length_drop, List.length_append, sealedL_len] at *; omega) | (have := lt_u8 (hl.getD 0 0 &&& 3); omega))) (by first | omega | (first | (simp only [List.length_drop, List.length_append, sealedL_len] at *; omega) | (have := lt_u8 (hl.getD 0 0 &&& 3); omega))) | exact bin_sub_i (by first | omega | (first | (simp only [List.length_drop, List.length_append, sealedL_len] at *; omega) | (have := lt_u8 (hl.getD 0 0 &&& 3); omega))) (by first | omega | (first | (simp only [List.length_drop, List.length_append, sealedL_len] at *; omega) | (have := lt_u8 (hl.getD 0 0 &&& 3); omega))))) ?_;simp only [nf]
   refine pp rfl rfl (pr_bin rfl rfl (by first | exact bin_lss_n  | exact bin_lss_i)) ?_;simp only [nf]
   refine pa ?_;simp only [nf]
   refine plan_nil hH ?_
   clear hH
   intro w19 hH
   refine hK18 _ _ ?_
   (try clear hK18 K18)
   refine wp_cond_split rfl (fun hc20 => ?_) (fun hc20 => ?_)
   ·
    (try simp only [cnd, gsl] at hc20)
    have ht := hc20
    refine wp_seq_k ?_
    intro K21 hK21
    refine wrt [.p 0, .p 1] ?_
    refine pa (pka 3 ?_);simp only [nf]
    refine plan_nil hH ?_
    clear hH
    intro w22 hH
    refine hK21 _ _ ?_
    (try clear hK21 K21)
    refine wp_ret ?_
    (try simp only [Exit.then, Exit.inBlock, ↓reduceIte, Nat.reduceEqDiff])
    refine BP.ret2 rfl rfl rfl ?_
    have hform : (hl.getD 0 0).toNat % 4 = sz - 1 ∧ lowN (hl.drop (hl.length - sz)) sz = nu % 2 ^ (8 * sz) := by
      rw [u8_and3, Nat.one_mul, Nat.and_two_pow_sub_one_eq_mod, List.length_drop] at hf
      rw [show hl.length - (hl.length - sz) = sz by omega] at hf
      exact hf
    have he : sealE a b c hl (sz : Nat) (nu : Nat) cl.length = 3 := by
      unfold sealE
      rw [if_pos hok, hm, hnm, if_pos hform, if_pos (by omega)]
    exact ⟨fun h => by (rw [he] at h; cases h), fun e h1 _ => by (rw [he] at h1; subst h1; exact ⟨rfl, hH.chg⟩)⟩
   ·
    (try simp only [cnd, gsl] at hc20)
    have ht := hc20
    refine wp_seq_k ?_
    intro K23 hK23
    refine wrt [.p 0, .p 1, .p 2, .p 3] ?_
    refine pm ?_;simp only [nf]
    refine pp rfl rfl (pr_len_Sl (hcl.chg hH.chg) rfl Tryd.underlying22) ?_;simp only [nf]
    refine pp rfl rfl (pr_bin rfl rfl (by first | exact bin_gtr_n (n := 65000)  | exact bin_gtr_i)) ?_;simp only [nf]
    refine pa ?_;simp only [nf]
    refine plan_nil hH ?_
    clear hH
    intro w24 hH
    refine hK23 _ _ ?_
    (try clear hK23 K23)
    refine wp_cond_split rfl (fun hc25 => ?_) (fun hc25 => ?_)
    ·
     (try simp only [cnd, gsl] at hc25)
     have hbg := hc25
     refine wp_seq_k ?_
     intro K26 hK26
     refine wrt [.p 0, .p 1] ?_
     refine pa (pka 5 ?_);simp only [nf]
     refine plan_nil hH ?_
     clear hH
     intro w27 hH
     refine hK26 _ _ ?_
     (try clear hK26 K26)
     refine wp_ret ?_
     (try simp only [Exit.then, Exit.inBlock, ↓reduceIte, Nat.reduceEqDiff])
     refine BP.ret2 rfl rfl rfl ?_
     have hform : (hl.getD 0 0).toNat % 4 = sz - 1 ∧ lowN (hl.drop (hl.length - sz)) sz = nu % 2 ^ (8 * sz) := by
       rw [u8_and3, Nat.one_mul, Nat.and_two_pow_sub_one_eq_mod, List.length_drop] at hf
       rw [show hl.length - (hl.length - sz) = sz by omega] at hf
       exact hf
     have he : sealE a b c hl (sz : Nat) (nu : Nat) cl.length = 5 := by
       unfold sealE
       rw [if_pos hok, hm, hnm, if_pos hform, if_neg (by omega), if_pos (by omega)]
     exact ⟨fun h => by (rw [he] at h; cases h), fun e h1 _ => by (rw [he] at h1; subst h1; exact ⟨rfl, hH.chg⟩)⟩
    ·
     (try simp only [cnd, gsl] at hc25)
     have hbg := hc25
     refine wp_skip ?_
     refine hK17 _ _ ?_
     (try clear hK17 K17)
     refine wp_seq_k ?_
     intro K28 hK28
     refine wrt [.p 0, .q 1, .x 2, .x 3, .p 4, .p 5, .p 6, .p 7, .p 8] ?_
     refine pp rfl rfl (pr_fieldAddr 0 rfl Tryd.underlying37 rfl rfl sz9) ?_;simp only [nf]
     refine pq rfl rfl (qr_load1 rfl Tryd.underlying9 rfl ((hH.blk 0 rfl).cell rfl)) ?_;simp only [nf]
     refine plan_s2b rfl rfl hH rfl Tryd.underlying9 Tryd.underlying22 Tryd.underlying5 ?_
     clear hH
     intro b29 cap30 cs31 w32 hO33 hH
     (try simp only [nf] at hH ⊢)
     (try simp only [nf, nh, Value.cells, arrB_set] at hH ⊢)
     refine plan_callx rfl rfl hH cf22 (fun w' hH => gnew_calls _ _ w' (OwnC.sl hH 1 rfl hO33) (by simpa using ha)) rfl (fun _ _ _ h => by obtain ⟨_, _, _, hg, _⟩ := h; exact hg) ?_
     clear hH
     intro w34 v35 w36 hH hp37
     obtain ⟨b38, b39, rfl, hg, hfc, hbc, hfx, hbx, hne⟩ := hp37
     replace hH := hH.callnew2 hg hbc hfc hbx hfx hne
     clear hg hfc hbc hfx hbx hne
     (try simp only [nf, nh, Value.cells, arrB_set] at hH ⊢)
     (try simp only [nf])
     refine pm ?_;simp only [nf]
     refine pp rfl rfl (pr_extract rfl rfl) ?_;simp only [nf]
     refine pp rfl rfl (pr_extract rfl rfl) ?_;simp only [nf]
     refine pa (pa ?_);simp only [nf]
     refine plan_nil hH ?_
     clear hH
     intro w40 hH
     refine hK28 _ _ ?_
     (try clear hK28 K28)
     refine wp_seq_k ?_
     intro K41 hK41
     refine wp_seq_k ?_
     intro K42 hK42
     refine wrt [.p 0, .p 1] ?_
     refine pm ?_;simp only [nf]
     refine pp rfl rfl (pr_bin rfl rfl (by first | exact bin_neq_n (n := 0)  | exact bin_neq_i)) ?_;simp only [nf]
     refine plan_nil hH ?_
     clear hH
     intro w43 hH
     refine hK42 _ _ ?_
     (try clear hK42 K42)
     refine wp_cond_false rfl ?_
     refine wp_skip ?_
     refine hK41 _ _ ?_
     (try clear hK41 K41)
     refine wp_seq_k ?_
     intro K44 hK44
     refine wrt [.p 0, .q 1, .p 2, .x 3, .p 4, .p 5, .x 6, .p 7, .p 8, .p 9, .p 10, .p 11] ?_
     refine pm ?_;simp only [nf]
     refine pq rfl rfl (qr_loadW rfl (hH.blk 0 rfl) Tryd.underlying37 rfl sz37 (by simp)) ?_;simp only [nf]
     refine pm ?_;simp only [nf]
     refine plan_callx rfl rfl hH cf29 (fun w' hH => nonce_calls _ _ _ _ w' hb (by omega)) rfl (fun _ _ _ h => by obtain ⟨_, _, _, _, hg, _⟩ := h; exact hg) ?_
     clear hH
     intro w45 v46 w47 hH hp48
     obtain ⟨o49, cap50, cs51, rfl, hg, hO52, hfr⟩ := hp48
     replace hH := hH.callown hg hfr
     clear hg hfr
     (try simp only [nf, nh, Value.cells, arrB_set] at hH ⊢)
     (try simp only [nf])
     refine pm (pm ?_);simp only [nf]
     refine plan_callx rfl rfl hH cf23 (fun w' hH => Seal_calls _ _ _ (hP _) _ _ _ _ _ _ w' (hH.blk 3 rfl) (hH.blk 2 rfl) (OwnC.sl hH 4 rfl hO52) (by rw [nonL_len]; simpa using hb) (hh.chg hH.chg) (hcl.chg hH.chg) (by omega)) rfl (fun _ _ _ h => by obtain ⟨_, _, _, _, hg, _⟩ := h; exact hg) ?_
     clear hH
     intro w53 v54 w55 hH hp56
     obtain ⟨o57, cap58, cs59, rfl, hg, hO60, hfr⟩ := hp56
     replace hH := hH.callown hg hfr
     clear hg hfr
     (try simp only [nf, nh, Value.cells, arrB_set] at hH ⊢)
     (try simp only [nf])
     refine pm ?_;simp only [nf]
     refine pp rfl rfl (pr_extract rfl rfl) ?_;simp only [nf]
     refine pp rfl rfl (pr_extract rfl rfl) ?_;simp only [nf]
     refine pa (pa ?_);simp only [nf]
     refine plan_nil hH ?_
     clear hH
     intro w61 hH
     refine hK44 _ _ ?_
     (try clear hK44 K44)
     refine wp_seq_k ?_
     intro K62 hK62
     refine wp_seq_k ?_
     intro K63 hK63
     refine wrt [.p 0, .p 1] ?_
     refine pm ?_;simp only [nf]
     refine pp rfl rfl (pr_bin rfl rfl (by first | exact bin_neq_n (n := 0)  | exact bin_neq_i)) ?_;simp only [nf]
     refine plan_nil hH ?_
     clear hH
     intro w64 hH
     refine hK63 _ _ ?_
     (try clear hK63 K63)
     refine wp_cond_false rfl ?_
     refine wp_skip ?_
     refine hK62 _ _ ?_
     (try clear hK62 K62)
     refine wp_seq_k ?_
     intro K65 hK65
     refine wrt [.p 0, .x 1, .p 2, .e 3, .p 4] ?_
     refine pm ?_;simp only [nf]
     refine plan_callx rfl rfl hH cf30 (fun w' hH => clone_calls _ _ w' (hh.chg hH.chg) (by first | assumption | (apply List.ne_nil_of_length_pos; omega)) (by first | omega | (simp <;> omega))) rfl (fun _ _ _ h => by obtain ⟨_, _, _, _, hg, _⟩ := h; exact hg) ?_
     clear hH
     intro w66 v67 w68 hH hp69
     obtain ⟨o70, cap71, cs72, rfl, hg, hO73, hfr⟩ := hp69
     replace hH := hH.callown hg hfr
     clear hg hfr
     (try simp only [nf, nh, Value.cells, arrB_set] at hH ⊢)
     (try simp only [nf])
     refine pm ?_;simp only [nf]
     refine plan_append 6 rfl rfl hH rfl hO73 (fun w' hH => ((OwnC.sl hH 5 rfl hO60)).src) rfl rfl Tryd.underlying22 Tryd.underlying22 (.inl ⟨_, rfl⟩) sz5 bz5 ze5 rfl (by first | omega | (rw [sealedL_len]; omega)) (by first | omega | (rw [sealedL_len]; omega)) ?_
     clear hH
     intro o74 cap75 cs76 w77 hO78 hH
     (try simp only [nf] at hH ⊢)
     (try simp only [nf, nh, Value.cells, arrB_set] at hH ⊢)
     try rw [← List.map_append] at hO78
     (try simp only [Nat.zero_add, List.nil_append, List.length_nil] at hO78 ⊢)
     refine pa ?_;simp only [nf]
     refine plan_nil hH ?_
     clear hH
     intro w79 hH
     simp only [sealedL_len] at hO78 ⊢
     obtain ⟨b80, rfl⟩ := OwnC.some hO78 (by omega)
     refine hK65 _ _ ?_
     (try clear hK65 K65)
     refine wp_seq_k ?_
     intro K81 hK81
     refine wrt [.p 0, .p 1, .p 2, .p 3, .p 4] ?_
     refine pm ?_;simp only [nf]
     refine pp rfl rfl (pr_len_Sl (hh.chg hH.chg) rfl Tryd.underlying22) ?_;simp only [nf]
     refine pm ?_;simp only [nf]
     refine pp rfl rfl (pr_bin rfl rfl (by first | exact bin_sub_n (by first | omega | (first | (simp only [List.length_drop, List.length_append, sealedL_len] at *; omega) | (have := lt_u8 (hl.getD 0 0 &&& 3); omega))) (by first | omega | (first | (simp only [List.length_drop, List.length_append, sealedL_len] at *; omega) | (have := lt_u8 (hl.getD 0 0 &&& 3); omega))) | exact bin_sub_i (by first | omega | (first | (simp only [List.length_drop, List.length_append, sealedL_len] at *; omega) | (have := lt_u8 (hl.getD 0 0 &&& 3); omega))) (by first | omega | (first | (simp only [List.length_drop, List.length_append, sealedL_len] at *; omega) | (have := lt_u8 (hl.getD 0 0 &&& 3); omega))))) ?_;simp only [nf]
     refine pa ?_;simp only [nf]
     refine plan_nil hH ?_
     clear hH
     intro w82 hH
     refine hK81 _ _ ?_
     (try clear hK81 K81)
     refine wp_seq_k ?_
     intro K83 hK83
     refine wrt [.p 0, .q 1, .p 2, .p 3, .x 4, .p 5, .p 6, .e 7] ?_
     refine pm ?_;simp only [nf]
     refine pq rfl rfl (qr_loadW rfl (hH.blk 0 rfl) Tryd.underlying37 rfl sz37 (by simp)) ?_;simp only [nf]
     refine pm (pm ?_);simp only [nf]
     refine plan_callx rfl rfl hH cf32 (fun w' hH => mask_calls _ _ _ _ _ _ w' (OwnC.sl hH 6 rfl hO78) hc (by rw [List.length_append, sealedL_len]; omega) (by rw [List.length_append, sealedL_len]; omega)) rfl (fun _ _ _ h => h.choose_spec.2.1) ?_
     clear hH
     intro w84 v85 w86 hH hp87
     obtain ⟨b88, rfl, hg, hfr, hbk⟩ := hp87
     replace hH := hH.callnew hg hbk hfr
     clear hg hfr hbk
     (try simp only [nf, nh, Value.cells, arrB_set] at hH ⊢)
     (try simp only [nf])
     refine pm (pm ?_);simp only [nf]
     refine plan_calle rfl rfl hH cf31 (fun w' hH => hide_calls _ _ _ _ (sealBody a b hl nu cl) (maskL c.data.toList (sealBody a b hl nu cl) (hl.length - sz)) _ (hl.length - sz) sz w' (sealBody_len a b hl nu cl) (hH.blk 6 rfl) hO78 (fun w'' hw => (Sl.of_arr8 (o := 0) (n := 16) (hw.blk (hH.blk 7 rfl) (by simp only [List.mem_singleton]; exact hH.other (i := 6) rfl (j := 7) rfl (by decide) rfl)) (by omega) (by omega)).of_eq (by simp only [Nat.zero_add]; rfl)) (by rw [sealBody_len]; omega) (by rw [sealBody_len]; omega) (by rw [maskL_len]; omega) (by rw [sealBody_len]; omega)) rfl ?_
     clear hH
     intro w89 v90 w91 hH hp92
     obtain ⟨rfl, hg, cs93, hbk, hO94⟩ := hp92
     replace hH := hH.callw 6 rfl hg hbk
     clear hg hbk
     (try simp only [nf, nh, Value.cells, arrB_set] at hH ⊢)
     refine plan_nil hH ?_
     clear hH
     intro w95 hH
     refine hK83 _ _ ?_
     (try clear hK83 K83)
     refine wp_seq_k ?_
     intro K96 hK96
     refine wrt [.p 0, .p 1, .p 2] ?_
     refine pm (pa (pka 0 ?_));simp only [nf]
     refine plan_nil hH ?_
     clear hH
     intro w97 hH
     refine hK96 _ _ ?_
     (try clear hK96 K96)
     refine wp_ret ?_
     (try simp only [Exit.then, Exit.inBlock, ↓reduceIte, Nat.reduceEqDiff])
     refine BP.ret2 rfl rfl rfl ?_
     have hform : (hl.getD 0 0).toNat % 4 = sz - 1 ∧ lowN (hl.drop (hl.length - sz)) sz = nu % 2 ^ (8 * sz) := by
       rw [u8_and3, Nat.one_mul, Nat.and_two_pow_sub_one_eq_mod, List.length_drop] at hf
       rw [show hl.length - (hl.length - sz) = sz by omega] at hf
       exact hf
     have he : sealE a b c hl (sz : Nat) (nu : Nat) cl.length = 0 := by
       unfold sealE
       rw [if_pos hok, hm, hnm, if_pos hform, if_neg (by omega), if_neg (by omega)]
     exact ⟨fun _ => ⟨_, _, _, rfl, hH.chg, (by assumption), hH.owned 6 rfl⟩, fun e h1 h2 => absurd (h1.symm.trans he) h2⟩

theorem docseal_calls (a b c s t : ByteArray) (size number : Int) (w : World) (hl1 : s.size ≤ 100000) (hl2 : t.size ≤ 100000) (hs1 : -9223372036854775808 ≤ size) (hs2 : size ≤ 9223372036854775807) : Ret Tryd.prog 12 #[.agg #[.string a, .string b, .string c], .string s, I64 size, I64 number, .string t] w fun v w' => (sealE a b c s.data.toList size number t.size = 0 → v = .tuple #[.string ⟨(sealOut a b c s.data.toList size.toNat number.toNat t.data.toList).toArray⟩, I64 (0 : Nat)] ∧ Chg [] w w') ∧ ∀ e, sealE a b c s.data.toList size number t.size = e → e ≠ 0 → v = .tuple #[.string ⟨#[]⟩, I64 (e : Nat)] ∧ Chg [] w w' := by
 have hsl : s.data.toList.length = s.size := by simp
 refine Ret.enter Tryd.func12 rfl ?_
 simp only [Tryd.ntmps12, fe, Nat.reduceAdd, Nat.reduceSub]
 have hH := Hp.start [] w
 refine wp_seq_k ?_
 intro K1 hK1
 refine wrt [.x 0, .p 1, .p 2] ?_
 refine plan_box rfl rfl hH rfl ?_
 clear hH
 intro b2 w3 hH
 (try simp only [nf, nh, Value.cells, arrB_set] at hH ⊢)
 refine pa (pka 0 ?_);simp only [nf]
 refine plan_nil hH ?_
 clear hH
 intro w4 hH
 refine hK1 _ _ ?_
 (try clear hK1 K1)
 refine wp_seq_k ?_
 intro K5 hK5
 refine wp_seq_k ?_
 intro K6 hK6
 refine wrt [.p 0, .p 1, .p 2, .p 3, .p 4, .p 5, .p 6, .p 7, .p 8, .p 9, .p 10, .p 11, .p 12, .p 13, .p 14, .q 15, .q 16, .p 17, .p 18, .p 19, .p 20, .p 21, .p 22, .p 23, .p 24, .p 25] ?_
 refine pm ?_;simp only [nf]
 refine pp rfl rfl (pr_bin rfl rfl (by first | exact bin_lss_n (n := 1)  | exact bin_lss_i)) ?_;simp only [nf]
 refine pm ?_;simp only [nf]
 refine plan_pc_f rfl rfl rfl (fun hb => by have hb' := hb; try simp only [gsl] at hb'; rw [hb]; exact pr_move) ?_
 (try simp only [nf])
 refine plan_pc_f rfl rfl rfl (fun hb => by have hb' := hb; try simp only [gsl] at hb'; rw [hb]; exact (pr_bin rfl rfl (by first | exact bin_gtr_n (n := 4)  | exact bin_gtr_i))) ?_
 (try simp only [nf])
 refine pp rfl rfl (pr_pick_or rfl rfl rfl) ?_;simp only [nf]
 refine pm ?_;simp only [nf]
 refine plan_pc_f rfl rfl rfl (fun hb => by have hb' := hb; try simp only [gsl] at hb'; rw [hb]; exact pr_move) ?_
 (try simp only [nf])
 refine plan_pc_f rfl rfl rfl (fun hb => by have hb' := hb; try simp only [gsl] at hb'; rw [hb]; exact (pr_bin rfl rfl (by first | exact bin_lss_n (n := 0)  | exact bin_lss_i))) ?_
 (try simp only [nf])
 refine pp rfl rfl (pr_pick_or rfl rfl rfl) ?_;simp only [nf]
 refine pm ?_;simp only [nf]
 refine plan_pc_f rfl rfl rfl (fun hb => by have hb' := hb; try simp only [gsl] at hb'; rw [hb]; exact pr_move) ?_
 (try simp only [nf])
 refine plan_pc_f rfl rfl rfl (fun hb => by have hb' := hb; try simp only [gsl] at hb'; rw [hb]; exact (pr_bin rfl rfl (by first | exact bin_gtr_n (n := 4611686018427387903)  | exact bin_gtr_i))) ?_
 (try simp only [nf])
 refine pp rfl rfl (pr_pick_or rfl rfl rfl) ?_;simp only [nf]
 refine pm ?_;simp only [nf]
 refine plan_qc_f rfl rfl rfl (fun hb => by have hb' := hb; try simp only [gsl] at hb'; rw [hb]; exact (qr_loadW rfl (hH.blk 0 rfl) Tryd.underlying30 rfl sz30 (by simp))) ?_
 (try simp only [nf])
 refine plan_qc_f rfl rfl rfl (fun hb => by have hb' := hb; try simp only [gsl] at hb'; rw [hb]; exact (qr_call cf24 (fun w' hw => docright_calls _ _ _ w') rfl)) ?_
 (try simp only [nf])
 refine plan_pc_f rfl rfl rfl (fun hb => by have hb' := hb; try simp only [gsl] at hb'; rw [hb]; exact (pr_not rfl)) ?_
 (try simp only [nf])
 refine pp rfl rfl (pr_pick_or rfl rfl rfl) ?_;simp only [nf]
 refine pm ?_;simp only [nf]
 refine plan_pc_f rfl rfl rfl (fun hb => by have hb' := hb; try simp only [gsl] at hb'; rw [hb]; exact pr_move) ?_
 (try simp only [nf])
 refine plan_pc_f rfl rfl rfl (fun hb => by have hb' := hb; try simp only [gsl] at hb'; rw [hb]; exact (pr_len_str rfl Tryd.underlying9)) ?_
 (try simp only [nf])
 refine plan_pc_f rfl rfl rfl (fun hb => by have hb' := hb; try simp only [gsl] at hb'; rw [hb]; exact pr_move) ?_
 (try simp only [nf])
 refine plan_pc_f rfl rfl rfl (fun hb => by have hb' := hb; try simp only [gsl] at hb'; rw [hb]; exact (pr_bin rfl rfl (by first | exact bin_add_n (n := 1) (by first | omega | (first | (have := lt_u8 (s.data.toList.getD 0 0); omega) | (rw [sealed_bsz, str_len]; omega))) | exact bin_add_i (by first | omega | (first | (have := lt_u8 (s.data.toList.getD 0 0); omega) | (rw [sealed_bsz, str_len]; omega))) (by first | omega | (first | (have := lt_u8 (s.data.toList.getD 0 0); omega) | (rw [sealed_bsz, str_len]; omega)))))) ?_
 (try simp only [nf])
 refine plan_pc_f rfl rfl rfl (fun hb => by have hb' := hb; try simp only [gsl] at hb'; rw [hb]; exact (pr_bin rfl rfl (by first | exact bin_lss_n  | exact bin_lss_i))) ?_
 (try simp only [nf])
 refine pp rfl rfl (pr_pick_or rfl rfl rfl) ?_;simp only [nf]
 refine plan_nil hH ?_
 clear hH
 intro w7 hH
 refine hK6 _ _ ?_
 (try clear hK6 K6)
 refine wp_cond_split rfl (fun hc8 => ?_) (fun hc8 => ?_)
 ·
  (try simp only [cnd, gsl] at hc8)
  have hq := hc8
  refine wp_seq_k ?_
  intro K9 hK9
  refine wrt [.p 0, .p 1] ?_
  refine pa (pka 1 ?_);simp only [nf]
  refine plan_nil hH ?_
  clear hH
  intro w10 hH
  refine hK9 _ _ ?_
  (try clear hK9 K9)
  refine wp_ret ?_
  (try simp only [Exit.then, Exit.inBlock, ↓reduceIte, Nat.reduceEqDiff])
  refine BP.ret2 rfl rfl rfl ?_
  have he : sealE a b c s.data.toList size number t.size = 1 := by
    unfold sealE
    rw [if_neg (fun h => by obtain ⟨h1, h2, h3, h4, h5, h6⟩ := h; rcases hq with ((((hq | hq) | hq) | hq) | hq) | hq <;> first | omega | (rw [str_len] at h6; omega) | (rw [h5] at hq; cases hq))]
  exact ⟨fun h => by (rw [he] at h; cases h), fun e h1 _ => by (rw [he] at h1; subst h1; exact ⟨rfl, hH.chg⟩)⟩
 ·
  (try simp only [cnd, gsl] at hc8)
  have hq := hc8
  have hok : 1 ≤ size ∧ size ≤ 4 ∧ 0 ≤ number ∧ number ≤ 4611686018427387903 ∧ rightB a b c = true ∧ size + 1 ≤ s.data.toList.length := ⟨by omega, by omega, by omega, by omega, hq.1.2, by first | omega | (rw [str_len]; omega)⟩
  obtain ⟨ha, hb, hc⟩ := rightB_is hok.2.2.2.2.1
  obtain ⟨sz, rfl⟩ : ∃ k : Nat, size = k := ⟨size.toNat, by omega⟩
  obtain ⟨nu, rfl⟩ : ∃ k : Nat, number = k := ⟨number.toNat, by omega⟩
  have hm : ((sz : Nat) : Int).toNat = sz := by omega
  have hnm : ((nu : Nat) : Int).toNat = nu := by omega
  obtain ⟨hw1, hw2, hw3⟩ := pow_size sz (by omega) (by omega)
  have hsz1 : 1 ≤ sz := by omega
  have hsz4 : sz ≤ 4 := by omega
  refine wp_skip ?_
  refine hK5 _ _ ?_
  (try clear hK5 K5)
  refine wp_seq_k ?_
  intro K11 hK11
  refine wrt [.p 0, .p 1, .p 2, .p 3, .p 4] ?_
  refine pm ?_;simp only [nf]
  refine pp rfl rfl (pr_len_str rfl Tryd.underlying9) ?_;simp only [nf]
  refine pm ?_;simp only [nf]
  refine pp rfl rfl (pr_bin rfl rfl (by first | exact bin_sub_n (by first | omega | (first | (have := lt_u8 (s.data.toList.getD 0 0); omega) | (rw [sealed_bsz, str_len]; omega))) (by first | omega | (first | (have := lt_u8 (s.data.toList.getD 0 0); omega) | (rw [sealed_bsz, str_len]; omega))) | exact bin_sub_i (by first | omega | (first | (have := lt_u8 (s.data.toList.getD 0 0); omega) | (rw [sealed_bsz, str_len]; omega))) (by first | omega | (first | (have := lt_u8 (s.data.toList.getD 0 0); omega) | (rw [sealed_bsz, str_len]; omega))))) ?_;simp only [nf]
  refine pa ?_;simp only [nf]
  refine plan_nil hH ?_
  clear hH
  intro w12 hH
  refine hK11 _ _ ?_
  (try clear hK11 K11)
  refine wp_seq_k ?_
  intro K13 hK13
  refine wp_seq_k ?_
  intro K14 hK14
  refine wrt [.p 0, .p 1, .p 2, .p 3, .p 4, .p 5, .p 6] ?_
  refine pm ?_;simp only [nf]
  refine pp rfl rfl (pr_index_strD (i := 0) rfl rfl Tryd.underlying9 (by first | omega | (first | (have := lt_u8 (s.data.toList.getD 0 0); omega) | (rw [sealed_bsz, str_len]; omega)))) ?_;simp only [nf]
  refine pp rfl rfl (pr_conv rfl (cnv_u8_n _ Tryd.underlying5 Tryd.underlying3)) ?_;simp only [nf]
  refine pp rfl rfl (pr_bin rfl rfl (by first | exact bin_rem_n (n := 4) (by first | omega | (first | (have := lt_u8 (s.data.toList.getD 0 0); omega) | (rw [sealed_bsz, str_len]; omega))))) ?_;simp only [nf]
  refine pm ?_;simp only [nf]
  refine pp rfl rfl (pr_bin rfl rfl (by first | exact bin_sub_n (n := 1) (by first | omega | (first | (have := lt_u8 (s.data.toList.getD 0 0); omega) | (rw [sealed_bsz, str_len]; omega))) (by first | omega | (first | (have := lt_u8 (s.data.toList.getD 0 0); omega) | (rw [sealed_bsz, str_len]; omega))) | exact bin_sub_i (by first | omega | (first | (have := lt_u8 (s.data.toList.getD 0 0); omega) | (rw [sealed_bsz, str_len]; omega))) (by first | omega | (first | (have := lt_u8 (s.data.toList.getD 0 0); omega) | (rw [sealed_bsz, str_len]; omega))))) ?_;simp only [nf]
  refine pp rfl rfl (pr_bin rfl rfl (by first | exact bin_neq_n  | exact bin_neq_i)) ?_;simp only [nf]
  refine plan_nil hH ?_
  clear hH
  intro w15 hH
  refine hK14 _ _ ?_
  (try clear hK14 K14)
  refine wp_cond_split rfl (fun hc16 => ?_) (fun hc16 => ?_)
  ·
   (try simp only [cnd, gsl] at hc16)
   have hf := hc16
   refine wp_seq_k ?_
   intro K17 hK17
   refine wrt [.p 0, .p 1] ?_
   refine pa (pka 2 ?_);simp only [nf]
   refine plan_nil hH ?_
   clear hH
   intro w18 hH
   refine hK17 _ _ ?_
   (try clear hK17 K17)
   refine wp_ret ?_
   (try simp only [Exit.then, Exit.inBlock, ↓reduceIte, Nat.reduceEqDiff])
   refine BP.ret2 rfl rfl rfl ?_
   have he : sealE a b c s.data.toList (sz : Nat) (nu : Nat) t.size = 2 := by
     unfold sealE
     rw [if_pos hok, hm, hnm, if_neg (fun h => hf (by (have := h.1; omega)))]
   exact ⟨fun h => by (rw [he] at h; cases h), fun e h1 _ => by (rw [he] at h1; subst h1; exact ⟨rfl, hH.chg⟩)⟩
  ·
   (try simp only [cnd, gsl] at hc16)
   have hf := hc16
   refine wp_skip ?_
   refine hK13 _ _ ?_
   (try clear hK13 K13)
   refine wp_seq_k ?_
   intro K19 hK19
   refine wp_seq_k ?_
   intro K20 hK20
   refine wrt [.p 0] ?_
   refine pka 0 ?_;simp only [nf]
   refine plan_nil hH ?_
   clear hH
   intro w21 hH
   refine hK20 _ _ ?_
   (try clear hK20 K20)
   refine wp_block ?_
   obtain ⟨kc22, hkc23, hN⟩ := hH.name 0 rfl
   replace hH := hN; clear hN; simp only [List.set_cons_zero, List.set_cons_succ] at hH
   refine wp_loopT [13] [10, 11, 53, 54, 55, 56, 57, 58, 59, 60, 61, 62, 63, 64, 65, 66, 67, 68, 69, 70] (fun (n24 : Nat) (vs : List Value) (w' : World) => ∃ (i : Nat), vs = [I64 (i : Nat)] ∧ Hp [] w w' [(some b2, 30, kc22)] ∧ n24 = sz - i ∧ i ≤ sz ∧ lowN (s.data.toList.drop (s.size - sz)) sz % 2 ^ (8 * i) = nu % 2 ^ (8 * i)) (sz - 0) (by kernel_rfl) ?_ ?_
   ·
    simp only [ga]
    refine ⟨0, rfl, ?_, rfl, ?_, ?_⟩
    ·
     exact hH
    · first | omega | (omega)
    · first | omega | (rw [Nat.mul_zero, Nat.pow_zero, Nat.mod_one, Nat.mod_one])
   clear hH
   intro n24 vs25 w26 hR27 d0
   obtain ⟨i, rfl, hH, hn28, hf29, hlo⟩ := hR27
   simp only [putAll, putD, List.set_cons_zero, List.set_cons_succ, Nat.zero_add, Nat.reduceAdd]
   subst hkc23
   refine wp_seq_k ?_
   intro K30 hK30
   refine wp_seq_k ?_
   intro K31 hK31
   refine wrt [.p 0, .p 1, .p 2] ?_
   refine pm (pm ?_);simp only [nf]
   refine pp rfl rfl (pr_bin rfl rfl (by first | exact bin_lss_n  | exact bin_lss_i)) ?_;simp only [nf]
   refine plan_nil hH ?_
   clear hH
   intro w32 hH
   refine hK31 _ _ ?_
   (try clear hK31 K31)
   refine wp_cond_split rfl (fun hc33 => ?_) (fun hc33 => ?_)
   ·
    (try simp only [cnd, gsl] at hc33)
    refine wp_skip ?_
    refine hK30 _ _ ?_
    (try clear hK30 K30)
    refine wp_seq_k ?_
    intro K34 hK34
    refine wp_block ?_
    refine wp_seq_k ?_
    intro K35 hK35
    refine wrp [.p 0, .p 1, .p 2, .p 3, .p 4, .p 5, .p 6, .p 7, .p 8, .p 9, .p 10, .p 11, .p 12] ?_
    refine pm (pm ?_);simp only [nf]
    refine pp rfl rfl (pr_len_str rfl Tryd.underlying9) ?_;simp only [nf]
    refine pp rfl rfl (pr_bin rfl rfl (by first | exact bin_sub_n (n := 1) (by first | omega | (first | (have := lt_u8 (s.data.toList.getD 0 0); omega) | (rw [sealed_bsz, str_len]; omega))) (by first | omega | (first | (have := lt_u8 (s.data.toList.getD 0 0); omega) | (rw [sealed_bsz, str_len]; omega))) | exact bin_sub_i (by first | omega | (first | (have := lt_u8 (s.data.toList.getD 0 0); omega) | (rw [sealed_bsz, str_len]; omega))) (by first | omega | (first | (have := lt_u8 (s.data.toList.getD 0 0); omega) | (rw [sealed_bsz, str_len]; omega))))) ?_;simp only [nf]
    refine pm ?_;simp only [nf]
    refine pp rfl rfl (pr_bin rfl rfl (by first | exact bin_sub_n (by first | omega | (first | (have := lt_u8 (s.data.toList.getD 0 0); omega) | (rw [sealed_bsz, str_len]; omega))) (by first | omega | (first | (have := lt_u8 (s.data.toList.getD 0 0); omega) | (rw [sealed_bsz, str_len]; omega))) | exact bin_sub_i (by first | omega | (first | (have := lt_u8 (s.data.toList.getD 0 0); omega) | (rw [sealed_bsz, str_len]; omega))) (by first | omega | (first | (have := lt_u8 (s.data.toList.getD 0 0); omega) | (rw [sealed_bsz, str_len]; omega))))) ?_;simp only [nf]
    refine pp rfl rfl (pr_index_strD rfl rfl Tryd.underlying9 (by first | omega | (first | (have := lt_u8 (s.data.toList.getD 0 0); omega) | (rw [sealed_bsz, str_len]; omega)))) ?_;simp only [nf]
    refine pm (pm ?_);simp only [nf]
    refine pp rfl rfl (pr_bin rfl rfl (by first | exact bin_mul_n (m := 8) (by first | omega | (first | (have := lt_u8 (s.data.toList.getD 0 0); omega) | (rw [sealed_bsz, str_len]; omega))) | exact bin_mul_i (by first | omega | (first | (have := lt_u8 (s.data.toList.getD 0 0); omega) | (rw [sealed_bsz, str_len]; omega))) (by first | omega | (first | (have := lt_u8 (s.data.toList.getD 0 0); omega) | (rw [sealed_bsz, str_len]; omega))))) ?_;simp only [nf]
    refine pp rfl rfl (pr_bin rfl rfl (by first | exact bin_shr_n (by first | omega | (first | (have := lt_u8 (s.data.toList.getD 0 0); omega) | (rw [sealed_bsz, str_len]; omega))) | exact bin_shr_i (by first | omega | (first | (have := lt_u8 (s.data.toList.getD 0 0); omega) | (rw [sealed_bsz, str_len]; omega))))) ?_;simp only [nf]
    refine pp rfl rfl (pr_conv rfl (by first | exact cnv_n_u8 Tryd.underlying3 Tryd.underlying5 | exact cnv_i_u8 Tryd.underlying3 Tryd.underlying5)) ?_;simp only [nf]
    refine pp rfl rfl (pr_bin rfl rfl (bin_neq_u8 _ _)) ?_;simp only [nf]
    refine plan_nil hH ?_
    clear hH
    intro w36 hH
    refine hK35 _ _ ?_
    (try clear hK35 K35)
    refine wp_cond_split rfl (fun hc37 => ?_) (fun hc37 => ?_)
    ·
     (try simp only [cnd, gsl] at hc37)
     have hf2 := hc37
     refine wp_seq_k ?_
     intro K38 hK38
     refine wrt [.p 0, .p 1] ?_
     refine pa (pka 2 ?_);simp only [nf]
     refine plan_nil hH ?_
     clear hH
     intro w39 hH
     refine hK38 _ _ ?_
     (try clear hK38 K38)
     refine wp_ret ?_
     (try simp only [Exit.then, Exit.inBlock, ↓reduceIte, Nat.reduceEqDiff])
     refine BP.ret2 rfl rfl rfl ?_
     have hlb := low_byte (s.data.toList.drop (s.size - sz)) sz i (by omega)
     rw [show s.data.toList.drop (s.size - sz) = s.data.toList.drop (s.data.toList.length - sz) by rw [str_len], drop_low _ _ _ (by omega) (by rw [str_len]; omega), str_len] at hlb
     have he : sealE a b c s.data.toList (sz : Nat) (nu : Nat) t.size = 2 := by
       unfold sealE
       rw [if_pos hok, hm, hnm, str_len, if_neg (fun h => low_no (k := i) (n := sz) (A := lowN (s.data.toList.drop (s.size - sz)) sz) (B := nu) (by omega) (by rw [hlb]; exact fun e => hf2 ((ofNat_byte _ _).2 e)) (by rw [Nat.mod_eq_of_lt (lowN_lt _ _)]; exact h.2))]
     exact ⟨fun h => by (rw [he] at h; cases h), fun e h1 _ => by (rw [he] at h1; subst h1; exact ⟨rfl, hH.chg⟩)⟩
    ·
     (try simp only [cnd, gsl] at hc37)
     have hf2 := hc37
     refine wp_skip ?_
     refine hK34 _ _ ?_
     (try clear hK34 K34)
     refine wrt [.p 0, .p 1, .p 2] ?_
     refine pm ?_;simp only [nf]
     refine pp rfl rfl (pr_bin rfl rfl (by first | exact bin_add_n (n := 1) (by first | omega | (first | (have := lt_u8 (s.data.toList.getD 0 0); omega) | (rw [sealed_bsz, str_len]; omega))) | exact bin_add_i (by first | omega | (first | (have := lt_u8 (s.data.toList.getD 0 0); omega) | (rw [sealed_bsz, str_len]; omega))) (by first | omega | (first | (have := lt_u8 (s.data.toList.getD 0 0); omega) | (rw [sealed_bsz, str_len]; omega))))) ?_;simp only [nf]
     refine pa ?_;simp only [nf]
     refine plan_nil hH ?_
     clear hH
     intro w40 hH
     (try simp only [Exit.then, Exit.inBlock, ↓reduceIte, Nat.reduceEqDiff])
     refine ⟨sz - (i + 1), ?_, _, rfl, by kernel_rfl, ?_⟩
     · first | omega | (omega)
     simp only [ga]
     refine ⟨i + 1, rfl, ?_, rfl, ?_, ?_⟩
     ·
      exact hH
     · first | omega | (omega)
     · first | omega | (have hlb := low_byte (s.data.toList.drop (s.size - sz)) sz i (by omega); rw [show s.data.toList.drop (s.size - sz) = s.data.toList.drop (s.data.toList.length - sz) by rw [str_len], drop_low _ _ _ (by omega) (by rw [str_len]; omega), str_len] at hlb; exact low_step hlo (by rw [hlb]; exact (ofNat_byte _ _).1 hf2))
   ·
    (try simp only [cnd, gsl] at hc33)
    refine wp_exit ?_
    (try simp only [Exit.then, Exit.inBlock, ↓reduceIte, Nat.reduceEqDiff])
    refine hK19 _ _ ?_
    (try clear hK19 K19)
    refine wp_seq_k ?_
    intro K41 hK41
    refine wp_seq_k ?_
    intro K42 hK42
    refine wrt [.p 0, .p 1, .p 2, .p 3, .p 4] ?_
    refine pm ?_;simp only [nf]
    refine pp rfl rfl (pr_len_str rfl Tryd.underlying9) ?_;simp only [nf]
    refine pm ?_;simp only [nf]
    refine pp rfl rfl (pr_bin rfl rfl (by first | exact bin_sub_n (m := 4) (by first | omega | (first | (have := lt_u8 (s.data.toList.getD 0 0); omega) | (rw [sealed_bsz, str_len]; omega))) (by first | omega | (first | (have := lt_u8 (s.data.toList.getD 0 0); omega) | (rw [sealed_bsz, str_len]; omega))) | exact bin_sub_i (by first | omega | (first | (have := lt_u8 (s.data.toList.getD 0 0); omega) | (rw [sealed_bsz, str_len]; omega))) (by first | omega | (first | (have := lt_u8 (s.data.toList.getD 0 0); omega) | (rw [sealed_bsz, str_len]; omega))))) ?_;simp only [nf]
    refine pp rfl rfl (pr_bin rfl rfl (by first | exact bin_lss_n  | exact bin_lss_i)) ?_;simp only [nf]
    refine plan_nil hH ?_
    clear hH
    intro w43 hH
    refine hK42 _ _ ?_
    (try clear hK42 K42)
    refine wp_cond_split rfl (fun hc44 => ?_) (fun hc44 => ?_)
    ·
     (try simp only [cnd, gsl] at hc44)
     have ht := hc44
     refine wp_seq_k ?_
     intro K45 hK45
     refine wrt [.p 0, .p 1] ?_
     refine pa (pka 3 ?_);simp only [nf]
     refine plan_nil hH ?_
     clear hH
     intro w46 hH
     refine hK45 _ _ ?_
     (try clear hK45 K45)
     refine wp_ret ?_
     (try simp only [Exit.then, Exit.inBlock, ↓reduceIte, Nat.reduceEqDiff])
     refine BP.ret2 rfl rfl rfl ?_
     obtain rfl : i = sz := by omega
     have hform : (s.data.toList.getD 0 0).toNat % 4 = i - 1 ∧ lowN (s.data.toList.drop (s.data.toList.length - i)) i = nu % 2 ^ (8 * i) := ⟨by omega, by rw [Nat.mod_eq_of_lt (lowN_lt _ _)] at hlo; rw [str_len]; exact hlo⟩
     have he : sealE a b c s.data.toList (i : Nat) (nu : Nat) t.size = 3 := by
       unfold sealE
       rw [if_pos hok, hm, hnm, if_pos hform, if_pos (by omega)]
     exact ⟨fun h => by (rw [he] at h; cases h), fun e h1 _ => by (rw [he] at h1; subst h1; exact ⟨rfl, hH.chg⟩)⟩
    ·
     (try simp only [cnd, gsl] at hc44)
     have ht := hc44
     refine wp_skip ?_
     refine hK41 _ _ ?_
     (try clear hK41 K41)
     refine wp_seq_k ?_
     intro K47 hK47
     refine wp_seq_k ?_
     intro K48 hK48
     refine wrt [.p 0, .p 1, .p 2] ?_
     refine pm ?_;simp only [nf]
     refine pp rfl rfl (pr_len_str rfl Tryd.underlying9) ?_;simp only [nf]
     refine pp rfl rfl (pr_bin rfl rfl (by first | exact bin_gtr_n (n := 65000)  | exact bin_gtr_i)) ?_;simp only [nf]
     refine plan_nil hH ?_
     clear hH
     intro w49 hH
     refine hK48 _ _ ?_
     (try clear hK48 K48)
     refine wp_cond_split rfl (fun hc50 => ?_) (fun hc50 => ?_)
     ·
      (try simp only [cnd, gsl] at hc50)
      have hbg := hc50
      refine wp_seq_k ?_
      intro K51 hK51
      refine wrt [.p 0, .p 1] ?_
      refine pa (pka 5 ?_);simp only [nf]
      refine plan_nil hH ?_
      clear hH
      intro w52 hH
      refine hK51 _ _ ?_
      (try clear hK51 K51)
      refine wp_ret ?_
      (try simp only [Exit.then, Exit.inBlock, ↓reduceIte, Nat.reduceEqDiff])
      refine BP.ret2 rfl rfl rfl ?_
      obtain rfl : i = sz := by omega
      have hform : (s.data.toList.getD 0 0).toNat % 4 = i - 1 ∧ lowN (s.data.toList.drop (s.data.toList.length - i)) i = nu % 2 ^ (8 * i) := ⟨by omega, by rw [Nat.mod_eq_of_lt (lowN_lt _ _)] at hlo; rw [str_len]; exact hlo⟩
      have he : sealE a b c s.data.toList (i : Nat) (nu : Nat) t.size = 5 := by
        unfold sealE
        rw [if_pos hok, hm, hnm, if_pos hform, if_neg (by omega), if_pos (by omega)]
      exact ⟨fun h => by (rw [he] at h; cases h), fun e h1 _ => by (rw [he] at h1; subst h1; exact ⟨rfl, hH.chg⟩)⟩
     ·
      (try simp only [cnd, gsl] at hc50)
      have hbg := hc50
      refine wp_skip ?_
      refine hK47 _ _ ?_
      (try clear hK47 K47)
      refine wp_seq_k ?_
      intro K53 hK53
      refine wrp [.p 0, .p 2, .p 4, .p 6, .p 7, .q 1, .q 3, .q 5, .q 8, .p 9, .p 10, .p 11, .p 12, .p 13] ?_
      refine pp rfl rfl (pr_fieldAddr 0 rfl Tryd.underlying30 rfl rfl sz9) ?_;simp only [nf]
      refine pp rfl rfl (pr_fieldAddr 1 rfl Tryd.underlying30 rfl rfl sz9) ?_;simp only [nf]
      refine pm (pm (pm ?_));simp only [nf]
      refine pq rfl rfl (qr_load1 rfl Tryd.underlying9 rfl ((hH.blk 0 rfl).cell rfl)) ?_;simp only [nf]
      refine pq rfl rfl (qr_load1 rfl Tryd.underlying9 rfl ((hH.blk 0 rfl).cell rfl)) ?_;simp only [nf]
      refine pq rfl rfl (qr_call cf25 (fun w' hw => docnonce_calls _ _ w' hb (by omega)) rfl) ?_;simp only [nf]
      refine pq rfl rfl (qr_call cf21 (fun w' hw => refSeal_calls a ⟨(nonL b.data.toList nu 8).toArray⟩ s t w' (by simpa using ha) (by rw [bsz, nonL_len]; simpa using hb) (by omega) (by omega)) rfl) ?_;simp only [nf]
      refine pm ?_;simp only [nf]
      refine pp rfl rfl (pr_extract rfl rfl) ?_;simp only [nf]
      refine pp rfl rfl (pr_extract rfl rfl) ?_;simp only [nf]
      refine pa (pa ?_);simp only [nf]
      refine plan_nil hH ?_
      clear hH
      intro w54 hH
      refine hK53 _ _ ?_
      (try clear hK53 K53)
      refine wp_seq_k ?_
      intro K55 hK55
      refine wrt [.q 0, .p 1, .p 2, .p 3, .p 4, .p 5, .q 6, .p 7, .p 8] ?_
      refine pq rfl rfl (qr_loadW rfl (hH.blk 0 rfl) Tryd.underlying30 rfl sz30 (by simp)) ?_;simp only [nf]
      refine pm (pm ?_);simp only [nf]
      refine pp rfl rfl (pr_bin rfl rfl (bin_add_s (by first | omega | (first | (have := lt_u8 (s.data.toList.getD 0 0); omega) | (rw [sealed_bsz, str_len]; omega))))) ?_;simp only [nf]
      refine pm (pm ?_);simp only [nf]
      refine pq rfl rfl (qr_call cf26 (fun w' hw => masked_calls a b c (s ++ ⟨(sealedL (kexp fun i => a.data.toList.getD i 0) (hP (kexp fun i => a.data.toList.getD i 0)) (nonL b.data.toList nu 8) s.data.toList t.data.toList).toArray⟩) (s.size - sz) sz w' hc (by rw [ByteArray.size_append, sealed_bsz, str_len]; omega) (by omega) (by rw [ByteArray.size_append, sealed_bsz, str_len]; omega)) rfl) ?_;simp only [nf]
      refine pa (pka 0 ?_);simp only [nf]
      refine plan_nil hH ?_
      clear hH
      intro w56 hH
      refine hK55 _ _ ?_
      (try clear hK55 K55)
      refine wp_ret ?_
      (try simp only [Exit.then, Exit.inBlock, ↓reduceIte, Nat.reduceEqDiff])
      refine BP.ret2 rfl rfl rfl ?_
      obtain rfl : i = sz := by omega
      have hform : (s.data.toList.getD 0 0).toNat % 4 = i - 1 ∧ lowN (s.data.toList.drop (s.data.toList.length - i)) i = nu % 2 ^ (8 * i) := ⟨by omega, by rw [Nat.mod_eq_of_lt (lowN_lt _ _)] at hlo; rw [str_len]; exact hlo⟩
      have he : sealE a b c s.data.toList (i : Nat) (nu : Nat) t.size = 0 := by
        unfold sealE
        rw [if_pos hok, hm, hnm, if_pos hform, if_neg (by omega), if_neg (by omega)]
      refine ⟨fun _ => ⟨?_, hH.chg⟩, fun e h1 h2 => absurd (h1.symm.trans he) h2⟩
      have hx : (hideL (s ++ ⟨(sealedL (kexp fun i => a.data.toList.getD i 0) (hP (kexp fun i => a.data.toList.getD i 0)) (nonL b.data.toList nu 8) s.data.toList t.data.toList).toArray⟩).data.toList (maskL c.data.toList (s ++ ⟨(sealedL (kexp fun i => a.data.toList.getD i 0) (hP (kexp fun i => a.data.toList.getD i 0)) (nonL b.data.toList nu 8) s.data.toList t.data.toList).toArray⟩).data.toList (s.size - i)) (s.size - i) i) = sealOut a b c s.data.toList i nu t.data.toList := by
        rw [str_app]; rfl
      rw [hm, hnm, ← hx]; rfl

end Go.Proofs.YtmoaddicejohgaaDoor
