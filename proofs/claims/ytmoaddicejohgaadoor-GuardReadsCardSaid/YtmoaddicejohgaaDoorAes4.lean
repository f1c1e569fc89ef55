/- Walks of the document's AES: Ready and Block; and of the law AesBlock. No conditions. -/
import Derived.Test.YtmoaddicejohgaaDoorAes3
set_option linter.unusedSimpArgs false
set_option linter.unusedVariables false
set_option maxRecDepth 100000
set_option maxHeartbeats 4000000
namespace Go.Proofs.YtmoaddicejohgaaDoor
open Go
open List (getD_cons_zero getD_cons_succ set_cons_zero set_cons_succ)

/-- The document's key as its block of bytes, as far as n bytes of the rounds' keys. -/
def readyF (key : Nat → UInt8) (n i : Nat) : UInt8 := if i < 256 then sbox i else if i - 256 < n then kexp key (i - 256) else 0
def keyF (key : Nat → UInt8) (i : Nat) : UInt8 := if i < 256 then sbox i else kexp key (i - 256)
def wF (key : Nat → UInt8) (i j : Nat) : UInt8 :=
  if i % 16 = 0 then sbox (kexp key (i - 4 + (j + 1) % 4)).toNat ^^^ (if j = 0 then conN (i / 16 - 1) else 0) else kexp key (i - 4 + j)
theorem readyF_w (key : Nat → UInt8) {n i : Nat} (h : i < n) : readyF key n (256 + i) = kexp key i := by
  unfold readyF
  rw [if_neg (by omega), if_pos (by omega), Nat.add_sub_cancel_left]
theorem readyF_t (key : Nat → UInt8) {n i : Nat} (h : i < 256) : readyF key n i = sbox i := if_pos h
theorem ready_step (key : Nat → UInt8) {i j : Nat} (hi : 16 ≤ i) (h4 : i % 4 = 0) (hj : j < 4) : kexp key (i + j - 16) ^^^ wF key i j = kexp key (i + j) := by
  unfold wF
  by_cases h : i % 16 = 0
  · rw [if_pos h, kexp_a (n := i + j) _ (by omega) (by omega)]
    rw [show i + j - (i + j) % 16 - 4 + ((i + j) % 16 + 1) % 4 = i - 4 + (j + 1) % 4 by omega]
    by_cases h0 : j = 0
    · rw [if_pos h0, if_pos (by omega), show (i + j) / 16 - 1 = i / 16 - 1 by omega]
    · rw [if_neg h0, if_neg (by omega)]
  · rw [if_neg h, kexp_b (n := i + j) _ (by omega) (by omega), show i + j - 4 = i - 4 + j by omega]
theorem ready_upd (key : Nat → UInt8) {i j : Nat} (hi : 16 ≤ i) (h4 : i % 4 = 0) (hj : j < 4) (n : Nat) :
    upd (readyF key (i + j)) (256 + (i + j)) (readyF key (i + j) (256 + (i + j - 16)) ^^^ wF key i j) n = readyF key (i + (j + 1)) n := by
  rw [readyF_w _ (by omega), ready_step _ hi h4 hj]
  simp only [upd]
  by_cases h : n = 256 + (i + j)
  · subst h; rw [if_pos rfl, readyF_w _ (by omega)]
  · rw [if_neg h]
    unfold readyF
    by_cases h1 : n < 256
    · rw [if_pos h1, if_pos h1]
    · rw [if_neg h1, if_neg h1]
      by_cases h2 : n - 256 < i + j
      · rw [if_pos h2, if_pos (by omega)]
      · rw [if_neg h2, if_neg (by omega)]
theorem quad_row (key : Nat → UInt8) (i : Nat) (hi : 16 ≤ i) :
    arr8 4 (fun n => [readyF key i (256 + (i - 4)), readyF key i (256 + (i - 3)), readyF key i (256 + (i - 2)), readyF key i (256 + (i - 1))].getD n 0) = arr8 4 fun j => kexp key (i - 4 + j) := by
  rw [readyF_w _ (by omega), readyF_w _ (by omega), readyF_w _ (by omega), readyF_w _ (by omega)]
  refine arr8_congr fun n hn => ?_
  obtain rfl | rfl | rfl | rfl : n = 0 ∨ n = 1 ∨ n = 2 ∨ n = 3 := by omega
  · rfl
  · show kexp key (i - 3) = _; congr 1; omega
  · show kexp key (i - 2) = _; congr 1; omega
  · show kexp key (i - 1) = _; congr 1; omega
theorem turn_row (key : Nat → UInt8) (i : Nat) {r : UInt8} (hr : r = conN ((i - 4) / 16)) (hi : 16 ≤ i) (h : i % 16 = 0) :
    arr8 4 (fun n => [readyF key i (kexp key (i - 4 + 1)).toNat ^^^ r, readyF key i (kexp key (i - 4 + 2)).toNat, readyF key i (kexp key (i - 4 + 3)).toNat, readyF key i (kexp key (i - 4)).toNat].getD n 0) = arr8 4 (wF key i) := by
  subst hr
  rw [readyF_t _ (lt_u8 _), readyF_t _ (lt_u8 _), readyF_t _ (lt_u8 _), readyF_t _ (lt_u8 _)]
  refine arr8_congr fun n hn => ?_
  unfold wF
  rw [if_pos h]
  obtain rfl | rfl | rfl | rfl : n = 0 ∨ n = 1 ∨ n = 2 ∨ n = 3 := by omega
  · rw [if_pos rfl, show (i - 4) / 16 = i / 16 - 1 by omega]; rfl
  · rw [if_neg (by omega), UInt8.xor_zero]; rfl
  · rw [if_neg (by omega), UInt8.xor_zero]; rfl
  · rw [if_neg (by omega), UInt8.xor_zero]; rfl
theorem ready_init (l : List UInt8) (key : Nat → UInt8) (hk : key = fun i => l.getD i 0) (h : l.length = 16) (i : Nat) : (if 256 ≤ i ∧ i < 256 + min l.length 176 then l.getD (i - 256) 0 else if i < 256 then sbox i else 0) = readyF key 16 i := by
  subst hk
  unfold readyF
  rw [h]
  by_cases h1 : i < 256
  · rw [if_neg (by omega), if_pos h1, if_pos h1]
  · rw [if_neg h1, if_neg h1]
    by_cases h2 : i - 256 < 16
    · rw [if_pos (by omega), if_pos (by omega), kexp_lo _ h2]
    · rw [if_neg (by omega), if_neg (by omega)]
theorem con_next {i : Nat} {r : UInt8} (hr : r = conN ((i - 4) / 16)) (hi : 16 ≤ i) (h : i % 16 = 0) : dbl r = conN ((i + 4 - 4) / 16) := by
  subst hr
  rw [show (i + 4 - 4) / 16 = (i - 4) / 16 + 1 by omega]; rfl
theorem con_same {i : Nat} {r : UInt8} (hr : r = conN ((i - 4) / 16)) (hi : 16 ≤ i) (h4 : i % 4 = 0) (h : ¬ i % 16 = 0) : r = conN ((i + 4 - 4) / 16) := by
  rw [show (i + 4 - 4) / 16 = (i - 4) / 16 by omega]; exact hr
theorem ready_done (key : Nat → UInt8) : arr8 432 (readyF key 176) = arr8 432 (keyF key) := arr8_congr fun i hi => by
  unfold readyF keyF
  by_cases h : i < 256
  · rw [if_pos h, if_pos h]
  · rw [if_neg h, if_neg h, if_pos (by omega)]

theorem ready_calls (s : ByteArray) (key : Nat → UInt8) (hk : key = fun i => s.data.toList.getD i 0) (w : World) (hs : s.data.toList.length = 16) :
    Ret Tryd.prog 39 #[.string s] w fun v w' => ∃ b, v = PT b 0 ∧ Chg [] w w' ∧ w.heap.size ≤ b ∧ Blk w' b 103 (arr8 432 (keyF key)) := by
 refine Ret.enter Tryd.func39 rfl ?_
 simp only [Tryd.ntmps39, fe, Nat.reduceAdd, Nat.reduceSub]
 have hH := Hp.start [] w
 refine wp_seq_k ?_
 intro K1 hK1
 refine wrt [.p 0] ?_
 refine pa ?_;simp only [nf]
 refine plan_nil hH ?_
 clear hH
 intro w2 hH
 refine hK1 _ _ ?_
 (try clear hK1 K1)
 refine wp_seq_k ?_
 intro K3 hK3
 refine wrt [.q 0, .p 1, .x 2, .p 3] ?_
 refine pq rfl rfl (qr_call cf53 (fun w' hw => table_calls w') rfl) ?_;simp only [nf]
 refine plan_p (v := .agg (arr8 432 fun i => if i < 256 then sbox i else 0)) rfl rfl (fun w => by kernel_rfl) ?_
 (try simp only [nf])
 refine plan_box rfl rfl hH rfl ?_
 clear hH
 intro b4 w5 hH
 (try simp only [nf, nh, Value.cells] at hH ⊢)
 refine pa ?_;simp only [nf]
 refine plan_nil hH ?_
 clear hH
 intro w6 hH
 refine hK3 _ _ ?_
 (try clear hK3 K3)
 refine wp_seq_k ?_
 intro K7 hK7
 refine wrt [.p 0, .p 1, .p 2, .p 3, .p 4, .e 5] ?_
 refine pm ?_;simp only [nf]
 refine pp rfl rfl (pr_nilCheck rfl) ?_;simp only [nf]
 refine pp rfl rfl (pr_fieldAddr 256 rfl Tryd.underlying103 rfl rfl sz101) ?_;simp only [nf]
 refine pp rfl rfl (pr_slice_arr_all rfl Tryd.underlying101 sz5) ?_;simp only [nf]
 (try simp only [Nat.mul_one, Nat.zero_add, Nat.add_sub_cancel_left])
 refine pm ?_;simp only [nf]
 refine plan_copy 0 rfl rfl hH rfl (fun w' hH => str_csrc _) rfl rfl Tryd.underlying22 sz5 (by first | omega | (exact Nat.lt_of_lt_of_le (lt_u8 _) (by omega))) ?_
 clear hH
 intro w8 hH
 (try simp only [nf, nh, Value.cells] at hH ⊢)
 refine plan_nil hH ?_
 clear hH
 intro w9 hH
 refine hK7 _ _ ?_
 (try clear hK7 K7)
 refine wp_seq_k ?_
 intro K10 hK10
 refine wrt [.p 0] ?_
 refine pa ?_;simp only [nf]
 refine plan_nil hH ?_
 clear hH
 intro w11 hH
 refine hK10 _ _ ?_
 (try clear hK10 K10)
 refine wp_seq_k ?_
 intro K12 hK12
 refine wp_seq_k ?_
 intro K13 hK13
 refine wrt [.p 0] ?_
 refine pka 16 ?_;simp only [nf]
 refine plan_nil hH ?_
 clear hH
 intro w14 hH
 refine hK13 _ _ ?_
 (try clear hK13 K13)
 refine wp_block ?_
 refine wp_loopT [4, 5] [6, 7, 17, 18, 19, 20, 21, 22, 23, 24, 25, 26, 27, 28, 29, 30, 31, 32, 33, 34, 35, 36, 37, 38, 39, 40, 41, 42, 43, 44, 45, 46, 47, 48, 49, 50, 51, 52, 53, 54, 55, 56, 57, 58, 59, 60, 61, 62, 63, 64, 65, 66, 67, 68, 69, 70, 71, 72, 73, 74, 75, 76, 77, 78, 79, 80, 81, 82, 83, 84, 85, 86, 87, 88, 89, 90, 91, 92, 93, 94, 95, 96, 97, 98, 99, 100, 101, 102, 103, 104, 105, 106, 107, 108, 109] (fun (n15 : Nat) (vs : List Value) (w' : World) => ∃ (i : Nat) (r : UInt8), vs = [V8 r, I64 (i : Nat)] ∧ Hp [] w w' [(some b4, 103, arr8 432 (readyF key i))] ∧ n15 = 176 - i ∧ 16 ≤ i ∧ i ≤ 176 ∧ i % 4 = 0 ∧ r = conN ((i - 4) / 16)) (176 - 16) (by kernel_rfl) ?_ ?_
 ·
  simp only [ga]
  refine ⟨16, 1, rfl, ?_, rfl, ?_, ?_, ?_, ?_⟩
  ·
   exact hH.say 0 rfl (arr8_congr fun i _ => ready_init _ key hk hs i)
  · first | omega | (omega)
  · first | omega | (omega)
  · first | omega | (omega)
  · first | omega | (rfl)
 clear hH
 intro n15 vs16 w17 hR18 d0
 obtain ⟨i, r, rfl, hH, hn19, hf20, hf21, hf22, hr⟩ := hR18
 simp only [putAll, putD, List.set_cons_zero, List.set_cons_succ, Nat.zero_add, Nat.reduceAdd]
 refine wp_seq_k ?_
 intro K23 hK23
 refine wp_seq_k ?_
 intro K24 hK24
 refine wrt [.p 0, .p 1] ?_
 refine pm ?_;simp only [nf]
 refine pp rfl rfl (pr_bin rfl rfl (by first | exact bin_lss_n (n := 176)  | exact bin_lss_i)) ?_;simp only [nf]
 refine plan_nil hH ?_
 clear hH
 intro w25 hH
 refine hK24 _ _ ?_
 (try clear hK24 K24)
 refine wp_cond_split rfl (fun hc26 => ?_) (fun hc26 => ?_)
 ·
  (try simp only [cnd] at hc26)
  refine wp_skip ?_
  refine hK23 _ _ ?_
  (try clear hK23 K23)
  refine wp_seq_k ?_
  intro K27 hK27
  refine wp_block ?_
  refine wp_seq_k ?_
  intro K28 hK28
  refine wrp [.p 0, .p 1, .p 2, .p 3, .p 4, .p 5, .p 7, .p 8, .p 9, .p 10, .p 11, .p 12, .p 14, .p 15, .p 16, .p 17, .p 18, .p 19, .p 21, .p 22, .p 23, .p 24, .p 25, .p 26, .q 6, .q 13, .q 20, .q 27, .p 28, .x 29, .e 30] ?_
  refine pm (pm ?_);simp only [nf]
  refine pp rfl rfl (pr_bin rfl rfl (by first | exact bin_sub_n (n := 4) (by first | omega | (exact Nat.lt_of_lt_of_le (lt_u8 _) (by omega))) (by first | omega | (exact Nat.lt_of_lt_of_le (lt_u8 _) (by omega))) | exact bin_sub_i (by first | omega | (exact Nat.lt_of_lt_of_le (lt_u8 _) (by omega))) (by first | omega | (exact Nat.lt_of_lt_of_le (lt_u8 _) (by omega))))) ?_;simp only [nf]
  refine pp rfl rfl (pr_nilCheck rfl) ?_;simp only [nf]
  refine pp rfl rfl (pr_fieldAddr 256 rfl Tryd.underlying103 rfl rfl sz101) ?_;simp only [nf]
  refine pp rfl rfl (pr_idxA1 rfl rfl Tryd.underlying101 sz5 (by first | omega | (exact Nat.lt_of_lt_of_le (lt_u8 _) (by omega)))) ?_;simp only [nf]
  refine pm (pm ?_);simp only [nf]
  refine pp rfl rfl (pr_bin rfl rfl (by first | exact bin_sub_n (n := 3) (by first | omega | (exact Nat.lt_of_lt_of_le (lt_u8 _) (by omega))) (by first | omega | (exact Nat.lt_of_lt_of_le (lt_u8 _) (by omega))) | exact bin_sub_i (by first | omega | (exact Nat.lt_of_lt_of_le (lt_u8 _) (by omega))) (by first | omega | (exact Nat.lt_of_lt_of_le (lt_u8 _) (by omega))))) ?_;simp only [nf]
  refine pp rfl rfl (pr_nilCheck rfl) ?_;simp only [nf]
  refine pp rfl rfl (pr_fieldAddr 256 rfl Tryd.underlying103 rfl rfl sz101) ?_;simp only [nf]
  refine pp rfl rfl (pr_idxA1 rfl rfl Tryd.underlying101 sz5 (by first | omega | (exact Nat.lt_of_lt_of_le (lt_u8 _) (by omega)))) ?_;simp only [nf]
  refine pm (pm ?_);simp only [nf]
  refine pp rfl rfl (pr_bin rfl rfl (by first | exact bin_sub_n (n := 2) (by first | omega | (exact Nat.lt_of_lt_of_le (lt_u8 _) (by omega))) (by first | omega | (exact Nat.lt_of_lt_of_le (lt_u8 _) (by omega))) | exact bin_sub_i (by first | omega | (exact Nat.lt_of_lt_of_le (lt_u8 _) (by omega))) (by first | omega | (exact Nat.lt_of_lt_of_le (lt_u8 _) (by omega))))) ?_;simp only [nf]
  refine pp rfl rfl (pr_nilCheck rfl) ?_;simp only [nf]
  refine pp rfl rfl (pr_fieldAddr 256 rfl Tryd.underlying103 rfl rfl sz101) ?_;simp only [nf]
  refine pp rfl rfl (pr_idxA1 rfl rfl Tryd.underlying101 sz5 (by first | omega | (exact Nat.lt_of_lt_of_le (lt_u8 _) (by omega)))) ?_;simp only [nf]
  refine pm (pm ?_);simp only [nf]
  refine pp rfl rfl (pr_bin rfl rfl (by first | exact bin_sub_n (n := 1) (by first | omega | (exact Nat.lt_of_lt_of_le (lt_u8 _) (by omega))) (by first | omega | (exact Nat.lt_of_lt_of_le (lt_u8 _) (by omega))) | exact bin_sub_i (by first | omega | (exact Nat.lt_of_lt_of_le (lt_u8 _) (by omega))) (by first | omega | (exact Nat.lt_of_lt_of_le (lt_u8 _) (by omega))))) ?_;simp only [nf]
  refine pp rfl rfl (pr_nilCheck rfl) ?_;simp only [nf]
  refine pp rfl rfl (pr_fieldAddr 256 rfl Tryd.underlying103 rfl rfl sz101) ?_;simp only [nf]
  refine pp rfl rfl (pr_idxA1 rfl rfl Tryd.underlying101 sz5 (by first | omega | (exact Nat.lt_of_lt_of_le (lt_u8 _) (by omega)))) ?_;simp only [nf]
  refine pq rfl rfl (qr_load1 rfl Tryd.underlying5 rfl ((hH.blk 0 rfl).cell (arr8_get (by first | omega | (exact Nat.lt_of_lt_of_le (lt_u8 _) (by omega)))))) ?_;simp only [nf]
  refine pq rfl rfl (qr_load1 rfl Tryd.underlying5 rfl ((hH.blk 0 rfl).cell (arr8_get (by first | omega | (exact Nat.lt_of_lt_of_le (lt_u8 _) (by omega)))))) ?_;simp only [nf]
  refine pq rfl rfl (qr_load1 rfl Tryd.underlying5 rfl ((hH.blk 0 rfl).cell (arr8_get (by first | omega | (exact Nat.lt_of_lt_of_le (lt_u8 _) (by omega)))))) ?_;simp only [nf]
  refine pq rfl rfl (qr_load1 rfl Tryd.underlying5 rfl ((hH.blk 0 rfl).cell (arr8_get (by first | omega | (exact Nat.lt_of_lt_of_le (lt_u8 _) (by omega)))))) ?_;simp only [nf]
  refine pp rfl rfl (pr_build (by rfl) (ba104 _ _ _ _)) ?_;simp only [nf]
  refine plan_alloc rfl rfl hH zc104 ?_
  clear hH
  intro b29 w30 hH
  (try simp only [nf, nh, Value.cells] at hH ⊢)
  refine plan_storeW 1 rfl rfl hH rfl rfl rfl one_arr8 sz104 (by simp) (by simp) ?_
  clear hH
  intro w31 hH
  (try simp only [nf, nh, Value.cells] at hH ⊢)
  refine plan_nil hH ?_
  clear hH
  intro w32 hH
  refine hK28 _ _ ?_
  (try clear hK28 K28)
  refine wp_seq_k ?_
  intro K33 hK33
  refine wp_seq_k ?_
  intro K34 hK34
  refine wrt [.p 0, .p 1, .p 2] ?_
  refine pm ?_;simp only [nf]
  refine pp rfl rfl (pr_bin rfl rfl (by first | exact bin_rem_n (n := 16) (by first | omega | (exact Nat.lt_of_lt_of_le (lt_u8 _) (by omega))))) ?_;simp only [nf]
  refine pp rfl rfl (pr_bin rfl rfl (by first | exact bin_eql_n (n := 0)  | exact bin_eql_i)) ?_;simp only [nf]
  refine plan_nil hH ?_
  clear hH
  intro w35 hH
  refine hK34 _ _ ?_
  (try clear hK34 K34)
  refine wp_cond_split rfl (fun hc36 => ?_) (fun hc36 => ?_)
  ·
   (try simp only [cnd] at hc36)
   replace hH := hH.say 1 rfl (quad_row key i (by omega))
   simp only [List.set_cons_zero, List.set_cons_succ] at hH
   refine wp_seq_k ?_
   intro K37 hK37
   refine wrp [.p 0, .p 1, .p 3, .p 4, .p 7, .p 9, .p 10, .p 12, .p 13, .p 16, .p 17, .p 19, .p 20, .p 23, .p 24, .p 26, .p 27, .q 2, .p 5, .q 6, .p 8, .q 11, .p 14, .q 15, .q 18, .p 21, .q 22, .q 25, .p 28, .q 29, .p 30, .e 31] ?_
   refine pm ?_;simp only [nf]
   refine pp rfl rfl (pr_idxA1 (i := 1) rfl rfl Tryd.underlying104 sz5 (by first | omega | (exact Nat.lt_of_lt_of_le (lt_u8 _) (by omega)))) ?_;simp only [nf]
   refine pp rfl rfl (pr_nilCheck rfl) ?_;simp only [nf]
   refine pp rfl rfl (pr_fieldAddr 0 rfl Tryd.underlying103 rfl rfl sz99) ?_;simp only [nf]
   refine pm (pm ?_);simp only [nf]
   refine pp rfl rfl (pr_idxA1 (i := 2) rfl rfl Tryd.underlying104 sz5 (by first | omega | (exact Nat.lt_of_lt_of_le (lt_u8 _) (by omega)))) ?_;simp only [nf]
   refine pp rfl rfl (pr_nilCheck rfl) ?_;simp only [nf]
   refine pp rfl rfl (pr_fieldAddr 0 rfl Tryd.underlying103 rfl rfl sz99) ?_;simp only [nf]
   refine pm ?_;simp only [nf]
   refine pp rfl rfl (pr_idxA1 (i := 3) rfl rfl Tryd.underlying104 sz5 (by first | omega | (exact Nat.lt_of_lt_of_le (lt_u8 _) (by omega)))) ?_;simp only [nf]
   refine pp rfl rfl (pr_nilCheck rfl) ?_;simp only [nf]
   refine pp rfl rfl (pr_fieldAddr 0 rfl Tryd.underlying103 rfl rfl sz99) ?_;simp only [nf]
   refine pm ?_;simp only [nf]
   refine pp rfl rfl (pr_idxA1 (i := 0) rfl rfl Tryd.underlying104 sz5 (by first | omega | (exact Nat.lt_of_lt_of_le (lt_u8 _) (by omega)))) ?_;simp only [nf]
   refine pp rfl rfl (pr_nilCheck rfl) ?_;simp only [nf]
   refine pp rfl rfl (pr_fieldAddr 0 rfl Tryd.underlying103 rfl rfl sz99) ?_;simp only [nf]
   refine pq rfl rfl (qr_load1 rfl Tryd.underlying5 rfl ((hH.blk 1 rfl).cell (arr8_get (by first | omega | (exact Nat.lt_of_lt_of_le (lt_u8 _) (by omega)))))) ?_;simp only [nf]
   refine pp rfl rfl (pr_idxA1 rfl rfl Tryd.underlying99 sz5 (by first | omega | (exact Nat.lt_of_lt_of_le (lt_u8 _) (by omega)))) ?_;simp only [nf]
   refine pq rfl rfl (qr_load1 rfl Tryd.underlying5 rfl ((hH.blk 0 rfl).cell (arr8_get (by first | omega | (exact Nat.lt_of_lt_of_le (lt_u8 _) (by omega)))))) ?_;simp only [nf]
   refine pp rfl rfl (pr_bin rfl rfl (bin_xor_u8 _ _)) ?_;simp only [nf]
   refine pq rfl rfl (qr_load1 rfl Tryd.underlying5 rfl ((hH.blk 1 rfl).cell (arr8_get (by first | omega | (exact Nat.lt_of_lt_of_le (lt_u8 _) (by omega)))))) ?_;simp only [nf]
   refine pp rfl rfl (pr_idxA1 rfl rfl Tryd.underlying99 sz5 (by first | omega | (exact Nat.lt_of_lt_of_le (lt_u8 _) (by omega)))) ?_;simp only [nf]
   refine pq rfl rfl (qr_load1 rfl Tryd.underlying5 rfl ((hH.blk 0 rfl).cell (arr8_get (by first | omega | (exact Nat.lt_of_lt_of_le (lt_u8 _) (by omega)))))) ?_;simp only [nf]
   refine pq rfl rfl (qr_load1 rfl Tryd.underlying5 rfl ((hH.blk 1 rfl).cell (arr8_get (by first | omega | (exact Nat.lt_of_lt_of_le (lt_u8 _) (by omega)))))) ?_;simp only [nf]
   refine pp rfl rfl (pr_idxA1 rfl rfl Tryd.underlying99 sz5 (by first | omega | (exact Nat.lt_of_lt_of_le (lt_u8 _) (by omega)))) ?_;simp only [nf]
   refine pq rfl rfl (qr_load1 rfl Tryd.underlying5 rfl ((hH.blk 0 rfl).cell (arr8_get (by first | omega | (exact Nat.lt_of_lt_of_le (lt_u8 _) (by omega)))))) ?_;simp only [nf]
   refine pq rfl rfl (qr_load1 rfl Tryd.underlying5 rfl ((hH.blk 1 rfl).cell (arr8_get (by first | omega | (exact Nat.lt_of_lt_of_le (lt_u8 _) (by omega)))))) ?_;simp only [nf]
   refine pp rfl rfl (pr_idxA1 rfl rfl Tryd.underlying99 sz5 (by first | omega | (exact Nat.lt_of_lt_of_le (lt_u8 _) (by omega)))) ?_;simp only [nf]
   refine pq rfl rfl (qr_load1 rfl Tryd.underlying5 rfl ((hH.blk 0 rfl).cell (arr8_get (by first | omega | (exact Nat.lt_of_lt_of_le (lt_u8 _) (by omega)))))) ?_;simp only [nf]
   refine pp rfl rfl (pr_build (by rfl) (ba104 _ _ _ _)) ?_;simp only [nf]
   refine plan_storeW 1 rfl rfl hH rfl rfl rfl one_arr8 sz104 (by simp) (by simp) ?_
   clear hH
   intro w38 hH
   (try simp only [nf, nh, Value.cells] at hH ⊢)
   refine plan_nil hH ?_
   clear hH
   intro w39 hH
   refine hK37 _ _ ?_
   (try clear hK37 K37)
   refine wrt [.p 0, .q 1, .p 2] ?_
   refine pm ?_;simp only [nf]
   refine pq rfl rfl (qr_call cf54 (fun w' hw => twice_calls _ w') rfl) ?_;simp only [nf]
   refine pa ?_;simp only [nf]
   refine plan_nil hH ?_
   clear hH
   intro w40 hH
   refine hK33 _ _ ?_
   (try clear hK33 K33)
   refine wp_seq_k ?_
   intro K41 hK41
   refine wrt [.p 0] ?_
   refine pka 0 ?_;simp only [nf]
   refine plan_nil hH ?_
   clear hH
   intro w42 hH
   refine hK41 _ _ ?_
   (try clear hK41 K41)
   refine wp_block ?_
   refine wp_loopT [7] [86, 87, 88, 89, 90, 91, 92, 93, 94, 95, 96, 97, 98, 99, 100, 101, 102, 103, 104, 105, 106, 107, 108, 109] (fun (n43 : Nat) (vs : List Value) (w' : World) => ∃ (j : Nat), vs = [I64 (j : Nat)] ∧ Hp [] w w' [(some b4, 103, arr8 432 (readyF key (i + j))), (some b29, 104, arr8 4 (wF key i))] ∧ n43 = 4 - j ∧ j ≤ 4) (4 - 0) (by kernel_rfl) ?_ ?_
   ·
    simp only [ga]
    refine ⟨0, rfl, ?_, rfl, ?_⟩
    ·
     exact hH.say 1 rfl (turn_row key i hr (by omega) (by omega))
    · first | omega | (omega)
   clear hH
   intro n43 vs44 w45 hR46 d1
   obtain ⟨j, rfl, hH, hn47, hf48⟩ := hR46
   simp only [putAll, putD, List.set_cons_zero, List.set_cons_succ, Nat.zero_add, Nat.reduceAdd]
   refine wp_seq_k ?_
   intro K49 hK49
   refine wp_seq_k ?_
   intro K50 hK50
   refine wrt [.p 0, .p 1] ?_
   refine pm ?_;simp only [nf]
   refine pp rfl rfl (pr_bin rfl rfl (by first | exact bin_lss_n (n := 4)  | exact bin_lss_i)) ?_;simp only [nf]
   refine plan_nil hH ?_
   clear hH
   intro w51 hH
   refine hK50 _ _ ?_
   (try clear hK50 K50)
   refine wp_cond_split rfl (fun hc52 => ?_) (fun hc52 => ?_)
   ·
    (try simp only [cnd] at hc52)
    refine wp_skip ?_
    refine hK49 _ _ ?_
    (try clear hK49 K49)
    refine wp_seq_k ?_
    intro K53 hK53
    refine wp_block ?_
    refine wrp [.p 0, .p 1, .p 2, .p 3, .p 4, .p 5, .p 6, .p 7, .p 8, .p 9, .p 10, .p 11, .p 13, .p 14, .p 17, .p 18, .q 12, .q 15, .p 16, .p 19, .e 20] ?_
    refine pm (pm (pm ?_));simp only [nf]
    refine pp rfl rfl (pr_bin rfl rfl (by first | exact bin_add_n (by first | omega | (exact Nat.lt_of_lt_of_le (lt_u8 _) (by omega))) | exact bin_add_i (by first | omega | (exact Nat.lt_of_lt_of_le (lt_u8 _) (by omega))) (by first | omega | (exact Nat.lt_of_lt_of_le (lt_u8 _) (by omega))))) ?_;simp only [nf]
    refine pm (pm (pm ?_));simp only [nf]
    refine pp rfl rfl (pr_bin rfl rfl (by first | exact bin_add_n (by first | omega | (exact Nat.lt_of_lt_of_le (lt_u8 _) (by omega))) | exact bin_add_i (by first | omega | (exact Nat.lt_of_lt_of_le (lt_u8 _) (by omega))) (by first | omega | (exact Nat.lt_of_lt_of_le (lt_u8 _) (by omega))))) ?_;simp only [nf]
    refine pp rfl rfl (pr_bin rfl rfl (by first | exact bin_sub_n (n := 16) (by first | omega | (exact Nat.lt_of_lt_of_le (lt_u8 _) (by omega))) (by first | omega | (exact Nat.lt_of_lt_of_le (lt_u8 _) (by omega))) | exact bin_sub_i (by first | omega | (exact Nat.lt_of_lt_of_le (lt_u8 _) (by omega))) (by first | omega | (exact Nat.lt_of_lt_of_le (lt_u8 _) (by omega))))) ?_;simp only [nf]
    refine pp rfl rfl (pr_nilCheck rfl) ?_;simp only [nf]
    refine pp rfl rfl (pr_fieldAddr 256 rfl Tryd.underlying103 rfl rfl sz101) ?_;simp only [nf]
    refine pp rfl rfl (pr_idxA1 rfl rfl Tryd.underlying101 sz5 (by first | omega | (exact Nat.lt_of_lt_of_le (lt_u8 _) (by omega)))) ?_;simp only [nf]
    refine pm ?_;simp only [nf]
    refine pp rfl rfl (pr_idxA1 rfl rfl Tryd.underlying104 sz5 (by first | omega | (exact Nat.lt_of_lt_of_le (lt_u8 _) (by omega)))) ?_;simp only [nf]
    refine pp rfl rfl (pr_nilCheck rfl) ?_;simp only [nf]
    refine pp rfl rfl (pr_fieldAddr 256 rfl Tryd.underlying103 rfl rfl sz101) ?_;simp only [nf]
    refine pq rfl rfl (qr_load1 rfl Tryd.underlying5 rfl ((hH.blk 0 rfl).cell (arr8_get (by first | omega | (exact Nat.lt_of_lt_of_le (lt_u8 _) (by omega)))))) ?_;simp only [nf]
    refine pq rfl rfl (qr_load1 rfl Tryd.underlying5 rfl ((hH.blk 1 rfl).cell (arr8_get (by first | omega | (exact Nat.lt_of_lt_of_le (lt_u8 _) (by omega)))))) ?_;simp only [nf]
    refine pp rfl rfl (pr_bin rfl rfl (bin_xor_u8 _ _)) ?_;simp only [nf]
    refine pp rfl rfl (pr_idxA1 rfl rfl Tryd.underlying101 sz5 (by first | omega | (exact Nat.lt_of_lt_of_le (lt_u8 _) (by omega)))) ?_;simp only [nf]
    refine plan_store1 0 rfl rfl hH rfl rfl rfl rfl sz5 (by simp <;> omega) ?_
    clear hH
    intro w54 hH
    (try simp only [nf, nh, Value.cells] at hH ⊢)
    refine plan_nil hH ?_
    clear hH
    intro w55 hH
    refine hK53 _ _ ?_
    (try clear hK53 K53)
    refine wrt [.p 0, .p 1, .p 2] ?_
    refine pm ?_;simp only [nf]
    refine pp rfl rfl (pr_bin rfl rfl (by first | exact bin_add_n (n := 1) (by first | omega | (exact Nat.lt_of_lt_of_le (lt_u8 _) (by omega))) | exact bin_add_i (by first | omega | (exact Nat.lt_of_lt_of_le (lt_u8 _) (by omega))) (by first | omega | (exact Nat.lt_of_lt_of_le (lt_u8 _) (by omega))))) ?_;simp only [nf]
    refine pa ?_;simp only [nf]
    refine plan_nil hH ?_
    clear hH
    intro w56 hH
    (try simp only [Exit.then, Exit.inBlock, ↓reduceIte, Nat.reduceEqDiff])
    refine ⟨4 - (j + 1), ?_, _, rfl, by kernel_rfl, ?_⟩
    · first | omega | (omega)
    simp only [ga]
    refine ⟨j + 1, rfl, ?_, rfl, ?_⟩
    ·
     exact hH.say 0 rfl (arr8_congr fun n _ => ready_upd key (by omega) (by omega) (by omega) n)
    · first | omega | (omega)
   ·
    (try simp only [cnd] at hc52)
    refine wp_exit ?_
    (try simp only [Exit.then, Exit.inBlock, ↓reduceIte, Nat.reduceEqDiff])
    refine hK27 _ _ ?_
    (try clear hK27 K27)
    refine wrt [.p 0, .p 1, .p 2] ?_
    refine pm ?_;simp only [nf]
    refine pp rfl rfl (pr_bin rfl rfl (by first | exact bin_add_n (n := 4) (by first | omega | (exact Nat.lt_of_lt_of_le (lt_u8 _) (by omega))) | exact bin_add_i (by first | omega | (exact Nat.lt_of_lt_of_le (lt_u8 _) (by omega))) (by first | omega | (exact Nat.lt_of_lt_of_le (lt_u8 _) (by omega))))) ?_;simp only [nf]
    refine pa ?_;simp only [nf]
    refine plan_nil hH ?_
    clear hH
    intro w57 hH
    (try simp only [Exit.then, Exit.inBlock, ↓reduceIte, Nat.reduceEqDiff])
    refine ⟨176 - (i + 4), ?_, _, rfl, by kernel_rfl, ?_⟩
    · first | omega | (omega)
    simp only [ga]
    refine ⟨i + 4, dbl r, rfl, ?_, rfl, ?_, ?_, ?_, ?_⟩
    ·
     obtain rfl : j = 4 := by omega
     exact hH.take 1
    · first | omega | (omega)
    · first | omega | (omega)
    · first | omega | (omega)
    · first | omega | (first | exact con_next hr (by omega) (by omega) | exact con_same hr (by omega) (by omega) (by omega))
  ·
   (try simp only [cnd] at hc36)
   replace hH := hH.say 1 rfl (quad_row key i (by omega))
   simp only [List.set_cons_zero, List.set_cons_succ] at hH
   refine wp_skip ?_
   refine hK33 _ _ ?_
   (try clear hK33 K33)
   refine wp_seq_k ?_
   intro K58 hK58
   refine wrt [.p 0] ?_
   refine pka 0 ?_;simp only [nf]
   refine plan_nil hH ?_
   clear hH
   intro w59 hH
   refine hK58 _ _ ?_
   (try clear hK58 K58)
   refine wp_block ?_
   refine wp_loopT [7] [86, 87, 88, 89, 90, 91, 92, 93, 94, 95, 96, 97, 98, 99, 100, 101, 102, 103, 104, 105, 106, 107, 108, 109] (fun (n60 : Nat) (vs : List Value) (w' : World) => ∃ (j : Nat), vs = [I64 (j : Nat)] ∧ Hp [] w w' [(some b4, 103, arr8 432 (readyF key (i + j))), (some b29, 104, arr8 4 (wF key i))] ∧ n60 = 4 - j ∧ j ≤ 4) (4 - 0) (by kernel_rfl) ?_ ?_
   ·
    simp only [ga]
    refine ⟨0, rfl, ?_, rfl, ?_⟩
    ·
     exact hH.say 1 rfl (arr8_congr fun n _ => by unfold wF; rw [if_neg (by omega)])
    · first | omega | (omega)
   clear hH
   intro n60 vs61 w62 hR63 d1
   obtain ⟨j, rfl, hH, hn64, hf65⟩ := hR63
   simp only [putAll, putD, List.set_cons_zero, List.set_cons_succ, Nat.zero_add, Nat.reduceAdd]
   refine wp_seq_k ?_
   intro K66 hK66
   refine wp_seq_k ?_
   intro K67 hK67
   refine wrt [.p 0, .p 1] ?_
   refine pm ?_;simp only [nf]
   refine pp rfl rfl (pr_bin rfl rfl (by first | exact bin_lss_n (n := 4)  | exact bin_lss_i)) ?_;simp only [nf]
   refine plan_nil hH ?_
   clear hH
   intro w68 hH
   refine hK67 _ _ ?_
   (try clear hK67 K67)
   refine wp_cond_split rfl (fun hc69 => ?_) (fun hc69 => ?_)
   ·
    (try simp only [cnd] at hc69)
    refine wp_skip ?_
    refine hK66 _ _ ?_
    (try clear hK66 K66)
    refine wp_seq_k ?_
    intro K70 hK70
    refine wp_block ?_
    refine wrp [.p 0, .p 1, .p 2, .p 3, .p 4, .p 5, .p 6, .p 7, .p 8, .p 9, .p 10, .p 11, .p 13, .p 14, .p 17, .p 18, .q 12, .q 15, .p 16, .p 19, .e 20] ?_
    refine pm (pm (pm ?_));simp only [nf]
    refine pp rfl rfl (pr_bin rfl rfl (by first | exact bin_add_n (by first | omega | (exact Nat.lt_of_lt_of_le (lt_u8 _) (by omega))) | exact bin_add_i (by first | omega | (exact Nat.lt_of_lt_of_le (lt_u8 _) (by omega))) (by first | omega | (exact Nat.lt_of_lt_of_le (lt_u8 _) (by omega))))) ?_;simp only [nf]
    refine pm (pm (pm ?_));simp only [nf]
    refine pp rfl rfl (pr_bin rfl rfl (by first | exact bin_add_n (by first | omega | (exact Nat.lt_of_lt_of_le (lt_u8 _) (by omega))) | exact bin_add_i (by first | omega | (exact Nat.lt_of_lt_of_le (lt_u8 _) (by omega))) (by first | omega | (exact Nat.lt_of_lt_of_le (lt_u8 _) (by omega))))) ?_;simp only [nf]
    refine pp rfl rfl (pr_bin rfl rfl (by first | exact bin_sub_n (n := 16) (by first | omega | (exact Nat.lt_of_lt_of_le (lt_u8 _) (by omega))) (by first | omega | (exact Nat.lt_of_lt_of_le (lt_u8 _) (by omega))) | exact bin_sub_i (by first | omega | (exact Nat.lt_of_lt_of_le (lt_u8 _) (by omega))) (by first | omega | (exact Nat.lt_of_lt_of_le (lt_u8 _) (by omega))))) ?_;simp only [nf]
    refine pp rfl rfl (pr_nilCheck rfl) ?_;simp only [nf]
    refine pp rfl rfl (pr_fieldAddr 256 rfl Tryd.underlying103 rfl rfl sz101) ?_;simp only [nf]
    refine pp rfl rfl (pr_idxA1 rfl rfl Tryd.underlying101 sz5 (by first | omega | (exact Nat.lt_of_lt_of_le (lt_u8 _) (by omega)))) ?_;simp only [nf]
    refine pm ?_;simp only [nf]
    refine pp rfl rfl (pr_idxA1 rfl rfl Tryd.underlying104 sz5 (by first | omega | (exact Nat.lt_of_lt_of_le (lt_u8 _) (by omega)))) ?_;simp only [nf]
    refine pp rfl rfl (pr_nilCheck rfl) ?_;simp only [nf]
    refine pp rfl rfl (pr_fieldAddr 256 rfl Tryd.underlying103 rfl rfl sz101) ?_;simp only [nf]
    refine pq rfl rfl (qr_load1 rfl Tryd.underlying5 rfl ((hH.blk 0 rfl).cell (arr8_get (by first | omega | (exact Nat.lt_of_lt_of_le (lt_u8 _) (by omega)))))) ?_;simp only [nf]
    refine pq rfl rfl (qr_load1 rfl Tryd.underlying5 rfl ((hH.blk 1 rfl).cell (arr8_get (by first | omega | (exact Nat.lt_of_lt_of_le (lt_u8 _) (by omega)))))) ?_;simp only [nf]
    refine pp rfl rfl (pr_bin rfl rfl (bin_xor_u8 _ _)) ?_;simp only [nf]
    refine pp rfl rfl (pr_idxA1 rfl rfl Tryd.underlying101 sz5 (by first | omega | (exact Nat.lt_of_lt_of_le (lt_u8 _) (by omega)))) ?_;simp only [nf]
    refine plan_store1 0 rfl rfl hH rfl rfl rfl rfl sz5 (by simp <;> omega) ?_
    clear hH
    intro w71 hH
    (try simp only [nf, nh, Value.cells] at hH ⊢)
    refine plan_nil hH ?_
    clear hH
    intro w72 hH
    refine hK70 _ _ ?_
    (try clear hK70 K70)
    refine wrt [.p 0, .p 1, .p 2] ?_
    refine pm ?_;simp only [nf]
    refine pp rfl rfl (pr_bin rfl rfl (by first | exact bin_add_n (n := 1) (by first | omega | (exact Nat.lt_of_lt_of_le (lt_u8 _) (by omega))) | exact bin_add_i (by first | omega | (exact Nat.lt_of_lt_of_le (lt_u8 _) (by omega))) (by first | omega | (exact Nat.lt_of_lt_of_le (lt_u8 _) (by omega))))) ?_;simp only [nf]
    refine pa ?_;simp only [nf]
    refine plan_nil hH ?_
    clear hH
    intro w73 hH
    (try simp only [Exit.then, Exit.inBlock, ↓reduceIte, Nat.reduceEqDiff])
    refine ⟨4 - (j + 1), ?_, _, rfl, by kernel_rfl, ?_⟩
    · first | omega | (omega)
    simp only [ga]
    refine ⟨j + 1, rfl, ?_, rfl, ?_⟩
    ·
     exact hH.say 0 rfl (arr8_congr fun n _ => ready_upd key (by omega) (by omega) (by omega) n)
    · first | omega | (omega)
   ·
    (try simp only [cnd] at hc69)
    refine wp_exit ?_
    (try simp only [Exit.then, Exit.inBlock, ↓reduceIte, Nat.reduceEqDiff])
    refine hK27 _ _ ?_
    (try clear hK27 K27)
    refine wrt [.p 0, .p 1, .p 2] ?_
    refine pm ?_;simp only [nf]
    refine pp rfl rfl (pr_bin rfl rfl (by first | exact bin_add_n (n := 4) (by first | omega | (exact Nat.lt_of_lt_of_le (lt_u8 _) (by omega))) | exact bin_add_i (by first | omega | (exact Nat.lt_of_lt_of_le (lt_u8 _) (by omega))) (by first | omega | (exact Nat.lt_of_lt_of_le (lt_u8 _) (by omega))))) ?_;simp only [nf]
    refine pa ?_;simp only [nf]
    refine plan_nil hH ?_
    clear hH
    intro w74 hH
    (try simp only [Exit.then, Exit.inBlock, ↓reduceIte, Nat.reduceEqDiff])
    refine ⟨176 - (i + 4), ?_, _, rfl, by kernel_rfl, ?_⟩
    · first | omega | (omega)
    simp only [ga]
    refine ⟨i + 4, r, rfl, ?_, rfl, ?_, ?_, ?_, ?_⟩
    ·
     obtain rfl : j = 4 := by omega
     exact hH.take 1
    · first | omega | (omega)
    · first | omega | (omega)
    · first | omega | (omega)
    · first | omega | (first | exact con_next hr (by omega) (by omega) | exact con_same hr (by omega) (by omega) (by omega))
 ·
  (try simp only [cnd] at hc26)
  refine wp_exit ?_
  (try simp only [Exit.then, Exit.inBlock, ↓reduceIte, Nat.reduceEqDiff])
  refine hK12 _ _ ?_
  (try clear hK12 K12)
  refine wp_seq_k ?_
  intro K75 hK75
  refine wrt [.p 0, .p 1] ?_
  refine pm (pa ?_);simp only [nf]
  refine plan_nil hH ?_
  clear hH
  intro w76 hH
  refine hK75 _ _ ?_
  (try clear hK75 K75)
  refine wp_ret ?_
  (try simp only [Exit.then, Exit.inBlock, ↓reduceIte, Nat.reduceEqDiff])
  refine BP.ret1 rfl rfl ?_
  obtain rfl : i = 176 := by omega
  exact ⟨_, rfl, hH.chg, (hH.mine 0 rfl).resolve_right (by simp), (hH.say 0 rfl (ready_done key)).blk 0 rfl⟩

end Go.Proofs.YtmoaddicejohgaaDoor
