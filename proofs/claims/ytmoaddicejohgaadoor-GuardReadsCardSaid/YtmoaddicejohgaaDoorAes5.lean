/- Walks of the document's Block and of the law AesBlock. No conditions. -/
import Derived.Test.YtmoaddicejohgaaDoorAes4
set_option linter.unusedSimpArgs false
set_option linter.unusedVariables false
set_option maxRecDepth 100000
set_option maxHeartbeats 4000000
namespace Go.Proofs.YtmoaddicejohgaaDoor
open Go
open List (getD_cons_zero getD_cons_succ set_cons_zero set_cons_succ)

theorem keyF_w (key : Nat → UInt8) (i : Nat) : keyF key (256 + i) = kexp key i := by
  unfold keyF
  rw [if_neg (by omega), Nat.add_sub_cancel_left]
theorem keyF_t (key : Nat → UInt8) {i : Nat} (h : i < 256) : keyF key i = sbox i := if_pos h
theorem colsN_at (u : Nat → UInt8) {c r : Nat} (hc : c < 4) (hr : r < 4) : dbl (u (4 * c + r)) ^^^ dbl (u (4 * c + (r + 1) % 4)) ^^^ u (4 * c + (r + 1) % 4) ^^^ u (4 * c + (r + 2) % 4) ^^^ u (4 * c + (r + 3) % 4) = colsN u 4 (4 * c + r) := by
  have h1 : c = 0 ∨ c = 1 ∨ c = 2 ∨ c = 3 := by omega
  have h2 : r = 0 ∨ r = 1 ∨ r = 2 ∨ r = 3 := by omega
  clear hc hr
  rcases h1 with rfl | rfl | rfl | rfl <;> rcases h2 with rfl | rfl | rfl | rfl <;>
  simp [colsN, colf, dbl_xor, UInt8.xor_assoc, UInt8.xor_comm, UInt8.xor_left_comm, UInt8.xor_cancel]
theorem subs_at (S : Nat → UInt8) {c r : Nat} (hc : c < 4) (hr : r < 4) : sbox (S (4 * ((c + r) % 4) + r)).toNat = subs S (4 * c + r) := by
  unfold subs
  rw [show (4 * c + r + 4 * ((4 * c + r) % 4)) % 16 = 4 * ((c + r) % 4) + r by omega]
theorem put_at {g z : Nat → UInt8} {m m' m'' : Nat} {v : UInt8} (h1 : m' = m) (h2 : m'' = m + 1) (hv : v = g m) (i : Nat) :
    upd (fun n => if n < m then g n else z n) m' v i = if i < m'' then g i else z i := by
  subst h1 h2 hv
  simp only [upd]
  by_cases h : i = m'
  · subst h; rw [if_pos rfl, if_pos (by omega)]
  · rw [if_neg h]
    by_cases h1 : i < m'
    · rw [if_pos h1, if_pos (by omega)]
    · rw [if_neg h1, if_neg (by omega)]
theorem str_at (s : ByteArray) (i : Nat) (h : i < s.size) : s[i]'h = s.data.toList.getD i 0 := by
  simp [List.getD, ByteArray.getElem_eq_getElem_data, h]

theorem refblock_calls (bk : Nat) (key : Nat → UInt8) (s : ByteArray) (sl : Nat → UInt8) (hsl : ∀ i, i < 16 → s.data.toList.getD i 0 = sl i) (hs : s.size = 16) (w : World) (hb : Blk w bk 103 (arr8 432 (keyF key))) :
    Ret Tryd.prog 48 #[PT bk 0, .string s] w fun v w' => v = .string ⟨((List.range 16).map fun i => aesR (kexp key) sl 10 i).toArray⟩ ∧ Chg [] w w' := by
 refine Ret.enter Tryd.func48 rfl ?_
 simp only [Tryd.ntmps48, fe, Nat.reduceAdd, Nat.reduceSub]
 have hH := Hp.start [] w
 refine wp_seq_k ?_
 intro K1 hK1
 refine wrt [.p 0] ?_
 refine pa ?_;simp only [nf]
 refine plan_nil hH ?_
 clear hH
 intro w2 hH
 refine hK1 _ _ ?_
 (try clear hK1 K1)
 refine wp_seq_k ?_
 intro K3 hK3
 refine wrt [.x 0] ?_
 refine plan_alloc rfl rfl hH zc87 ?_
 clear hH
 intro b4 w5 hH
 (try simp only [nf, nh, Value.cells] at hH ⊢)
 refine plan_nil hH ?_
 clear hH
 intro w6 hH
 refine hK3 _ _ ?_
 (try clear hK3 K3)
 refine wp_seq_k ?_
 intro K7 hK7
 refine wp_seq_k ?_
 intro K8 hK8
 refine wrt [.p 0] ?_
 refine pka 0 ?_;simp only [nf]
 refine plan_nil hH ?_
 clear hH
 intro w9 hH
 refine hK8 _ _ ?_
 (try clear hK8 K8)
 refine wp_block ?_
 refine wp_loopT [6] [17, 18, 19, 20, 21, 22, 23, 24, 25, 26, 27, 28, 29, 30, 31, 32] (fun (n10 : Nat) (vs : List Value) (w' : World) => ∃ (k : Nat), vs = [I64 (k : Nat)] ∧ Hp [] w w' [(some b4, 87, arr8 16 fun i => if i < k then sl i ^^^ kexp key i else 0)] ∧ n10 = 16 - k ∧ k ≤ 16) (16 - 0) (by kernel_rfl) ?_ ?_
 ·
  simp only [ga]
  refine ⟨0, rfl, ?_, rfl, ?_⟩
  ·
   exact hH.say 0 rfl (arr8_congr fun i hi => by rw [if_neg (by omega)])
  · first | omega | (omega)
 clear hH
 intro n10 vs11 w12 hR13 d0
 obtain ⟨k, rfl, hH, hn14, hf15⟩ := hR13
 simp only [putAll, putD, List.set_cons_zero, List.set_cons_succ, Nat.zero_add, Nat.reduceAdd]
 refine wp_seq_k ?_
 intro K16 hK16
 refine wp_seq_k ?_
 intro K17 hK17
 refine wrt [.p 0, .p 1] ?_
 refine pm ?_;simp only [nf]
 refine pp rfl rfl (pr_bin rfl rfl (by first | exact bin_lss_n (n := 16)  | exact bin_lss_i)) ?_;simp only [nf]
 refine plan_nil hH ?_
 clear hH
 intro w18 hH
 refine hK17 _ _ ?_
 (try clear hK17 K17)
 refine wp_cond_split rfl (fun hc19 => ?_) (fun hc19 => ?_)
 ·
  (try simp only [cnd] at hc19)
  refine wp_skip ?_
  refine hK16 _ _ ?_
  (try clear hK16 K16)
  refine wp_seq_k ?_
  intro K20 hK20
  refine wp_block ?_
  refine wrp [.p 0, .p 1, .p 2, .p 3, .p 4, .p 5, .p 6, .p 7, .p 8, .q 9, .p 10, .p 11, .e 12] ?_
  refine pm (pm (pm ?_));simp only [nf]
  refine pp rfl rfl (pr_index_str rfl rfl Tryd.underlying9 (by first | omega | (exact Nat.lt_of_lt_of_le (lt_u8 _) (by omega)))) ?_;simp only [nf]
  refine pm (pm ?_);simp only [nf]
  refine pp rfl rfl (pr_nilCheck rfl) ?_;simp only [nf]
  refine pp rfl rfl (pr_fieldAddr 256 rfl Tryd.underlying103 rfl rfl sz101) ?_;simp only [nf]
  refine pp rfl rfl (pr_idxA1 rfl rfl Tryd.underlying101 sz5 (by first | omega | (exact Nat.lt_of_lt_of_le (lt_u8 _) (by omega)))) ?_;simp only [nf]
  refine pq rfl rfl (qr_load1 rfl Tryd.underlying5 rfl ((hH.chg.nil_blk hb).cell (arr8_get (by first | omega | (exact Nat.lt_of_lt_of_le (lt_u8 _) (by omega)))))) ?_;simp only [nf]
  refine pp rfl rfl (pr_bin rfl rfl (bin_xor_u8 _ _)) ?_;simp only [nf]
  refine pp rfl rfl (pr_idxA1 rfl rfl Tryd.underlying87 sz5 (by first | omega | (exact Nat.lt_of_lt_of_le (lt_u8 _) (by omega)))) ?_;simp only [nf]
  refine plan_store1 0 rfl rfl hH rfl rfl rfl rfl sz5 (by simp <;> omega) ?_
  clear hH
  intro w21 hH
  (try simp only [nf, nh, Value.cells] at hH ⊢)
  refine plan_nil hH ?_
  clear hH
  intro w22 hH
  refine hK20 _ _ ?_
  (try clear hK20 K20)
  refine wrt [.p 0, .p 1, .p 2] ?_
  refine pm ?_;simp only [nf]
  refine pp rfl rfl (pr_bin rfl rfl (by first | exact bin_add_n (n := 1) (by first | omega | (exact Nat.lt_of_lt_of_le (lt_u8 _) (by omega))) | exact bin_add_i (by first | omega | (exact Nat.lt_of_lt_of_le (lt_u8 _) (by omega))) (by first | omega | (exact Nat.lt_of_lt_of_le (lt_u8 _) (by omega))))) ?_;simp only [nf]
  refine pa ?_;simp only [nf]
  refine plan_nil hH ?_
  clear hH
  intro w23 hH
  (try simp only [Exit.then, Exit.inBlock, ↓reduceIte, Nat.reduceEqDiff])
  refine ⟨16 - (k + 1), ?_, _, rfl, by kernel_rfl, ?_⟩
  · first | omega | (omega)
  simp only [ga]
  refine ⟨k + 1, rfl, ?_, rfl, ?_⟩
  ·
   simp only [str_at, keyF_w] at hH
   exact hH.say 0 rfl (arr8_congr fun i hi => put_at (g := fun i => sl i ^^^ kexp key i) (z := fun _ => 0) rfl rfl (by rw [hsl _ (by omega)]) i)
  · first | omega | (omega)
 ·
  (try simp only [cnd] at hc19)
  refine wp_exit ?_
  (try simp only [Exit.then, Exit.inBlock, ↓reduceIte, Nat.reduceEqDiff])
  refine hK7 _ _ ?_
  (try clear hK7 K7)
  refine wp_seq_k ?_
  intro K24 hK24
  refine wp_seq_k ?_
  intro K25 hK25
  refine wrt [.p 0] ?_
  refine pka 1 ?_;simp only [nf]
  refine plan_nil hH ?_
  clear hH
  intro w26 hH
  refine hK25 _ _ ?_
  (try clear hK25 K25)
  refine wp_block ?_
  refine wp_loopT [7] [8, 9, 10, 11, 12, 13, 14, 15, 16, 33, 34, 35, 36, 37, 38, 39, 40, 41, 42, 43, 44, 45, 46, 47, 48, 49, 50, 51, 52, 53, 54, 55, 56, 57, 58, 59, 60, 61, 62, 63, 64, 65, 66, 67, 68, 69, 70, 71, 72, 73, 74, 75, 76, 77, 78, 79, 80, 81, 82, 83, 84, 85, 86, 87, 88, 89, 90, 91, 92, 93, 94, 95, 96, 97, 98, 99, 100, 101, 102, 103, 104, 105, 106, 107, 108, 109, 110, 111, 112, 113, 114, 115, 116, 117, 118, 119, 120, 121, 122, 123, 124, 125, 126, 127, 128, 129, 130, 131, 132, 133, 134, 135, 136, 137] (fun (n27 : Nat) (vs : List Value) (w' : World) => ∃ (r : Nat), vs = [I64 ((r + 1 : Nat))] ∧ Hp [] w w' [(some b4, 87, arr8 16 (aesR (kexp key) sl r))] ∧ n27 = 10 - r ∧ r ≤ 10) (10 - 0) (by kernel_rfl) ?_ ?_
  ·
   simp only [ga]
   refine ⟨0, rfl, ?_, rfl, ?_⟩
   ·
    obtain rfl : k = 16 := by omega
    exact hH.say 0 rfl (arr8_congr fun i hi => by rw [if_pos (by omega)]; rfl)
   · first | omega | (omega)
  clear hH
  intro n27 vs28 w29 hR30 d1
  obtain ⟨r, rfl, hH, hn31, hf32⟩ := hR30
  simp only [putAll, putD, List.set_cons_zero, List.set_cons_succ, Nat.zero_add, Nat.reduceAdd]
  refine wp_seq_k ?_
  intro K33 hK33
  refine wp_seq_k ?_
  intro K34 hK34
  refine wrt [.p 0, .p 1] ?_
  refine pm ?_;simp only [nf]
  refine pp rfl rfl (pr_bin rfl rfl (by first | exact bin_leq_n (n := 10)  | exact bin_leq_i)) ?_;simp only [nf]
  refine plan_nil hH ?_
  clear hH
  intro w35 hH
  refine hK34 _ _ ?_
  (try clear hK34 K34)
  refine wp_cond_split rfl (fun hc36 => ?_) (fun hc36 => ?_)
  ·
   (try simp only [cnd] at hc36)
   refine wp_skip ?_
   refine hK33 _ _ ?_
   (try clear hK33 K33)
   refine wp_seq_k ?_
   intro K37 hK37
   refine wp_block ?_
   refine wp_seq_k ?_
   intro K38 hK38
   refine wrt [.x 0] ?_
   refine plan_alloc rfl rfl hH zc87 ?_
   clear hH
   intro b39 w40 hH
   (try simp only [nf, nh, Value.cells] at hH ⊢)
   refine plan_nil hH ?_
   clear hH
   intro w41 hH
   refine hK38 _ _ ?_
   (try clear hK38 K38)
   refine wp_seq_k ?_
   intro K42 hK42
   refine wp_seq_k ?_
   intro K43 hK43
   refine wrt [.p 0] ?_
   refine pka 0 ?_;simp only [nf]
   refine plan_nil hH ?_
   clear hH
   intro w44 hH
   refine hK43 _ _ ?_
   (try clear hK43 K43)
   refine wp_block ?_
   refine wp_loopT [9] [10, 37, 38, 39, 40, 41, 42, 43, 44, 45, 46, 47, 48, 49, 50, 51, 52, 53, 54, 55, 56, 57, 58, 59, 60, 61, 62, 63] (fun (n45 : Nat) (vs : List Value) (w' : World) => ∃ (c : Nat), vs = [I64 (c : Nat)] ∧ Hp [] w w' [(some b4, 87, arr8 16 (aesR (kexp key) sl r)), (some b39, 87, arr8 16 fun i => if i < 4 * c then subs (aesR (kexp key) sl r) i else 0)] ∧ n45 = 4 - c ∧ c ≤ 4) (4 - 0) (by kernel_rfl) ?_ ?_
   ·
    simp only [ga]
    refine ⟨0, rfl, ?_, rfl, ?_⟩
    ·
     exact hH.say 1 rfl (arr8_congr fun i hi => by rw [if_neg (by omega)])
    · first | omega | (omega)
   clear hH
   intro n45 vs46 w47 hR48 d2
   obtain ⟨c, rfl, hH, hn49, hf50⟩ := hR48
   simp only [putAll, putD, List.set_cons_zero, List.set_cons_succ, Nat.zero_add, Nat.reduceAdd]
   refine wp_seq_k ?_
   intro K51 hK51
   refine wp_seq_k ?_
   intro K52 hK52
   refine wrt [.p 0, .p 1] ?_
   refine pm ?_;simp only [nf]
   refine pp rfl rfl (pr_bin rfl rfl (by first | exact bin_lss_n (n := 4)  | exact bin_lss_i)) ?_;simp only [nf]
   refine plan_nil hH ?_
   clear hH
   intro w53 hH
   refine hK52 _ _ ?_
   (try clear hK52 K52)
   refine wp_cond_split rfl (fun hc54 => ?_) (fun hc54 => ?_)
   ·
    (try simp only [cnd] at hc54)
    refine wp_skip ?_
    refine hK51 _ _ ?_
    (try clear hK51 K51)
    refine wp_seq_k ?_
    intro K55 hK55
    refine wp_block ?_
    refine wp_seq_k ?_
    intro K56 hK56
    refine wrt [.p 0] ?_
    refine pka 0 ?_;simp only [nf]
    refine plan_nil hH ?_
    clear hH
    intro w57 hH
    refine hK56 _ _ ?_
    (try clear hK56 K56)
    refine wp_block ?_
    refine wp_loopT [10] [41, 42, 43, 44, 45, 46, 47, 48, 49, 50, 51, 52, 53, 54, 55, 56, 57, 58, 59, 60, 61, 62, 63] (fun (n58 : Nat) (vs : List Value) (w' : World) => ∃ (q : Nat), vs = [I64 (q : Nat)] ∧ Hp [] w w' [(some b4, 87, arr8 16 (aesR (kexp key) sl r)), (some b39, 87, arr8 16 fun i => if i < 4 * c + q then subs (aesR (kexp key) sl r) i else 0)] ∧ n58 = 4 - q ∧ q ≤ 4) (4 - 0) (by kernel_rfl) ?_ ?_
    ·
     simp only [ga]
     refine ⟨0, rfl, ?_, rfl, ?_⟩
     ·
      exact hH
     · first | omega | (omega)
    clear hH
    intro n58 vs59 w60 hR61 d3
    obtain ⟨q, rfl, hH, hn62, hf63⟩ := hR61
    simp only [putAll, putD, List.set_cons_zero, List.set_cons_succ, Nat.zero_add, Nat.reduceAdd]
    refine wp_seq_k ?_
    intro K64 hK64
    refine wp_seq_k ?_
    intro K65 hK65
    refine wrt [.p 0, .p 1] ?_
    refine pm ?_;simp only [nf]
    refine pp rfl rfl (pr_bin rfl rfl (by first | exact bin_lss_n (n := 4)  | exact bin_lss_i)) ?_;simp only [nf]
    refine plan_nil hH ?_
    clear hH
    intro w66 hH
    refine hK65 _ _ ?_
    (try clear hK65 K65)
    refine wp_cond_split rfl (fun hc67 => ?_) (fun hc67 => ?_)
    ·
     (try simp only [cnd] at hc67)
     refine wp_skip ?_
     refine hK64 _ _ ?_
     (try clear hK64 K64)
     refine wp_seq_k ?_
     intro K68 hK68
     refine wp_block ?_
     refine wrp [.p 0, .p 1, .p 2, .p 3, .p 4, .p 5, .p 6, .p 7, .p 8, .p 9, .p 10, .p 11, .p 12, .p 14, .p 15, .q 13, .p 16, .q 17, .p 18, .e 19] ?_
     refine pm ?_;simp only [nf]
     refine pp rfl rfl (pr_bin rfl rfl (by first | exact bin_mul_n (m := 4) (by first | omega | (exact Nat.lt_of_lt_of_le (lt_u8 _) (by omega))) | exact bin_mul_i (by first | omega | (exact Nat.lt_of_lt_of_le (lt_u8 _) (by omega))) (by first | omega | (exact Nat.lt_of_lt_of_le (lt_u8 _) (by omega))))) ?_;simp only [nf]
     refine pm ?_;simp only [nf]
     refine pp rfl rfl (pr_bin rfl rfl (by first | exact bin_add_n (by first | omega | (exact Nat.lt_of_lt_of_le (lt_u8 _) (by omega))) | exact bin_add_i (by first | omega | (exact Nat.lt_of_lt_of_le (lt_u8 _) (by omega))) (by first | omega | (exact Nat.lt_of_lt_of_le (lt_u8 _) (by omega))))) ?_;simp only [nf]
     refine pm (pm (pm ?_));simp only [nf]
     refine pp rfl rfl (pr_bin rfl rfl (by first | exact bin_add_n (by first | omega | (exact Nat.lt_of_lt_of_le (lt_u8 _) (by omega))) | exact bin_add_i (by first | omega | (exact Nat.lt_of_lt_of_le (lt_u8 _) (by omega))) (by first | omega | (exact Nat.lt_of_lt_of_le (lt_u8 _) (by omega))))) ?_;simp only [nf]
     refine pp rfl rfl (pr_bin rfl rfl (by first | exact bin_rem_n (n := 4) (by first | omega | (exact Nat.lt_of_lt_of_le (lt_u8 _) (by omega))))) ?_;simp only [nf]
     refine pp rfl rfl (pr_bin rfl rfl (by first | exact bin_mul_n (m := 4) (by first | omega | (exact Nat.lt_of_lt_of_le (lt_u8 _) (by omega))) | exact bin_mul_i (by first | omega | (exact Nat.lt_of_lt_of_le (lt_u8 _) (by omega))) (by first | omega | (exact Nat.lt_of_lt_of_le (lt_u8 _) (by omega))))) ?_;simp only [nf]
     refine pm ?_;simp only [nf]
     refine pp rfl rfl (pr_bin rfl rfl (by first | exact bin_add_n (by first | omega | (exact Nat.lt_of_lt_of_le (lt_u8 _) (by omega))) | exact bin_add_i (by first | omega | (exact Nat.lt_of_lt_of_le (lt_u8 _) (by omega))) (by first | omega | (exact Nat.lt_of_lt_of_le (lt_u8 _) (by omega))))) ?_;simp only [nf]
     refine pp rfl rfl (pr_idxA1 rfl rfl Tryd.underlying87 sz5 (by first | omega | (exact Nat.lt_of_lt_of_le (lt_u8 _) (by omega)))) ?_;simp only [nf]
     refine pp rfl rfl (pr_nilCheck rfl) ?_;simp only [nf]
     refine pp rfl rfl (pr_fieldAddr 0 rfl Tryd.underlying103 rfl rfl sz99) ?_;simp only [nf]
     refine pq rfl rfl (qr_load1 rfl Tryd.underlying5 rfl ((hH.blk 0 rfl).cell (arr8_get (by first | omega | (exact Nat.lt_of_lt_of_le (lt_u8 _) (by omega)))))) ?_;simp only [nf]
     refine pp rfl rfl (pr_idxA1 rfl rfl Tryd.underlying99 sz5 (by first | omega | (exact Nat.lt_of_lt_of_le (lt_u8 _) (by omega)))) ?_;simp only [nf]
     refine pq rfl rfl (qr_load1 rfl Tryd.underlying5 rfl ((hH.chg.nil_blk hb).cell (arr8_get (by first | omega | (exact Nat.lt_of_lt_of_le (lt_u8 _) (by omega)))))) ?_;simp only [nf]
     refine pp rfl rfl (pr_idxA1 rfl rfl Tryd.underlying87 sz5 (by first | omega | (exact Nat.lt_of_lt_of_le (lt_u8 _) (by omega)))) ?_;simp only [nf]
     refine plan_store1 1 rfl rfl hH rfl rfl rfl rfl sz5 (by simp <;> omega) ?_
     clear hH
     intro w69 hH
     (try simp only [nf, nh, Value.cells] at hH ⊢)
     refine plan_nil hH ?_
     clear hH
     intro w70 hH
     refine hK68 _ _ ?_
     (try clear hK68 K68)
     refine wrt [.p 0, .p 1, .p 2] ?_
     refine pm ?_;simp only [nf]
     refine pp rfl rfl (pr_bin rfl rfl (by first | exact bin_add_n (n := 1) (by first | omega | (exact Nat.lt_of_lt_of_le (lt_u8 _) (by omega))) | exact bin_add_i (by first | omega | (exact Nat.lt_of_lt_of_le (lt_u8 _) (by omega))) (by first | omega | (exact Nat.lt_of_lt_of_le (lt_u8 _) (by omega))))) ?_;simp only [nf]
     refine pa ?_;simp only [nf]
     refine plan_nil hH ?_
     clear hH
     intro w71 hH
     (try simp only [Exit.then, Exit.inBlock, ↓reduceIte, Nat.reduceEqDiff])
     refine ⟨4 - (q + 1), ?_, _, rfl, by kernel_rfl, ?_⟩
     · first | omega | (omega)
     simp only [ga]
     refine ⟨q + 1, rfl, ?_, rfl, ?_⟩
     ·
      rw [keyF_t _ (lt_u8 _)] at hH
      exact hH.say 1 rfl (arr8_congr fun i hi => put_at (g := subs (aesR (kexp key) sl r)) (z := fun _ => 0) rfl (by omega) (subs_at _ (by omega) (by omega)) i)
     · first | omega | (omega)
    ·
     (try simp only [cnd] at hc67)
     refine wp_exit ?_
     (try simp only [Exit.then, Exit.inBlock, ↓reduceIte, Nat.reduceEqDiff])
     refine hK55 _ _ ?_
     (try clear hK55 K55)
     refine wrt [.p 0, .p 1, .p 2] ?_
     refine pm ?_;simp only [nf]
     refine pp rfl rfl (pr_bin rfl rfl (by first | exact bin_add_n (n := 1) (by first | omega | (exact Nat.lt_of_lt_of_le (lt_u8 _) (by omega))) | exact bin_add_i (by first | omega | (exact Nat.lt_of_lt_of_le (lt_u8 _) (by omega))) (by first | omega | (exact Nat.lt_of_lt_of_le (lt_u8 _) (by omega))))) ?_;simp only [nf]
     refine pa ?_;simp only [nf]
     refine plan_nil hH ?_
     clear hH
     intro w72 hH
     (try simp only [Exit.then, Exit.inBlock, ↓reduceIte, Nat.reduceEqDiff])
     refine ⟨4 - (c + 1), ?_, _, rfl, by kernel_rfl, ?_⟩
     · first | omega | (omega)
     simp only [ga]
     refine ⟨c + 1, rfl, ?_, rfl, ?_⟩
     ·
      obtain rfl : q = 4 := by omega
      exact hH
     · first | omega | (omega)
   ·
    (try simp only [cnd] at hc54)
    refine wp_exit ?_
    (try simp only [Exit.then, Exit.inBlock, ↓reduceIte, Nat.reduceEqDiff])
    refine hK42 _ _ ?_
    (try clear hK42 K42)
    refine wp_seq_k ?_
    intro K73 hK73
    refine wp_seq_k ?_
    intro K74 hK74
    refine wrt [.p 0, .p 1] ?_
    refine pm ?_;simp only [nf]
    refine pp rfl rfl (pr_bin rfl rfl (by first | exact bin_lss_n (n := 10)  | exact bin_lss_i)) ?_;simp only [nf]
    refine plan_nil hH ?_
    clear hH
    intro w75 hH
    refine hK74 _ _ ?_
    (try clear hK74 K74)
    refine wp_cond_split rfl (fun hc76 => ?_) (fun hc76 => ?_)
    ·
     (try simp only [cnd] at hc76)
     obtain rfl : c = 4 := by omega
     replace hH := hH.say 1 rfl (arr8_congr (g := subs (aesR (kexp key) sl r)) fun i hi => by rw [if_pos (by omega)])
     simp only [List.set_cons_zero, List.set_cons_succ] at hH
     refine wp_seq_k ?_
     intro K77 hK77
     refine wrt [.q 0, .x 1, .e 2] ?_
     refine pq rfl rfl (qr_loadW rfl (hH.blk 1 rfl) Tryd.underlying87 rfl sz87 (by simp)) ?_;simp only [nf]
     refine plan_alloc rfl rfl hH zc87 ?_
     clear hH
     intro b78 w79 hH
     (try simp only [nf, nh, Value.cells] at hH ⊢)
     refine plan_storeW 2 rfl rfl hH rfl rfl rfl one_arr8 sz87 (by simp) (by simp) ?_
     clear hH
     intro w80 hH
     (try simp only [nf, nh, Value.cells] at hH ⊢)
     refine plan_nil hH ?_
     clear hH
     intro w81 hH
     refine hK77 _ _ ?_
     (try clear hK77 K77)
     refine wp_seq_k ?_
     intro K82 hK82
     refine wrt [.p 0] ?_
     refine pka 0 ?_;simp only [nf]
     refine plan_nil hH ?_
     clear hH
     intro w83 hH
     refine hK82 _ _ ?_
     (try clear hK82 K82)
     refine wp_block ?_
     refine wp_loopT [12] [13, 14, 15, 67, 68, 69, 70, 71, 72, 73, 74, 75, 76, 77, 78, 79, 80, 81, 82, 83, 84, 85, 86, 87, 88, 89, 90, 91, 92, 93, 94, 95, 96, 97, 98, 99, 100, 101, 102, 103, 104, 105, 106, 107, 108, 109, 110, 111, 112, 113, 114, 115, 116, 117, 118] (fun (n84 : Nat) (vs : List Value) (w' : World) => ∃ (c : Nat), vs = [I64 (c : Nat)] ∧ Hp [] w w' [(some b4, 87, arr8 16 (aesR (kexp key) sl r)), (some b39, 87, arr8 16 fun i => if i < 4 * c then colsN (subs (aesR (kexp key) sl r)) 4 i else subs (aesR (kexp key) sl r) i), (some b78, 87, arr8 16 (subs (aesR (kexp key) sl r)))] ∧ n84 = 4 - c ∧ c ≤ 4) (4 - 0) (by kernel_rfl) ?_ ?_
     ·
      simp only [ga]
      refine ⟨0, rfl, ?_, rfl, ?_⟩
      ·
       exact hH.say 1 rfl (arr8_congr fun i hi => by rw [if_neg (by omega)])
      · first | omega | (omega)
     clear hH
     intro n84 vs85 w86 hR87 d4
     obtain ⟨c, rfl, hH, hn88, hf89⟩ := hR87
     simp only [putAll, putD, List.set_cons_zero, List.set_cons_succ, Nat.zero_add, Nat.reduceAdd]
     refine wp_seq_k ?_
     intro K90 hK90
     refine wp_seq_k ?_
     intro K91 hK91
     refine wrt [.p 0, .p 1] ?_
     refine pm ?_;simp only [nf]
     refine pp rfl rfl (pr_bin rfl rfl (by first | exact bin_lss_n (n := 4)  | exact bin_lss_i)) ?_;simp only [nf]
     refine plan_nil hH ?_
     clear hH
     intro w92 hH
     refine hK91 _ _ ?_
     (try clear hK91 K91)
     refine wp_cond_split rfl (fun hc93 => ?_) (fun hc93 => ?_)
     ·
      (try simp only [cnd] at hc93)
      refine wp_skip ?_
      refine hK90 _ _ ?_
      (try clear hK90 K90)
      refine wp_seq_k ?_
      intro K94 hK94
      refine wp_block ?_
      refine wp_seq_k ?_
      intro K95 hK95
      refine wrt [.p 0] ?_
      refine pka 0 ?_;simp only [nf]
      refine plan_nil hH ?_
      clear hH
      intro w96 hH
      refine hK95 _ _ ?_
      (try clear hK95 K95)
      refine wp_block ?_
      refine wp_loopT [13] [14, 15, 71, 72, 73, 74, 75, 76, 77, 78, 79, 80, 81, 82, 83, 84, 85, 86, 87, 88, 89, 90, 91, 92, 93, 94, 95, 96, 97, 98, 99, 100, 101, 102, 103, 104, 105, 106, 107, 108, 109, 110, 111, 112, 113, 114, 115, 116, 117, 118] (fun (n97 : Nat) (vs : List Value) (w' : World) => ∃ (q : Nat), vs = [I64 (q : Nat)] ∧ Hp [] w w' [(some b4, 87, arr8 16 (aesR (kexp key) sl r)), (some b39, 87, arr8 16 fun i => if i < 4 * c + q then colsN (subs (aesR (kexp key) sl r)) 4 i else subs (aesR (kexp key) sl r) i), (some b78, 87, arr8 16 (subs (aesR (kexp key) sl r)))] ∧ n97 = 4 - q ∧ q ≤ 4) (4 - 0) (by kernel_rfl) ?_ ?_
      ·
       simp only [ga]
       refine ⟨0, rfl, ?_, rfl, ?_⟩
       ·
        exact hH
       · first | omega | (omega)
      clear hH
      intro n97 vs98 w99 hR100 d5
      obtain ⟨q, rfl, hH, hn101, hf102⟩ := hR100
      simp only [putAll, putD, List.set_cons_zero, List.set_cons_succ, Nat.zero_add, Nat.reduceAdd]
      refine wp_seq_k ?_
      intro K103 hK103
      refine wp_seq_k ?_
      intro K104 hK104
      refine wrt [.p 0, .p 1] ?_
      refine pm ?_;simp only [nf]
      refine pp rfl rfl (pr_bin rfl rfl (by first | exact bin_lss_n (n := 4)  | exact bin_lss_i)) ?_;simp only [nf]
      refine plan_nil hH ?_
      clear hH
      intro w105 hH
      refine hK104 _ _ ?_
      (try clear hK104 K104)
      refine wp_cond_split rfl (fun hc106 => ?_) (fun hc106 => ?_)
      ·
       (try simp only [cnd] at hc106)
       refine wp_skip ?_
       refine hK103 _ _ ?_
       (try clear hK103 K103)
       refine wp_seq_k ?_
       intro K107 hK107
       refine wp_block ?_
       refine wp_seq_k ?_
       intro K108 hK108
       refine wrp [.p 0, .p 1, .p 2, .p 3, .p 4, .p 6, .p 7, .p 8, .p 9, .p 10, .p 11, .p 12, .q 5, .p 14, .q 13, .p 15] ?_
       refine pm ?_;simp only [nf]
       refine pp rfl rfl (pr_bin rfl rfl (by first | exact bin_mul_n (m := 4) (by first | omega | (exact Nat.lt_of_lt_of_le (lt_u8 _) (by omega))) | exact bin_mul_i (by first | omega | (exact Nat.lt_of_lt_of_le (lt_u8 _) (by omega))) (by first | omega | (exact Nat.lt_of_lt_of_le (lt_u8 _) (by omega))))) ?_;simp only [nf]
       refine pm ?_;simp only [nf]
       refine pp rfl rfl (pr_bin rfl rfl (by first | exact bin_add_n (by first | omega | (exact Nat.lt_of_lt_of_le (lt_u8 _) (by omega))) | exact bin_add_i (by first | omega | (exact Nat.lt_of_lt_of_le (lt_u8 _) (by omega))) (by first | omega | (exact Nat.lt_of_lt_of_le (lt_u8 _) (by omega))))) ?_;simp only [nf]
       refine pp rfl rfl (pr_idxA1 rfl rfl Tryd.underlying87 sz5 (by first | omega | (exact Nat.lt_of_lt_of_le (lt_u8 _) (by omega)))) ?_;simp only [nf]
       refine pm ?_;simp only [nf]
       refine pp rfl rfl (pr_bin rfl rfl (by first | exact bin_mul_n (m := 4) (by first | omega | (exact Nat.lt_of_lt_of_le (lt_u8 _) (by omega))) | exact bin_mul_i (by first | omega | (exact Nat.lt_of_lt_of_le (lt_u8 _) (by omega))) (by first | omega | (exact Nat.lt_of_lt_of_le (lt_u8 _) (by omega))))) ?_;simp only [nf]
       refine pm ?_;simp only [nf]
       refine pp rfl rfl (pr_bin rfl rfl (by first | exact bin_add_n (n := 1) (by first | omega | (exact Nat.lt_of_lt_of_le (lt_u8 _) (by omega))) | exact bin_add_i (by first | omega | (exact Nat.lt_of_lt_of_le (lt_u8 _) (by omega))) (by first | omega | (exact Nat.lt_of_lt_of_le (lt_u8 _) (by omega))))) ?_;simp only [nf]
       refine pp rfl rfl (pr_bin rfl rfl (by first | exact bin_rem_n (n := 4) (by first | omega | (exact Nat.lt_of_lt_of_le (lt_u8 _) (by omega))))) ?_;simp only [nf]
       refine pp rfl rfl (pr_bin rfl rfl (by first | exact bin_add_n (by first | omega | (exact Nat.lt_of_lt_of_le (lt_u8 _) (by omega))) | exact bin_add_i (by first | omega | (exact Nat.lt_of_lt_of_le (lt_u8 _) (by omega))) (by first | omega | (exact Nat.lt_of_lt_of_le (lt_u8 _) (by omega))))) ?_;simp only [nf]
       refine pp rfl rfl (pr_idxA1 rfl rfl Tryd.underlying87 sz5 (by first | omega | (exact Nat.lt_of_lt_of_le (lt_u8 _) (by omega)))) ?_;simp only [nf]
       refine pq rfl rfl (qr_load1 rfl Tryd.underlying5 rfl ((hH.blk 2 rfl).cell (arr8_get (by first | omega | (exact Nat.lt_of_lt_of_le (lt_u8 _) (by omega)))))) ?_;simp only [nf]
       refine pa ?_;simp only [nf]
       refine pq rfl rfl (qr_load1 rfl Tryd.underlying5 rfl ((hH.blk 2 rfl).cell (arr8_get (by first | omega | (exact Nat.lt_of_lt_of_le (lt_u8 _) (by omega)))))) ?_;simp only [nf]
       refine pa ?_;simp only [nf]
       refine plan_nil hH ?_
       clear hH
       intro w109 hH
       refine hK108 _ _ ?_
       (try clear hK108 K108)
       refine wrp [.p 0, .p 1, .p 2, .p 3, .p 4, .p 6, .p 9, .p 11, .p 12, .p 13, .p 14, .p 15, .p 16, .p 17, .p 20, .p 21, .p 22, .p 23, .p 24, .p 25, .p 26, .q 5, .q 7, .p 8, .p 10, .q 18, .p 19, .q 27, .p 28, .p 29, .e 30] ?_
       refine pm ?_;simp only [nf]
       refine pp rfl rfl (pr_bin rfl rfl (by first | exact bin_mul_n (m := 4) (by first | omega | (exact Nat.lt_of_lt_of_le (lt_u8 _) (by omega))) | exact bin_mul_i (by first | omega | (exact Nat.lt_of_lt_of_le (lt_u8 _) (by omega))) (by first | omega | (exact Nat.lt_of_lt_of_le (lt_u8 _) (by omega))))) ?_;simp only [nf]
       refine pm ?_;simp only [nf]
       refine pp rfl rfl (pr_bin rfl rfl (by first | exact bin_add_n (by first | omega | (exact Nat.lt_of_lt_of_le (lt_u8 _) (by omega))) | exact bin_add_i (by first | omega | (exact Nat.lt_of_lt_of_le (lt_u8 _) (by omega))) (by first | omega | (exact Nat.lt_of_lt_of_le (lt_u8 _) (by omega))))) ?_;simp only [nf]
       refine pm (pm (pm (pm ?_)));simp only [nf]
       refine pp rfl rfl (pr_bin rfl rfl (by first | exact bin_mul_n (m := 4) (by first | omega | (exact Nat.lt_of_lt_of_le (lt_u8 _) (by omega))) | exact bin_mul_i (by first | omega | (exact Nat.lt_of_lt_of_le (lt_u8 _) (by omega))) (by first | omega | (exact Nat.lt_of_lt_of_le (lt_u8 _) (by omega))))) ?_;simp only [nf]
       refine pm ?_;simp only [nf]
       refine pp rfl rfl (pr_bin rfl rfl (by first | exact bin_add_n (n := 2) (by first | omega | (exact Nat.lt_of_lt_of_le (lt_u8 _) (by omega))) | exact bin_add_i (by first | omega | (exact Nat.lt_of_lt_of_le (lt_u8 _) (by omega))) (by first | omega | (exact Nat.lt_of_lt_of_le (lt_u8 _) (by omega))))) ?_;simp only [nf]
       refine pp rfl rfl (pr_bin rfl rfl (by first | exact bin_rem_n (n := 4) (by first | omega | (exact Nat.lt_of_lt_of_le (lt_u8 _) (by omega))))) ?_;simp only [nf]
       refine pp rfl rfl (pr_bin rfl rfl (by first | exact bin_add_n (by first | omega | (exact Nat.lt_of_lt_of_le (lt_u8 _) (by omega))) | exact bin_add_i (by first | omega | (exact Nat.lt_of_lt_of_le (lt_u8 _) (by omega))) (by first | omega | (exact Nat.lt_of_lt_of_le (lt_u8 _) (by omega))))) ?_;simp only [nf]
       refine pp rfl rfl (pr_idxA1 rfl rfl Tryd.underlying87 sz5 (by first | omega | (exact Nat.lt_of_lt_of_le (lt_u8 _) (by omega)))) ?_;simp only [nf]
       refine pm ?_;simp only [nf]
       refine pp rfl rfl (pr_bin rfl rfl (by first | exact bin_mul_n (m := 4) (by first | omega | (exact Nat.lt_of_lt_of_le (lt_u8 _) (by omega))) | exact bin_mul_i (by first | omega | (exact Nat.lt_of_lt_of_le (lt_u8 _) (by omega))) (by first | omega | (exact Nat.lt_of_lt_of_le (lt_u8 _) (by omega))))) ?_;simp only [nf]
       refine pm ?_;simp only [nf]
       refine pp rfl rfl (pr_bin rfl rfl (by first | exact bin_add_n (n := 3) (by first | omega | (exact Nat.lt_of_lt_of_le (lt_u8 _) (by omega))) | exact bin_add_i (by first | omega | (exact Nat.lt_of_lt_of_le (lt_u8 _) (by omega))) (by first | omega | (exact Nat.lt_of_lt_of_le (lt_u8 _) (by omega))))) ?_;simp only [nf]
       refine pp rfl rfl (pr_bin rfl rfl (by first | exact bin_rem_n (n := 4) (by first | omega | (exact Nat.lt_of_lt_of_le (lt_u8 _) (by omega))))) ?_;simp only [nf]
       refine pp rfl rfl (pr_bin rfl rfl (by first | exact bin_add_n (by first | omega | (exact Nat.lt_of_lt_of_le (lt_u8 _) (by omega))) | exact bin_add_i (by first | omega | (exact Nat.lt_of_lt_of_le (lt_u8 _) (by omega))) (by first | omega | (exact Nat.lt_of_lt_of_le (lt_u8 _) (by omega))))) ?_;simp only [nf]
       refine pp rfl rfl (pr_idxA1 rfl rfl Tryd.underlying87 sz5 (by first | omega | (exact Nat.lt_of_lt_of_le (lt_u8 _) (by omega)))) ?_;simp only [nf]
       refine pq rfl rfl (qr_call cf54 (fun w' hw => twice_calls _ w') rfl) ?_;simp only [nf]
       refine pq rfl rfl (qr_call cf54 (fun w' hw => twice_calls _ w') rfl) ?_;simp only [nf]
       refine pp rfl rfl (pr_bin rfl rfl (bin_xor_u8 _ _)) ?_;simp only [nf]
       refine pp rfl rfl (pr_bin rfl rfl (bin_xor_u8 _ _)) ?_;simp only [nf]
       refine pq rfl rfl (qr_load1 rfl Tryd.underlying5 rfl ((hH.blk 2 rfl).cell (arr8_get (by first | omega | (exact Nat.lt_of_lt_of_le (lt_u8 _) (by omega)))))) ?_;simp only [nf]
       refine pp rfl rfl (pr_bin rfl rfl (bin_xor_u8 _ _)) ?_;simp only [nf]
       refine pq rfl rfl (qr_load1 rfl Tryd.underlying5 rfl ((hH.blk 2 rfl).cell (arr8_get (by first | omega | (exact Nat.lt_of_lt_of_le (lt_u8 _) (by omega)))))) ?_;simp only [nf]
       refine pp rfl rfl (pr_bin rfl rfl (bin_xor_u8 _ _)) ?_;simp only [nf]
       refine pp rfl rfl (pr_idxA1 rfl rfl Tryd.underlying87 sz5 (by first | omega | (exact Nat.lt_of_lt_of_le (lt_u8 _) (by omega)))) ?_;simp only [nf]
       refine plan_store1 1 rfl rfl hH rfl rfl rfl rfl sz5 (by simp <;> omega) ?_
       clear hH
       intro w110 hH
       (try simp only [nf, nh, Value.cells] at hH ⊢)
       refine plan_nil hH ?_
       clear hH
       intro w111 hH
       refine hK107 _ _ ?_
       (try clear hK107 K107)
       refine wrt [.p 0, .p 1, .p 2] ?_
       refine pm ?_;simp only [nf]
       refine pp rfl rfl (pr_bin rfl rfl (by first | exact bin_add_n (n := 1) (by first | omega | (exact Nat.lt_of_lt_of_le (lt_u8 _) (by omega))) | exact bin_add_i (by first | omega | (exact Nat.lt_of_lt_of_le (lt_u8 _) (by omega))) (by first | omega | (exact Nat.lt_of_lt_of_le (lt_u8 _) (by omega))))) ?_;simp only [nf]
       refine pa ?_;simp only [nf]
       refine plan_nil hH ?_
       clear hH
       intro w112 hH
       (try simp only [Exit.then, Exit.inBlock, ↓reduceIte, Nat.reduceEqDiff])
       refine ⟨4 - (q + 1), ?_, _, rfl, by kernel_rfl, ?_⟩
       · first | omega | (omega)
       simp only [ga]
       refine ⟨q + 1, rfl, ?_, rfl, ?_⟩
       ·
        exact hH.say 1 rfl (arr8_congr fun i hi => put_at (g := colsN (subs (aesR (kexp key) sl r)) 4) (z := subs (aesR (kexp key) sl r)) rfl (by omega) (colsN_at _ (by omega) (by omega)) i)
       · first | omega | (omega)
      ·
       (try simp only [cnd] at hc106)
       refine wp_exit ?_
       (try simp only [Exit.then, Exit.inBlock, ↓reduceIte, Nat.reduceEqDiff])
       refine hK94 _ _ ?_
       (try clear hK94 K94)
       refine wrt [.p 0, .p 1, .p 2] ?_
       refine pm ?_;simp only [nf]
       refine pp rfl rfl (pr_bin rfl rfl (by first | exact bin_add_n (n := 1) (by first | omega | (exact Nat.lt_of_lt_of_le (lt_u8 _) (by omega))) | exact bin_add_i (by first | omega | (exact Nat.lt_of_lt_of_le (lt_u8 _) (by omega))) (by first | omega | (exact Nat.lt_of_lt_of_le (lt_u8 _) (by omega))))) ?_;simp only [nf]
       refine pa ?_;simp only [nf]
       refine plan_nil hH ?_
       clear hH
       intro w113 hH
       (try simp only [Exit.then, Exit.inBlock, ↓reduceIte, Nat.reduceEqDiff])
       refine ⟨4 - (c + 1), ?_, _, rfl, by kernel_rfl, ?_⟩
       · first | omega | (omega)
       simp only [ga]
       refine ⟨c + 1, rfl, ?_, rfl, ?_⟩
       ·
        obtain rfl : q = 4 := by omega
        exact hH
       · first | omega | (omega)
     ·
      (try simp only [cnd] at hc93)
      refine wp_exit ?_
      (try simp only [Exit.then, Exit.inBlock, ↓reduceIte, Nat.reduceEqDiff])
      refine hK73 _ _ ?_
      (try clear hK73 K73)
      refine wp_seq_k ?_
      intro K114 hK114
      refine wrt [.p 0] ?_
      refine pka 0 ?_;simp only [nf]
      refine plan_nil hH ?_
      clear hH
      intro w115 hH
      refine hK114 _ _ ?_
      (try clear hK114 K114)
      refine wp_block ?_
      refine wp_loopT [16] [119, 120, 121, 122, 123, 124, 125, 126, 127, 128, 129, 130, 131, 132, 133, 134, 135, 136, 137] (fun (n116 : Nat) (vs : List Value) (w' : World) => ∃ (k : Nat), vs = [I64 (k : Nat)] ∧ Hp [] w w' [(some b4, 87, arr8 16 fun i => if i < k then aesR (kexp key) sl (r + 1) i else (aesR (kexp key) sl r) i), (some b39, 87, arr8 16 (if r + 1 < 10 then colsN (subs (aesR (kexp key) sl r)) 4 else subs (aesR (kexp key) sl r)))] ∧ n116 = 16 - k ∧ k ≤ 16) (16 - 0) (by kernel_rfl) ?_ ?_
      ·
       simp only [ga]
       refine ⟨0, rfl, ?_, rfl, ?_⟩
       ·
        obtain rfl : c = 4 := by omega
        refine ((hH.take 2).say 0 rfl (arr8_congr fun i hi => by rw [if_neg (by omega)])).say 1 rfl (arr8_congr fun i hi => by rw [if_pos (by omega), if_pos (by omega)])
       · first | omega | (omega)
      clear hH
      intro n116 vs117 w118 hR119 d6
      obtain ⟨k, rfl, hH, hn120, hf121⟩ := hR119
      simp only [putAll, putD, List.set_cons_zero, List.set_cons_succ, Nat.zero_add, Nat.reduceAdd]
      refine wp_seq_k ?_
      intro K122 hK122
      refine wp_seq_k ?_
      intro K123 hK123
      refine wrt [.p 0, .p 1] ?_
      refine pm ?_;simp only [nf]
      refine pp rfl rfl (pr_bin rfl rfl (by first | exact bin_lss_n (n := 16)  | exact bin_lss_i)) ?_;simp only [nf]
      refine plan_nil hH ?_
      clear hH
      intro w124 hH
      refine hK123 _ _ ?_
      (try clear hK123 K123)
      refine wp_cond_split rfl (fun hc125 => ?_) (fun hc125 => ?_)
      ·
       (try simp only [cnd] at hc125)
       refine wp_skip ?_
       refine hK122 _ _ ?_
       (try clear hK122 K122)
       refine wp_seq_k ?_
       intro K126 hK126
       refine wp_block ?_
       refine wrp [.p 0, .p 1, .p 2, .p 4, .p 5, .p 6, .p 7, .p 8, .p 9, .p 10, .p 11, .q 3, .q 12, .p 13, .p 14, .e 15] ?_
       refine pm (pm ?_);simp only [nf]
       refine pp rfl rfl (pr_idxA1 rfl rfl Tryd.underlying87 sz5 (by first | omega | (exact Nat.lt_of_lt_of_le (lt_u8 _) (by omega)))) ?_;simp only [nf]
       refine pm (pm ?_);simp only [nf]
       refine pp rfl rfl (pr_bin rfl rfl (by first | exact bin_mul_n (m := 16) (by first | omega | (exact Nat.lt_of_lt_of_le (lt_u8 _) (by omega))) | exact bin_mul_i (by first | omega | (exact Nat.lt_of_lt_of_le (lt_u8 _) (by omega))) (by first | omega | (exact Nat.lt_of_lt_of_le (lt_u8 _) (by omega))))) ?_;simp only [nf]
       refine pm ?_;simp only [nf]
       refine pp rfl rfl (pr_bin rfl rfl (by first | exact bin_add_n (by first | omega | (exact Nat.lt_of_lt_of_le (lt_u8 _) (by omega))) | exact bin_add_i (by first | omega | (exact Nat.lt_of_lt_of_le (lt_u8 _) (by omega))) (by first | omega | (exact Nat.lt_of_lt_of_le (lt_u8 _) (by omega))))) ?_;simp only [nf]
       refine pp rfl rfl (pr_nilCheck rfl) ?_;simp only [nf]
       refine pp rfl rfl (pr_fieldAddr 256 rfl Tryd.underlying103 rfl rfl sz101) ?_;simp only [nf]
       refine pp rfl rfl (pr_idxA1 rfl rfl Tryd.underlying101 sz5 (by first | omega | (exact Nat.lt_of_lt_of_le (lt_u8 _) (by omega)))) ?_;simp only [nf]
       refine pq rfl rfl (qr_load1 rfl Tryd.underlying5 rfl ((hH.blk 1 rfl).cell (arr8_get (by first | omega | (exact Nat.lt_of_lt_of_le (lt_u8 _) (by omega)))))) ?_;simp only [nf]
       refine pq rfl rfl (qr_load1 rfl Tryd.underlying5 rfl ((hH.chg.nil_blk hb).cell (arr8_get (by first | omega | (exact Nat.lt_of_lt_of_le (lt_u8 _) (by omega)))))) ?_;simp only [nf]
       refine pp rfl rfl (pr_bin rfl rfl (bin_xor_u8 _ _)) ?_;simp only [nf]
       refine pp rfl rfl (pr_idxA1 rfl rfl Tryd.underlying87 sz5 (by first | omega | (exact Nat.lt_of_lt_of_le (lt_u8 _) (by omega)))) ?_;simp only [nf]
       refine plan_store1 0 rfl rfl hH rfl rfl rfl rfl sz5 (by simp <;> omega) ?_
       clear hH
       intro w127 hH
       (try simp only [nf, nh, Value.cells] at hH ⊢)
       refine plan_nil hH ?_
       clear hH
       intro w128 hH
       refine hK126 _ _ ?_
       (try clear hK126 K126)
       refine wrt [.p 0, .p 1, .p 2] ?_
       refine pm ?_;simp only [nf]
       refine pp rfl rfl (pr_bin rfl rfl (by first | exact bin_add_n (n := 1) (by first | omega | (exact Nat.lt_of_lt_of_le (lt_u8 _) (by omega))) | exact bin_add_i (by first | omega | (exact Nat.lt_of_lt_of_le (lt_u8 _) (by omega))) (by first | omega | (exact Nat.lt_of_lt_of_le (lt_u8 _) (by omega))))) ?_;simp only [nf]
       refine pa ?_;simp only [nf]
       refine plan_nil hH ?_
       clear hH
       intro w129 hH
       (try simp only [Exit.then, Exit.inBlock, ↓reduceIte, Nat.reduceEqDiff])
       refine ⟨16 - (k + 1), ?_, _, rfl, by kernel_rfl, ?_⟩
       · first | omega | (omega)
       simp only [ga]
       refine ⟨k + 1, rfl, ?_, rfl, ?_⟩
       ·
        rw [keyF_w] at hH
        exact hH.say 0 rfl (arr8_congr fun i hi => put_at (g := aesR (kexp key) sl (r + 1)) (z := (aesR (kexp key) sl r)) rfl rfl (by rw [aesR_succ, Nat.mul_comm 16]) i)
       · first | omega | (omega)
      ·
       (try simp only [cnd] at hc125)
       refine wp_exit ?_
       (try simp only [Exit.then, Exit.inBlock, ↓reduceIte, Nat.reduceEqDiff])
       refine hK37 _ _ ?_
       (try clear hK37 K37)
       refine wrt [.p 0, .p 1, .p 2] ?_
       refine pm ?_;simp only [nf]
       refine pp rfl rfl (pr_bin rfl rfl (by first | exact bin_add_n (n := 1) (by first | omega | (exact Nat.lt_of_lt_of_le (lt_u8 _) (by omega))) | exact bin_add_i (by first | omega | (exact Nat.lt_of_lt_of_le (lt_u8 _) (by omega))) (by first | omega | (exact Nat.lt_of_lt_of_le (lt_u8 _) (by omega))))) ?_;simp only [nf]
       refine pa ?_;simp only [nf]
       refine plan_nil hH ?_
       clear hH
       intro w130 hH
       (try simp only [Exit.then, Exit.inBlock, ↓reduceIte, Nat.reduceEqDiff])
       refine ⟨10 - (r + 1), ?_, _, rfl, by kernel_rfl, ?_⟩
       · first | omega | (omega)
       simp only [ga]
       refine ⟨r + 1, rfl, ?_, rfl, ?_⟩
       ·
        obtain rfl : k = 16 := by omega
        exact (hH.take 1).say 0 rfl (arr8_congr fun i hi => by rw [if_pos (by omega)])
       · first | omega | (omega)
    ·
     (try simp only [cnd] at hc76)
     obtain rfl : c = 4 := by omega
     replace hH := hH.say 1 rfl (arr8_congr (g := subs (aesR (kexp key) sl r)) fun i hi => by rw [if_pos (by omega)])
     simp only [List.set_cons_zero, List.set_cons_succ] at hH
     refine wp_skip ?_
     refine hK73 _ _ ?_
     (try clear hK73 K73)
     refine wp_seq_k ?_
     intro K131 hK131
     refine wrt [.p 0] ?_
     refine pka 0 ?_;simp only [nf]
     refine plan_nil hH ?_
     clear hH
     intro w132 hH
     refine hK131 _ _ ?_
     (try clear hK131 K131)
     refine wp_block ?_
     refine wp_loopT [16] [119, 120, 121, 122, 123, 124, 125, 126, 127, 128, 129, 130, 131, 132, 133, 134, 135, 136, 137] (fun (n133 : Nat) (vs : List Value) (w' : World) => ∃ (k : Nat), vs = [I64 (k : Nat)] ∧ Hp [] w w' [(some b4, 87, arr8 16 fun i => if i < k then aesR (kexp key) sl (r + 1) i else (aesR (kexp key) sl r) i), (some b39, 87, arr8 16 (if r + 1 < 10 then colsN (subs (aesR (kexp key) sl r)) 4 else subs (aesR (kexp key) sl r)))] ∧ n133 = 16 - k ∧ k ≤ 16) (16 - 0) (by kernel_rfl) ?_ ?_
     ·
      simp only [ga]
      refine ⟨0, rfl, ?_, rfl, ?_⟩
      ·
       exact (hH.say 0 rfl (arr8_congr fun i hi => by rw [if_neg (by omega)])).say 1 rfl (by rw [if_neg (by omega)])
      · first | omega | (omega)
     clear hH
     intro n133 vs134 w135 hR136 d6
     obtain ⟨k, rfl, hH, hn137, hf138⟩ := hR136
     simp only [putAll, putD, List.set_cons_zero, List.set_cons_succ, Nat.zero_add, Nat.reduceAdd]
     refine wp_seq_k ?_
     intro K139 hK139
     refine wp_seq_k ?_
     intro K140 hK140
     refine wrt [.p 0, .p 1] ?_
     refine pm ?_;simp only [nf]
     refine pp rfl rfl (pr_bin rfl rfl (by first | exact bin_lss_n (n := 16)  | exact bin_lss_i)) ?_;simp only [nf]
     refine plan_nil hH ?_
     clear hH
     intro w141 hH
     refine hK140 _ _ ?_
     (try clear hK140 K140)
     refine wp_cond_split rfl (fun hc142 => ?_) (fun hc142 => ?_)
     ·
      (try simp only [cnd] at hc142)
      refine wp_skip ?_
      refine hK139 _ _ ?_
      (try clear hK139 K139)
      refine wp_seq_k ?_
      intro K143 hK143
      refine wp_block ?_
      refine wrp [.p 0, .p 1, .p 2, .p 4, .p 5, .p 6, .p 7, .p 8, .p 9, .p 10, .p 11, .q 3, .q 12, .p 13, .p 14, .e 15] ?_
      refine pm (pm ?_);simp only [nf]
      refine pp rfl rfl (pr_idxA1 rfl rfl Tryd.underlying87 sz5 (by first | omega | (exact Nat.lt_of_lt_of_le (lt_u8 _) (by omega)))) ?_;simp only [nf]
      refine pm (pm ?_);simp only [nf]
      refine pp rfl rfl (pr_bin rfl rfl (by first | exact bin_mul_n (m := 16) (by first | omega | (exact Nat.lt_of_lt_of_le (lt_u8 _) (by omega))) | exact bin_mul_i (by first | omega | (exact Nat.lt_of_lt_of_le (lt_u8 _) (by omega))) (by first | omega | (exact Nat.lt_of_lt_of_le (lt_u8 _) (by omega))))) ?_;simp only [nf]
      refine pm ?_;simp only [nf]
      refine pp rfl rfl (pr_bin rfl rfl (by first | exact bin_add_n (by first | omega | (exact Nat.lt_of_lt_of_le (lt_u8 _) (by omega))) | exact bin_add_i (by first | omega | (exact Nat.lt_of_lt_of_le (lt_u8 _) (by omega))) (by first | omega | (exact Nat.lt_of_lt_of_le (lt_u8 _) (by omega))))) ?_;simp only [nf]
      refine pp rfl rfl (pr_nilCheck rfl) ?_;simp only [nf]
      refine pp rfl rfl (pr_fieldAddr 256 rfl Tryd.underlying103 rfl rfl sz101) ?_;simp only [nf]
      refine pp rfl rfl (pr_idxA1 rfl rfl Tryd.underlying101 sz5 (by first | omega | (exact Nat.lt_of_lt_of_le (lt_u8 _) (by omega)))) ?_;simp only [nf]
      refine pq rfl rfl (qr_load1 rfl Tryd.underlying5 rfl ((hH.blk 1 rfl).cell (arr8_get (by first | omega | (exact Nat.lt_of_lt_of_le (lt_u8 _) (by omega)))))) ?_;simp only [nf]
      refine pq rfl rfl (qr_load1 rfl Tryd.underlying5 rfl ((hH.chg.nil_blk hb).cell (arr8_get (by first | omega | (exact Nat.lt_of_lt_of_le (lt_u8 _) (by omega)))))) ?_;simp only [nf]
      refine pp rfl rfl (pr_bin rfl rfl (bin_xor_u8 _ _)) ?_;simp only [nf]
      refine pp rfl rfl (pr_idxA1 rfl rfl Tryd.underlying87 sz5 (by first | omega | (exact Nat.lt_of_lt_of_le (lt_u8 _) (by omega)))) ?_;simp only [nf]
      refine plan_store1 0 rfl rfl hH rfl rfl rfl rfl sz5 (by simp <;> omega) ?_
      clear hH
      intro w144 hH
      (try simp only [nf, nh, Value.cells] at hH ⊢)
      refine plan_nil hH ?_
      clear hH
      intro w145 hH
      refine hK143 _ _ ?_
      (try clear hK143 K143)
      refine wrt [.p 0, .p 1, .p 2] ?_
      refine pm ?_;simp only [nf]
      refine pp rfl rfl (pr_bin rfl rfl (by first | exact bin_add_n (n := 1) (by first | omega | (exact Nat.lt_of_lt_of_le (lt_u8 _) (by omega))) | exact bin_add_i (by first | omega | (exact Nat.lt_of_lt_of_le (lt_u8 _) (by omega))) (by first | omega | (exact Nat.lt_of_lt_of_le (lt_u8 _) (by omega))))) ?_;simp only [nf]
      refine pa ?_;simp only [nf]
      refine plan_nil hH ?_
      clear hH
      intro w146 hH
      (try simp only [Exit.then, Exit.inBlock, ↓reduceIte, Nat.reduceEqDiff])
      refine ⟨16 - (k + 1), ?_, _, rfl, by kernel_rfl, ?_⟩
      · first | omega | (omega)
      simp only [ga]
      refine ⟨k + 1, rfl, ?_, rfl, ?_⟩
      ·
       rw [keyF_w] at hH
       exact hH.say 0 rfl (arr8_congr fun i hi => put_at (g := aesR (kexp key) sl (r + 1)) (z := (aesR (kexp key) sl r)) rfl rfl (by rw [aesR_succ, Nat.mul_comm 16]) i)
      · first | omega | (omega)
     ·
      (try simp only [cnd] at hc142)
      refine wp_exit ?_
      (try simp only [Exit.then, Exit.inBlock, ↓reduceIte, Nat.reduceEqDiff])
      refine hK37 _ _ ?_
      (try clear hK37 K37)
      refine wrt [.p 0, .p 1, .p 2] ?_
      refine pm ?_;simp only [nf]
      refine pp rfl rfl (pr_bin rfl rfl (by first | exact bin_add_n (n := 1) (by first | omega | (exact Nat.lt_of_lt_of_le (lt_u8 _) (by omega))) | exact bin_add_i (by first | omega | (exact Nat.lt_of_lt_of_le (lt_u8 _) (by omega))) (by first | omega | (exact Nat.lt_of_lt_of_le (lt_u8 _) (by omega))))) ?_;simp only [nf]
      refine pa ?_;simp only [nf]
      refine plan_nil hH ?_
      clear hH
      intro w147 hH
      (try simp only [Exit.then, Exit.inBlock, ↓reduceIte, Nat.reduceEqDiff])
      refine ⟨10 - (r + 1), ?_, _, rfl, by kernel_rfl, ?_⟩
      · first | omega | (omega)
      simp only [ga]
      refine ⟨r + 1, rfl, ?_, rfl, ?_⟩
      ·
       obtain rfl : k = 16 := by omega
       exact (hH.take 1).say 0 rfl (arr8_congr fun i hi => by rw [if_pos (by omega)])
      · first | omega | (omega)
  ·
   (try simp only [cnd] at hc36)
   refine wp_exit ?_
   (try simp only [Exit.then, Exit.inBlock, ↓reduceIte, Nat.reduceEqDiff])
   refine hK24 _ _ ?_
   (try clear hK24 K24)
   refine wp_seq_k ?_
   intro K148 hK148
   refine wrt [.p 0, .q 1, .p 2] ?_
   refine pp rfl rfl (pr_slice_arr_all rfl Tryd.underlying87 sz5) ?_;simp only [nf]
   (try simp only [Nat.mul_one, Nat.zero_add, Nat.add_sub_cancel_left])
   refine pq rfl rfl (qr_b2s (Sl.of_arr8 (hH.blk 0 rfl) (by first | omega | (exact Nat.lt_of_lt_of_le (lt_u8 _) (by omega))) (by first | omega | (exact Nat.lt_of_lt_of_le (lt_u8 _) (by omega)))) rfl Tryd.underlying22 Tryd.underlying5 Tryd.underlying9) ?_;simp only [nf]
   refine pa ?_;simp only [nf]
   refine plan_nil hH ?_
   clear hH
   intro w149 hH
   refine hK148 _ _ ?_
   (try clear hK148 K148)
   refine wp_ret ?_
   (try simp only [Exit.then, Exit.inBlock, ↓reduceIte, Nat.reduceEqDiff])
   refine BP.ret1 rfl rfl ?_
   obtain rfl : r = 10 := by omega
   exact ⟨rfl, hH.chg⟩

end Go.Proofs.YtmoaddicejohgaaDoor
