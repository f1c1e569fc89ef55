/- Walks of the document's layer 4: bits, Times, Xor, whole, count, Sum, seal. No further conditions. -/
import Derived.Test.YtmoaddicejohgaaDoorGcmP
import Derived.Test.YtmoaddicejohgaaDoorAes9
set_option linter.unusedSimpArgs false
set_option linter.unusedVariables false
set_option maxRecDepth 100000
set_option maxHeartbeats 4000000
namespace Go.Proofs.YtmoaddicejohgaaDoor
open Go
open List (getD_cons_zero getD_cons_succ set_cons_zero set_cons_succ)

theorem bits_calls (s : ByteArray) (hs : s.size = 16) (w : World) : Ret Tryd.prog 78 #[.string s] w fun v w' => v = .agg (arrB 128 (bitF (fun i => s.data.toList.getD i 0))) ∧ Chg [] w w' := by
 refine Ret.enter Tryd.func78 rfl ?_
 simp only [Tryd.ntmps78, fe, Nat.reduceAdd, Nat.reduceSub]
 have hH := Hp.start [] w
 refine wp_seq_k ?_
 intro K1 hK1
 refine wrt [.x 0] ?_
 refine plan_alloc rfl rfl hH zc130 ?_
 clear hH
 intro b2 w3 hH
 (try simp only [nf, nh, Value.cells, arrB_set] at hH ⊢)
 refine plan_nil hH ?_
 clear hH
 intro w4 hH
 refine hK1 _ _ ?_
 (try clear hK1 K1)
 refine wp_seq_k ?_
 intro K5 hK5
 refine wrt [.x 0] ?_
 refine plan_alloc rfl rfl hH zc130 ?_
 clear hH
 intro b6 w7 hH
 (try simp only [nf, nh, Value.cells, arrB_set] at hH ⊢)
 refine plan_nil hH ?_
 clear hH
 intro w8 hH
 refine hK5 _ _ ?_
 (try clear hK5 K5)
 refine wp_seq_k ?_
 intro K9 hK9
 refine wp_seq_k ?_
 intro K10 hK10
 refine wrt [.p 0] ?_
 refine pka 0 ?_;simp only [nf]
 refine plan_nil hH ?_
 clear hH
 intro w11 hH
 refine hK10 _ _ ?_
 (try clear hK10 K10)
 refine wp_block ?_
 obtain ⟨kc12, hkc13, hN⟩ := hH.name 0 rfl
 replace hH := hN; clear hN; simp only [List.set_cons_zero, List.set_cons_succ] at hH
 refine wp_loopT [4] [5, 6, 7, 8, 9, 10, 11, 12, 13, 14, 15, 16, 17, 18, 19, 20] (fun (n14 : Nat) (vs : List Value) (w' : World) => ∃ (i : Nat), vs = [I64 (i : Nat)] ∧ Hp [] w w' [(some b2, 130, kc12), (some b6, 130, arrB 128 fun j => if j < i then bitF (fun i => s.data.toList.getD i 0) j else false)] ∧ n14 = 128 - i ∧ i ≤ 128) (128 - 0) (by kernel_rfl) ?_ ?_
 ·
  simp only [ga]
  refine ⟨0, rfl, ?_, rfl, ?_⟩
  ·
   exact hH.say 1 rfl (arrB_congr fun j hj => by rw [if_neg (by omega)])
  · first | omega | (omega)
 clear hH
 intro n14 vs15 w16 hR17 d0
 obtain ⟨i, rfl, hH, hn18, hf19⟩ := hR17
 simp only [putAll, putD, List.set_cons_zero, List.set_cons_succ, Nat.zero_add, Nat.reduceAdd]
 subst hkc13
 refine wp_seq_k ?_
 intro K20 hK20
 refine wp_seq_k ?_
 intro K21 hK21
 refine wrt [.p 0, .p 1] ?_
 refine pm ?_;simp only [nf]
 refine pp rfl rfl (pr_bin rfl rfl (by first | exact bin_lss_n (n := 128)  | exact bin_lss_i)) ?_;simp only [nf]
 refine plan_nil hH ?_
 clear hH
 intro w22 hH
 refine hK21 _ _ ?_
 (try clear hK21 K21)
 refine wp_cond_split rfl (fun hc23 => ?_) (fun hc23 => ?_)
 ·
  (try simp only [cnd] at hc23)
  refine wp_skip ?_
  refine hK20 _ _ ?_
  (try clear hK20 K20)
  refine wp_seq_k ?_
  intro K24 hK24
  refine wp_block ?_
  refine wrt [.p 0, .p 1, .p 2, .p 3, .p 4, .p 5, .p 6, .p 7, .p 8, .p 9, .p 10, .p 11, .e 12] ?_
  refine pm (pm (pm ?_));simp only [nf]
  refine pp rfl rfl (pr_bin rfl rfl (by first | exact bin_quo_n (n := 8) (by omega) (by omega))) ?_;simp only [nf]
  refine pp rfl rfl (pr_index_str rfl rfl Tryd.underlying9 (by omega)) ?_;simp only [nf]
  refine pm ?_;simp only [nf]
  refine pp rfl rfl (pr_bin rfl rfl (by first | exact bin_rem_n (n := 8) (by omega))) ?_;simp only [nf]
  refine pp rfl rfl (pr_bin rfl rfl (by first | exact bin_sub_n (m := 7) (by omega) (by omega) | exact bin_sub_i (by omega) (by omega))) ?_;simp only [nf]
  refine pp rfl rfl (pr_bin rfl rfl (bin_shr_u8 _ _ _)) ?_;simp only [nf]
  refine pp rfl rfl (pr_bin rfl rfl (bin_rem_u8 _ 2 (by decide))) ?_;simp only [nf]
  refine pp rfl rfl (pr_bin rfl rfl (bin_eql_u8 _ 1)) ?_;simp only [nf]
  refine pp rfl rfl (pr_idxA1 rfl rfl Tryd.underlying130 sz4 (by omega)) ?_;simp only [nf]
  refine plan_store1 1 rfl rfl hH rfl rfl rfl rfl sz4 (by simp <;> omega) ?_
  clear hH
  intro w25 hH
  (try simp only [nf, nh, Value.cells, arrB_set] at hH ⊢)
  refine plan_nil hH ?_
  clear hH
  intro w26 hH
  refine hK24 _ _ ?_
  (try clear hK24 K24)
  refine wrt [.p 0, .p 1, .p 2] ?_
  refine pm ?_;simp only [nf]
  refine pp rfl rfl (pr_bin rfl rfl (by first | exact bin_add_n (n := 1) (by omega) | exact bin_add_i (by omega) (by omega))) ?_;simp only [nf]
  refine pa ?_;simp only [nf]
  refine plan_nil hH ?_
  clear hH
  intro w27 hH
  (try simp only [Exit.then, Exit.inBlock, ↓reduceIte, Nat.reduceEqDiff])
  refine ⟨128 - (i + 1), ?_, _, rfl, by kernel_rfl, ?_⟩
  · first | omega | (omega)
  simp only [ga]
  refine ⟨i + 1, rfl, ?_, rfl, ?_⟩
  ·
   simp only [str_at] at hH
   exact hH.say 1 rfl (arrB_congr fun j hj => upd_lt (g := bitF (fun i => s.data.toList.getD i 0)) (z := fun _ => false) rfl j)
  · first | omega | (omega)
 ·
  (try simp only [cnd] at hc23)
  refine wp_exit ?_
  (try simp only [Exit.then, Exit.inBlock, ↓reduceIte, Nat.reduceEqDiff])
  refine hK9 _ _ ?_
  (try clear hK9 K9)
  refine wp_seq_k ?_
  intro K28 hK28
  refine wrt [.q 0, .e 1] ?_
  refine pq rfl rfl (qr_loadW rfl (hH.blk 1 rfl) Tryd.underlying130 rfl sz130 (by simp)) ?_;simp only [nf]
  refine plan_storeW 0 rfl rfl hH rfl rfl rfl one_arrB sz130 (by simp) (by simp) ?_
  clear hH
  intro w29 hH
  (try simp only [nf, nh, Value.cells, arrB_set] at hH ⊢)
  refine plan_nil hH ?_
  clear hH
  intro w30 hH
  refine hK28 _ _ ?_
  (try clear hK28 K28)
  refine wp_ret ?_
  (try simp only [Exit.then, Exit.inBlock, ↓reduceIte, Nat.reduceEqDiff])
  refine BP.retc rfl rfl (hH.blk 0 rfl) Tryd.underlying130 rfl sz130 (by simp) ?_
  obtain rfl : i = 128 := by omega
  exact ⟨by rw [arrB_congr fun i hi => if_pos (by omega)], hH.chg⟩

/-- The bytes of a block of two words. -/
def strP (p : P2) : ByteArray := ⟨((List.range 16).map (nbP p)).toArray⟩

theorem refTimes_calls (a b : ByteArray) (ha : a.size = 16) (hb : b.size = 16) (w : World) : Ret Tryd.prog 73 #[.string a, .string b] w fun v w' => v = .string (strP (mulP (ofP (fun i => a.data.toList.getD i 0)) (ofP (fun i => b.data.toList.getD i 0)))) ∧ Chg [] w w' := by
 refine Ret.enter Tryd.func73 rfl ?_
 simp only [Tryd.ntmps73, fe, Nat.reduceAdd, Nat.reduceSub]
 have hH := Hp.start [] w
 refine wp_seq_k ?_
 intro K1 hK1
 refine wrt [.p 0] ?_
 refine pa ?_;simp only [nf]
 refine plan_nil hH ?_
 clear hH
 intro w2 hH
 refine hK1 _ _ ?_
 (try clear hK1 K1)
 refine wp_seq_k ?_
 intro K3 hK3
 refine wrt [.p 0, .q 1, .p 2, .q 3, .x 4, .x 5, .e 6, .e 7] ?_
 refine pm ?_;simp only [nf]
 refine pq rfl rfl (qr_call cf78 (fun w' hw => bits_calls _ (by assumption) w') rfl) ?_;simp only [nf]
 refine pm ?_;simp only [nf]
 refine pq rfl rfl (qr_call cf78 (fun w' hw => bits_calls _ (by assumption) w') rfl) ?_;simp only [nf]
 refine plan_alloc rfl rfl hH zc130 ?_
 clear hH
 intro b4 w5 hH
 (try simp only [nf, nh, Value.cells, arrB_set] at hH ⊢)
 refine plan_alloc rfl rfl hH zc130 ?_
 clear hH
 intro b6 w7 hH
 (try simp only [nf, nh, Value.cells, arrB_set] at hH ⊢)
 refine plan_storeW 0 rfl rfl hH rfl rfl rfl one_arrB sz130 (by simp) (by simp) ?_
 clear hH
 intro w8 hH
 (try simp only [nf, nh, Value.cells, arrB_set] at hH ⊢)
 refine plan_storeW 1 rfl rfl hH rfl rfl rfl one_arrB sz130 (by simp) (by simp) ?_
 clear hH
 intro w9 hH
 (try simp only [nf, nh, Value.cells, arrB_set] at hH ⊢)
 refine plan_nil hH ?_
 clear hH
 intro w10 hH
 refine hK3 _ _ ?_
 (try clear hK3 K3)
 refine wp_seq_k ?_
 intro K11 hK11
 refine wrt [.x 0] ?_
 refine plan_alloc rfl rfl hH zc132 ?_
 clear hH
 intro b12 w13 hH
 (try simp only [nf, nh, Value.cells, arrB_set] at hH ⊢)
 refine plan_nil hH ?_
 clear hH
 intro w14 hH
 refine hK11 _ _ ?_
 (try clear hK11 K11)
 refine wp_seq_k ?_
 intro K15 hK15
 refine wp_seq_k ?_
 intro K16 hK16
 refine wrt [.p 0] ?_
 refine pka 0 ?_;simp only [nf]
 refine plan_nil hH ?_
 clear hH
 intro w17 hH
 refine hK16 _ _ ?_
 (try clear hK16 K16)
 refine wp_block ?_
 obtain ⟨kc18, hkc19, hN⟩ := hH.name 0 rfl
 replace hH := hN; clear hN; simp only [List.set_cons_zero, List.set_cons_succ] at hH
 obtain ⟨kc20, hkc21, hN⟩ := hH.name 1 rfl
 replace hH := hN; clear hN; simp only [List.set_cons_zero, List.set_cons_succ] at hH
 refine wp_loopT [8] [9, 17, 18, 19, 20, 21, 22, 23, 24, 25, 26, 27, 28, 29, 30, 31, 32, 33, 34, 35, 36, 37, 38, 39, 40, 41, 42] (fun (n22 : Nat) (vs : List Value) (w' : World) => ∃ (i : Nat) (p : Nat → Bool), vs = [I64 (i : Nat)] ∧ Hp [] w w' [(some b4, 130, kc18), (some b6, 130, kc20), (some b12, 132, arrB 256 p)] ∧ n22 = 128 - i ∧ i ≤ 128 ∧ vN p 256 = rowsN (bitF (fun i => a.data.toList.getD i 0)) (bitF (fun i => b.data.toList.getD i 0)) i) (128 - 0) (by kernel_rfl) ?_ ?_
 ·
  simp only [ga]
  refine ⟨0, fun _ => false, rfl, ?_, rfl, ?_, ?_⟩
  ·
   exact hH
  · first | omega | (omega)
  · first | omega | (exact (vN_congr (q := fun _ => false) fun _ _ => rfl).trans (xs_zero 256))
 clear hH
 intro n22 vs23 w24 hR25 d0
 obtain ⟨i, p, rfl, hH, hn26, hf27, hV⟩ := hR25
 simp only [putAll, putD, List.set_cons_zero, List.set_cons_succ, Nat.zero_add, Nat.reduceAdd]
 subst hkc19 hkc21
 refine wp_seq_k ?_
 intro K28 hK28
 refine wp_seq_k ?_
 intro K29 hK29
 refine wrt [.p 0, .p 1] ?_
 refine pm ?_;simp only [nf]
 refine pp rfl rfl (pr_bin rfl rfl (by first | exact bin_lss_n (n := 128)  | exact bin_lss_i)) ?_;simp only [nf]
 refine plan_nil hH ?_
 clear hH
 intro w30 hH
 refine hK29 _ _ ?_
 (try clear hK29 K29)
 refine wp_cond_split rfl (fun hc31 => ?_) (fun hc31 => ?_)
 ·
  (try simp only [cnd] at hc31)
  refine wp_skip ?_
  refine hK28 _ _ ?_
  (try clear hK28 K28)
  refine wp_seq_k ?_
  intro K32 hK32
  refine wp_block ?_
  refine wp_seq_k ?_
  intro K33 hK33
  refine wrt [.p 0] ?_
  refine pka 0 ?_;simp only [nf]
  refine plan_nil hH ?_
  clear hH
  intro w34 hH
  refine hK33 _ _ ?_
  (try clear hK33 K33)
  refine wp_block ?_
  obtain ⟨kc35, hkc36, hN⟩ := hH.name 0 rfl
  replace hH := hN; clear hN; simp only [List.set_cons_zero, List.set_cons_succ] at hH
  obtain ⟨kc37, hkc38, hN⟩ := hH.name 1 rfl
  replace hH := hN; clear hN; simp only [List.set_cons_zero, List.set_cons_succ] at hH
  refine wp_loopT [9] [21, 22, 23, 24, 25, 26, 27, 28, 29, 30, 31, 32, 33, 34, 35, 36, 37, 38, 39, 40, 41, 42] (fun (n39 : Nat) (vs : List Value) (w' : World) => ∃ (k : Nat) (p : Nat → Bool), vs = [I64 (k : Nat)] ∧ Hp [] w w' [(some b4, 130, kc35), (some b6, 130, kc37), (some b12, 132, arrB 256 p)] ∧ n39 = 128 - k ∧ k ≤ 128 ∧ vN p 256 = partN (bitF (fun i => a.data.toList.getD i 0)) (bitF (fun i => b.data.toList.getD i 0)) i k) (128 - 0) (by kernel_rfl) ?_ ?_
  ·
   simp only [ga]
   refine ⟨0, p, rfl, ?_, rfl, ?_, ?_⟩
   ·
    exact hH
   · first | omega | (omega)
   · first | omega | (rw [part_zero]; exact hV)
  clear hH
  intro n39 vs40 w41 hR42 d1
  obtain ⟨k, p, rfl, hH, hn43, hf44, hV⟩ := hR42
  simp only [putAll, putD, List.set_cons_zero, List.set_cons_succ, Nat.zero_add, Nat.reduceAdd]
  subst hkc36 hkc38
  refine wp_seq_k ?_
  intro K45 hK45
  refine wp_seq_k ?_
  intro K46 hK46
  rcases Nat.lt_or_ge k 128 with hk | hk
  ·
   refine wrt [.p 0, .p 1, .p 2, .p 3, .p 4, .q 5, .p 6] ?_
   refine pm ?_;simp only [nf]
   refine pp rfl rfl (pr_bin rfl rfl (by first | exact bin_lss_n (n := 128)  | exact bin_lss_i)) ?_;simp only [nf]
   refine plan_p (v := BV true) rfl rfl (pr_move_v (by show BV _ = _; exact congrArg BV (decide_eq_true hk))) ?_
   (try simp only [nf])
   refine pp rfl rfl pr_move ?_;simp only [nf]
   refine pp rfl rfl (pr_idxA1 rfl rfl Tryd.underlying130 sz4 (by first | omega | ((simp only [outL, List.length_map, List.length_range]; omega)))) ?_;simp only [nf]
   refine pq rfl rfl (qr_load1 rfl Tryd.underlying4 rfl ((hH.blk 0 rfl).cell (arrB_get (by first | omega | ((simp only [outL, List.length_map, List.length_range]; omega)))))) ?_;simp only [nf]
   refine pp rfl rfl (pr_pick_t rfl) ?_;simp only [nf]
   refine plan_nil hH ?_
   clear hH
   intro w47 hH
   refine hK46 _ _ ?_
   (try clear hK46 K46)
   refine wp_cond_split rfl (fun hc48 => ?_) (fun hc48 => ?_)
   ·
    (try simp only [cnd] at hc48)
    have hx := hc48
    refine wp_skip ?_
    refine hK45 _ _ ?_
    (try clear hK45 K45)
    refine wp_seq_k ?_
    intro K49 hK49
    refine wp_block ?_
    refine wp_seq_k ?_
    intro K50 hK50
    refine wrt [.p 0, .p 1, .q 2] ?_
    refine pm ?_;simp only [nf]
    refine pp rfl rfl (pr_idxA1 rfl rfl Tryd.underlying130 sz4 (by first | omega | ((simp only [outL, List.length_map, List.length_range]; omega)))) ?_;simp only [nf]
    refine pq rfl rfl (qr_load1 rfl Tryd.underlying4 rfl ((hH.blk 1 rfl).cell (arrB_get (by first | omega | ((simp only [outL, List.length_map, List.length_range]; omega)))))) ?_;simp only [nf]
    refine plan_nil hH ?_
    clear hH
    intro w51 hH
    refine hK50 _ _ ?_
    (try clear hK50 K50)
    refine wp_cond_split rfl (fun hc52 => ?_) (fun hc52 => ?_)
    ·
     (try simp only [cnd] at hc52)
     refine wrt [.p 0, .p 1, .p 2, .p 3, .p 4, .p 5, .p 6, .q 7, .p 8, .p 9, .e 10] ?_
     refine pm (pm ?_);simp only [nf]
     refine pp rfl rfl (pr_bin rfl rfl (by first | exact bin_add_n (by first | omega | ((simp only [outL, List.length_map, List.length_range]; omega))) | exact bin_add_i (by first | omega | ((simp only [outL, List.length_map, List.length_range]; omega))) (by first | omega | ((simp only [outL, List.length_map, List.length_range]; omega))))) ?_;simp only [nf]
     refine pm (pm ?_);simp only [nf]
     refine pp rfl rfl (pr_bin rfl rfl (by first | exact bin_add_n (by first | omega | ((simp only [outL, List.length_map, List.length_range]; omega))) | exact bin_add_i (by first | omega | ((simp only [outL, List.length_map, List.length_range]; omega))) (by first | omega | ((simp only [outL, List.length_map, List.length_range]; omega))))) ?_;simp only [nf]
     refine pp rfl rfl (pr_idxA1 rfl rfl Tryd.underlying132 sz4 (by first | omega | ((simp only [outL, List.length_map, List.length_range]; omega)))) ?_;simp only [nf]
     refine pq rfl rfl (qr_load1 rfl Tryd.underlying4 rfl ((hH.blk 2 rfl).cell (arrB_get (by first | omega | ((simp only [outL, List.length_map, List.length_range]; omega)))))) ?_;simp only [nf]
     refine pp rfl rfl (pr_not rfl) ?_;simp only [nf]
     refine pp rfl rfl (pr_idxA1 rfl rfl Tryd.underlying132 sz4 (by first | omega | ((simp only [outL, List.length_map, List.length_range]; omega)))) ?_;simp only [nf]
     refine plan_store1 2 rfl rfl hH rfl rfl rfl rfl sz4 (by simp <;> omega) ?_
     clear hH
     intro w53 hH
     (try simp only [nf, nh, Value.cells, arrB_set] at hH ⊢)
     refine plan_nil hH ?_
     clear hH
     intro w54 hH
     refine hK49 _ _ ?_
     (try clear hK49 K49)
     refine wrt [.p 0, .p 1, .p 2] ?_
     refine pm ?_;simp only [nf]
     refine pp rfl rfl (pr_bin rfl rfl (by first | exact bin_add_n (n := 1) (by first | omega | ((simp only [outL, List.length_map, List.length_range]; omega))) | exact bin_add_i (by first | omega | ((simp only [outL, List.length_map, List.length_range]; omega))) (by first | omega | ((simp only [outL, List.length_map, List.length_range]; omega))))) ?_;simp only [nf]
     refine pa ?_;simp only [nf]
     refine plan_nil hH ?_
     clear hH
     intro w55 hH
     (try simp only [Exit.then, Exit.inBlock, ↓reduceIte, Nat.reduceEqDiff])
     refine ⟨128 - (k + 1), ?_, _, rfl, by kernel_rfl, ?_⟩
     · first | omega | (omega)
     simp only [ga]
     refine ⟨k + 1, upd p (i + k) (!p (i + k)), rfl, ?_, rfl, ?_, ?_⟩
     ·
      exact hH
     · first | omega | (omega)
     · first | omega | (first | (rw [vN_flip (by omega), hV]; exact part_step _ _ _ _ hx (by assumption)) | (rw [hV]; exact part_same _ _ _ _ (by assumption)))
    ·
     (try simp only [cnd] at hc52)
     refine wp_skip ?_
     refine hK49 _ _ ?_
     (try clear hK49 K49)
     refine wrt [.p 0, .p 1, .p 2] ?_
     refine pm ?_;simp only [nf]
     refine pp rfl rfl (pr_bin rfl rfl (by first | exact bin_add_n (n := 1) (by first | omega | ((simp only [outL, List.length_map, List.length_range]; omega))) | exact bin_add_i (by first | omega | ((simp only [outL, List.length_map, List.length_range]; omega))) (by first | omega | ((simp only [outL, List.length_map, List.length_range]; omega))))) ?_;simp only [nf]
     refine pa ?_;simp only [nf]
     refine plan_nil hH ?_
     clear hH
     intro w56 hH
     (try simp only [Exit.then, Exit.inBlock, ↓reduceIte, Nat.reduceEqDiff])
     refine ⟨128 - (k + 1), ?_, _, rfl, by kernel_rfl, ?_⟩
     · first | omega | (omega)
     simp only [ga]
     refine ⟨k + 1, p, rfl, ?_, rfl, ?_, ?_⟩
     ·
      exact hH
     · first | omega | (omega)
     · first | omega | (first | (rw [vN_flip (by omega), hV]; exact part_step _ _ _ _ hx (by assumption)) | (rw [hV]; exact part_same _ _ _ _ (by assumption)))
   ·
    (try simp only [cnd] at hc48)
    have hnew : vN p 256 = rowsN _ _ (i + 1) := hV.trans (part_off _ _ _ _ (by assumption))
    refine wp_exit ?_
    (try simp only [Exit.then, Exit.inBlock, ↓reduceIte, Nat.reduceEqDiff])
    refine hK32 _ _ ?_
    (try clear hK32 K32)
    refine wrt [.p 0, .p 1, .p 2] ?_
    refine pm ?_;simp only [nf]
    refine pp rfl rfl (pr_bin rfl rfl (by first | exact bin_add_n (n := 1) (by first | omega | ((simp only [outL, List.length_map, List.length_range]; omega))) | exact bin_add_i (by first | omega | ((simp only [outL, List.length_map, List.length_range]; omega))) (by first | omega | ((simp only [outL, List.length_map, List.length_range]; omega))))) ?_;simp only [nf]
    refine pa ?_;simp only [nf]
    refine plan_nil hH ?_
    clear hH
    intro w57 hH
    (try simp only [Exit.then, Exit.inBlock, ↓reduceIte, Nat.reduceEqDiff])
    refine ⟨128 - (i + 1), ?_, _, rfl, by kernel_rfl, ?_⟩
    · first | omega | (omega)
    simp only [ga]
    refine ⟨i + 1, p, rfl, ?_, rfl, ?_, ?_⟩
    ·
     exact hH
    · first | omega | (omega)
    · first | omega | (exact hnew)
  ·
   obtain rfl : k = 128 := by omega
   have hnew : vN p 256 = rowsN _ _ (i + 1) := hV.trans (part_end _ _ _)
   refine wrt [.p 0, .p 1, .p 2, .p 3, .p 4, .q 5, .p 6] ?_
   refine pm ?_;simp only [nf]
   refine pp rfl rfl (pr_bin rfl rfl (by first | exact bin_lss_n (n := 128)  | exact bin_lss_i)) ?_;simp only [nf]
   refine plan_p (v := BV false) rfl rfl (pr_move_v (by show BV _ = _; exact congrArg BV (decide_eq_false (by omega)))) ?_
   (try simp only [nf])
   refine plan_ps rfl rfl ?_
   (try simp only [nf])
   refine plan_ps rfl rfl ?_
   (try simp only [nf])
   refine plan_qs rfl rfl ?_
   (try simp only [nf])
   refine pp rfl rfl (pr_pick_f rfl) ?_;simp only [nf]
   refine plan_nil hH ?_
   clear hH
   intro w58 hH
   refine hK46 _ _ ?_
   (try clear hK46 K46)
   refine wp_cond_false rfl ?_
   refine wp_exit ?_
   (try simp only [Exit.then, Exit.inBlock, ↓reduceIte, Nat.reduceEqDiff])
   refine hK32 _ _ ?_
   (try clear hK32 K32)
   refine wrt [.p 0, .p 1, .p 2] ?_
   refine pm ?_;simp only [nf]
   refine pp rfl rfl (pr_bin rfl rfl (by first | exact bin_add_n (n := 1) (by first | omega | ((simp only [outL, List.length_map, List.length_range]; omega))) | exact bin_add_i (by first | omega | ((simp only [outL, List.length_map, List.length_range]; omega))) (by first | omega | ((simp only [outL, List.length_map, List.length_range]; omega))))) ?_;simp only [nf]
   refine pa ?_;simp only [nf]
   refine plan_nil hH ?_
   clear hH
   intro w59 hH
   (try simp only [Exit.then, Exit.inBlock, ↓reduceIte, Nat.reduceEqDiff])
   refine ⟨128 - (i + 1), ?_, _, rfl, by kernel_rfl, ?_⟩
   · first | omega | (omega)
   simp only [ga]
   refine ⟨i + 1, p, rfl, ?_, rfl, ?_, ?_⟩
   ·
    exact hH
   · first | omega | (omega)
   · first | omega | (exact hnew)
 ·
  (try simp only [cnd] at hc31)
  refine wp_exit ?_
  (try simp only [Exit.then, Exit.inBlock, ↓reduceIte, Nat.reduceEqDiff])
  refine hK15 _ _ ?_
  (try clear hK15 K15)
  refine wp_seq_k ?_
  intro K60 hK60
  refine wp_seq_k ?_
  intro K61 hK61
  refine wrt [.p 0] ?_
  refine pka 255 ?_;simp only [nf]
  refine plan_nil hH ?_
  clear hH
  intro w62 hH
  refine hK61 _ _ ?_
  (try clear hK61 K61)
  refine wp_block ?_
  obtain ⟨kc63, hkc64, hN⟩ := hH.name 0 rfl
  replace hH := hN; clear hN; simp only [List.set_cons_zero, List.set_cons_succ] at hH
  obtain ⟨kc65, hkc66, hN⟩ := hH.name 1 rfl
  replace hH := hN; clear hN; simp only [List.set_cons_zero, List.set_cons_succ] at hH
  refine wp_loopT [10] [43, 44, 45, 46, 47, 48, 49, 50, 51, 52, 53, 54, 55, 56, 57, 58, 59, 60, 61, 62, 63, 64, 65, 66, 67, 68, 69, 70, 71, 72, 73, 74, 75, 76, 77, 78, 79, 80, 81] (fun (n67 : Nat) (vs : List Value) (w' : World) => ∃ (j : Nat) (p : Nat → Bool), vs = [I64 (j : Nat)] ∧ Hp [] w w' [(some b4, 130, kc63), (some b6, 130, kc65), (some b12, 132, arrB 256 p)] ∧ n67 = j - 127 ∧ 127 ≤ j ∧ j ≤ 255 ∧ vN p (j + 1) = pw (mulP (ofP (fun i => a.data.toList.getD i 0)) (ofP (fun i => b.data.toList.getD i 0)))) (255 - 127) (by kernel_rfl) ?_ ?_
  ·
   simp only [ga]
   refine ⟨255, p, rfl, ?_, rfl, ?_, ?_, ?_⟩
   ·
    exact hH
   · first | omega | (omega)
   · first | omega | (omega)
   · first | omega | (obtain rfl : i = 128 := (by omega); exact hV.trans (rows_all _ _))
  clear hH
  intro n67 vs68 w69 hR70 d2
  obtain ⟨j, p, rfl, hH, hn71, hf72, hf73, hV⟩ := hR70
  simp only [putAll, putD, List.set_cons_zero, List.set_cons_succ, Nat.zero_add, Nat.reduceAdd]
  subst hkc64 hkc66
  refine wp_seq_k ?_
  intro K74 hK74
  refine wp_seq_k ?_
  intro K75 hK75
  refine wrt [.p 0, .p 1] ?_
  refine pm ?_;simp only [nf]
  refine pp rfl rfl (pr_bin rfl rfl (by first | exact bin_geq_n (n := 128)  | exact bin_geq_i)) ?_;simp only [nf]
  refine plan_nil hH ?_
  clear hH
  intro w76 hH
  refine hK75 _ _ ?_
  (try clear hK75 K75)
  refine wp_cond_split rfl (fun hc77 => ?_) (fun hc77 => ?_)
  ·
   (try simp only [cnd] at hc77)
   refine wp_skip ?_
   refine hK74 _ _ ?_
   (try clear hK74 K74)
   refine wp_seq_k ?_
   intro K78 hK78
   refine wp_block ?_
   refine wp_seq_k ?_
   intro K79 hK79
   refine wrt [.p 0, .p 1, .q 2] ?_
   refine pm ?_;simp only [nf]
   refine pp rfl rfl (pr_idxA1 rfl rfl Tryd.underlying132 sz4 (by first | omega | ((simp only [outL, List.length_map, List.length_range]; omega)))) ?_;simp only [nf]
   refine pq rfl rfl (qr_load1 rfl Tryd.underlying4 rfl ((hH.blk 2 rfl).cell (arrB_get (by first | omega | ((simp only [outL, List.length_map, List.length_range]; omega)))))) ?_;simp only [nf]
   refine plan_nil hH ?_
   clear hH
   intro w80 hH
   refine hK79 _ _ ?_
   (try clear hK79 K79)
   refine wp_cond_split rfl (fun hc81 => ?_) (fun hc81 => ?_)
   ·
    (try simp only [cnd] at hc81)
    refine wp_seq_k ?_
    intro K82 hK82
    refine wrt [.p 0, .p 1, .p 2, .p 3, .p 4, .q 5, .p 6, .p 7, .e 8] ?_
    refine pm ?_;simp only [nf]
    refine pp rfl rfl (pr_bin rfl rfl (by first | exact bin_sub_n (n := 128) (by first | omega | ((simp only [outL, List.length_map, List.length_range]; omega))) (by first | omega | ((simp only [outL, List.length_map, List.length_range]; omega))) | exact bin_sub_i (by first | omega | ((simp only [outL, List.length_map, List.length_range]; omega))) (by first | omega | ((simp only [outL, List.length_map, List.length_range]; omega))))) ?_;simp only [nf]
    refine pm ?_;simp only [nf]
    refine pp rfl rfl (pr_bin rfl rfl (by first | exact bin_sub_n (n := 128) (by first | omega | ((simp only [outL, List.length_map, List.length_range]; omega))) (by first | omega | ((simp only [outL, List.length_map, List.length_range]; omega))) | exact bin_sub_i (by first | omega | ((simp only [outL, List.length_map, List.length_range]; omega))) (by first | omega | ((simp only [outL, List.length_map, List.length_range]; omega))))) ?_;simp only [nf]
    refine pp rfl rfl (pr_idxA1 rfl rfl Tryd.underlying132 sz4 (by first | omega | ((simp only [outL, List.length_map, List.length_range]; omega)))) ?_;simp only [nf]
    refine pq rfl rfl (qr_load1 rfl Tryd.underlying4 rfl ((hH.blk 2 rfl).cell (arrB_get (by first | omega | ((simp only [outL, List.length_map, List.length_range]; omega)))))) ?_;simp only [nf]
    refine pp rfl rfl (pr_not rfl) ?_;simp only [nf]
    refine pp rfl rfl (pr_idxA1 rfl rfl Tryd.underlying132 sz4 (by first | omega | ((simp only [outL, List.length_map, List.length_range]; omega)))) ?_;simp only [nf]
    refine plan_store1 2 rfl rfl hH rfl rfl rfl rfl sz4 (by simp <;> omega) ?_
    clear hH
    intro w83 hH
    (try simp only [nf, nh, Value.cells, arrB_set] at hH ⊢)
    refine plan_nil hH ?_
    clear hH
    intro w84 hH
    refine hK82 _ _ ?_
    (try clear hK82 K82)
    refine wp_seq_k ?_
    intro K85 hK85
    refine wrt [.p 0, .p 1, .p 2, .p 3, .p 4, .q 5, .p 6, .p 7, .e 8] ?_
    refine pm ?_;simp only [nf]
    refine pp rfl rfl (pr_bin rfl rfl (by first | exact bin_sub_n (n := 127) (by first | omega | ((simp only [outL, List.length_map, List.length_range]; omega))) (by first | omega | ((simp only [outL, List.length_map, List.length_range]; omega))) | exact bin_sub_i (by first | omega | ((simp only [outL, List.length_map, List.length_range]; omega))) (by first | omega | ((simp only [outL, List.length_map, List.length_range]; omega))))) ?_;simp only [nf]
    refine pm ?_;simp only [nf]
    refine pp rfl rfl (pr_bin rfl rfl (by first | exact bin_sub_n (n := 127) (by first | omega | ((simp only [outL, List.length_map, List.length_range]; omega))) (by first | omega | ((simp only [outL, List.length_map, List.length_range]; omega))) | exact bin_sub_i (by first | omega | ((simp only [outL, List.length_map, List.length_range]; omega))) (by first | omega | ((simp only [outL, List.length_map, List.length_range]; omega))))) ?_;simp only [nf]
    refine pp rfl rfl (pr_idxA1 rfl rfl Tryd.underlying132 sz4 (by first | omega | ((simp only [outL, List.length_map, List.length_range]; omega)))) ?_;simp only [nf]
    refine pq rfl rfl (qr_load1 rfl Tryd.underlying4 rfl ((hH.blk 2 rfl).cell (arrB_get (by first | omega | ((simp only [outL, List.length_map, List.length_range]; omega)))))) ?_;simp only [nf]
    refine pp rfl rfl (pr_not rfl) ?_;simp only [nf]
    refine pp rfl rfl (pr_idxA1 rfl rfl Tryd.underlying132 sz4 (by first | omega | ((simp only [outL, List.length_map, List.length_range]; omega)))) ?_;simp only [nf]
    refine plan_store1 2 rfl rfl hH rfl rfl rfl rfl sz4 (by simp <;> omega) ?_
    clear hH
    intro w86 hH
    (try simp only [nf, nh, Value.cells, arrB_set] at hH ⊢)
    refine plan_nil hH ?_
    clear hH
    intro w87 hH
    refine hK85 _ _ ?_
    (try clear hK85 K85)
    refine wp_seq_k ?_
    intro K88 hK88
    refine wrt [.p 0, .p 1, .p 2, .p 3, .p 4, .q 5, .p 6, .p 7, .e 8] ?_
    refine pm ?_;simp only [nf]
    refine pp rfl rfl (pr_bin rfl rfl (by first | exact bin_sub_n (n := 126) (by first | omega | ((simp only [outL, List.length_map, List.length_range]; omega))) (by first | omega | ((simp only [outL, List.length_map, List.length_range]; omega))) | exact bin_sub_i (by first | omega | ((simp only [outL, List.length_map, List.length_range]; omega))) (by first | omega | ((simp only [outL, List.length_map, List.length_range]; omega))))) ?_;simp only [nf]
    refine pm ?_;simp only [nf]
    refine pp rfl rfl (pr_bin rfl rfl (by first | exact bin_sub_n (n := 126) (by first | omega | ((simp only [outL, List.length_map, List.length_range]; omega))) (by first | omega | ((simp only [outL, List.length_map, List.length_range]; omega))) | exact bin_sub_i (by first | omega | ((simp only [outL, List.length_map, List.length_range]; omega))) (by first | omega | ((simp only [outL, List.length_map, List.length_range]; omega))))) ?_;simp only [nf]
    refine pp rfl rfl (pr_idxA1 rfl rfl Tryd.underlying132 sz4 (by first | omega | ((simp only [outL, List.length_map, List.length_range]; omega)))) ?_;simp only [nf]
    refine pq rfl rfl (qr_load1 rfl Tryd.underlying4 rfl ((hH.blk 2 rfl).cell (arrB_get (by first | omega | ((simp only [outL, List.length_map, List.length_range]; omega)))))) ?_;simp only [nf]
    refine pp rfl rfl (pr_not rfl) ?_;simp only [nf]
    refine pp rfl rfl (pr_idxA1 rfl rfl Tryd.underlying132 sz4 (by first | omega | ((simp only [outL, List.length_map, List.length_range]; omega)))) ?_;simp only [nf]
    refine plan_store1 2 rfl rfl hH rfl rfl rfl rfl sz4 (by simp <;> omega) ?_
    clear hH
    intro w89 hH
    (try simp only [nf, nh, Value.cells, arrB_set] at hH ⊢)
    refine plan_nil hH ?_
    clear hH
    intro w90 hH
    refine hK88 _ _ ?_
    (try clear hK88 K88)
    refine wrt [.p 0, .p 1, .p 2, .p 3, .p 4, .q 5, .p 6, .p 7, .e 8] ?_
    refine pm ?_;simp only [nf]
    refine pp rfl rfl (pr_bin rfl rfl (by first | exact bin_sub_n (n := 121) (by first | omega | ((simp only [outL, List.length_map, List.length_range]; omega))) (by first | omega | ((simp only [outL, List.length_map, List.length_range]; omega))) | exact bin_sub_i (by first | omega | ((simp only [outL, List.length_map, List.length_range]; omega))) (by first | omega | ((simp only [outL, List.length_map, List.length_range]; omega))))) ?_;simp only [nf]
    refine pm ?_;simp only [nf]
    refine pp rfl rfl (pr_bin rfl rfl (by first | exact bin_sub_n (n := 121) (by first | omega | ((simp only [outL, List.length_map, List.length_range]; omega))) (by first | omega | ((simp only [outL, List.length_map, List.length_range]; omega))) | exact bin_sub_i (by first | omega | ((simp only [outL, List.length_map, List.length_range]; omega))) (by first | omega | ((simp only [outL, List.length_map, List.length_range]; omega))))) ?_;simp only [nf]
    refine pp rfl rfl (pr_idxA1 rfl rfl Tryd.underlying132 sz4 (by first | omega | ((simp only [outL, List.length_map, List.length_range]; omega)))) ?_;simp only [nf]
    refine pq rfl rfl (qr_load1 rfl Tryd.underlying4 rfl ((hH.blk 2 rfl).cell (arrB_get (by first | omega | ((simp only [outL, List.length_map, List.length_range]; omega)))))) ?_;simp only [nf]
    refine pp rfl rfl (pr_not rfl) ?_;simp only [nf]
    refine pp rfl rfl (pr_idxA1 rfl rfl Tryd.underlying132 sz4 (by first | omega | ((simp only [outL, List.length_map, List.length_range]; omega)))) ?_;simp only [nf]
    refine plan_store1 2 rfl rfl hH rfl rfl rfl rfl sz4 (by simp <;> omega) ?_
    clear hH
    intro w91 hH
    (try simp only [nf, nh, Value.cells, arrB_set] at hH ⊢)
    refine plan_nil hH ?_
    clear hH
    intro w92 hH
    refine hK78 _ _ ?_
    (try clear hK78 K78)
    refine wrt [.p 0, .p 1, .p 2] ?_
    refine pm ?_;simp only [nf]
    refine pp rfl rfl (pr_bin rfl rfl (by first | exact bin_sub_n (n := 1) (by first | omega | ((simp only [outL, List.length_map, List.length_range]; omega))) (by first | omega | ((simp only [outL, List.length_map, List.length_range]; omega))) | exact bin_sub_i (by first | omega | ((simp only [outL, List.length_map, List.length_range]; omega))) (by first | omega | ((simp only [outL, List.length_map, List.length_range]; omega))))) ?_;simp only [nf]
    refine pa ?_;simp only [nf]
    refine plan_nil hH ?_
    clear hH
    intro w93 hH
    (try simp only [Exit.then, Exit.inBlock, ↓reduceIte, Nat.reduceEqDiff])
    refine ⟨j - 1 - 127, ?_, _, rfl, by kernel_rfl, ?_⟩
    · first | omega | (omega)
    simp only [ga]
    refine ⟨j - 1, upd (upd (upd (upd p (j - 128) (!p (j - 128))) (j - 127) (!(upd p (j - 128) (!p (j - 128))) (j - 127))) (j - 126) (!(upd (upd p (j - 128) (!p (j - 128))) (j - 127) (!(upd p (j - 128) (!p (j - 128))) (j - 127))) (j - 126))) (j - 121) (!(upd (upd (upd p (j - 128) (!p (j - 128))) (j - 127) (!(upd p (j - 128) (!p (j - 128))) (j - 127))) (j - 126) (!(upd (upd p (j - 128) (!p (j - 128))) (j - 127) (!(upd p (j - 128) (!p (j - 128))) (j - 127))) (j - 126))) (j - 121)), rfl, ?_, rfl, ?_, ?_, ?_⟩
    ·
     exact hH
    · first | omega | (omega)
    · first | omega | (omega)
    · first | omega | (first | (rw [show j - 1 + 1 = j by omega, vN_back (by omega) (by assumption)]; exact hV) | (rw [show j - 1 + 1 = j by omega, vN_drop (by assumption)]; exact hV))
   ·
    (try simp only [cnd] at hc81)
    refine wp_skip ?_
    refine hK78 _ _ ?_
    (try clear hK78 K78)
    refine wrt [.p 0, .p 1, .p 2] ?_
    refine pm ?_;simp only [nf]
    refine pp rfl rfl (pr_bin rfl rfl (by first | exact bin_sub_n (n := 1) (by first | omega | ((simp only [outL, List.length_map, List.length_range]; omega))) (by first | omega | ((simp only [outL, List.length_map, List.length_range]; omega))) | exact bin_sub_i (by first | omega | ((simp only [outL, List.length_map, List.length_range]; omega))) (by first | omega | ((simp only [outL, List.length_map, List.length_range]; omega))))) ?_;simp only [nf]
    refine pa ?_;simp only [nf]
    refine plan_nil hH ?_
    clear hH
    intro w94 hH
    (try simp only [Exit.then, Exit.inBlock, ↓reduceIte, Nat.reduceEqDiff])
    refine ⟨j - 1 - 127, ?_, _, rfl, by kernel_rfl, ?_⟩
    · first | omega | (omega)
    simp only [ga]
    refine ⟨j - 1, p, rfl, ?_, rfl, ?_, ?_, ?_⟩
    ·
     exact hH
    · first | omega | (omega)
    · first | omega | (omega)
    · first | omega | (first | (rw [show j - 1 + 1 = j by omega, vN_back (by omega) (by assumption)]; exact hV) | (rw [show j - 1 + 1 = j by omega, vN_drop (by assumption)]; exact hV))
  ·
   (try simp only [cnd] at hc77)
   refine wp_exit ?_
   (try simp only [Exit.then, Exit.inBlock, ↓reduceIte, Nat.reduceEqDiff])
   refine hK60 _ _ ?_
   (try clear hK60 K60)
   refine wp_seq_k ?_
   intro K95 hK95
   refine wrt [.x 0, .p 1] ?_
   refine plan_make (n := 16) (c := 16) rfl rfl hH rfl rfl Tryd.underlying22 sz5 bz5 ze5 rfl (by first | omega | ((simp only [outL, List.length_map, List.length_range]; omega))) (by first | omega | ((simp only [outL, List.length_map, List.length_range]; omega))) (by first | omega | ((simp only [outL, List.length_map, List.length_range]; omega))) ?_
   clear hH
   intro b96 w97 hH
   (try simp only [nf] at hH ⊢)
   rw [made_arr8] at hH
   (try simp only [nf, nh, Value.cells, arrB_set] at hH ⊢)
   refine pa ?_;simp only [nf]
   refine plan_nil hH ?_
   clear hH
   intro w98 hH
   refine hK95 _ _ ?_
   (try clear hK95 K95)
   refine wp_seq_k ?_
   intro K99 hK99
   refine wp_seq_k ?_
   intro K100 hK100
   refine wrt [.p 0] ?_
   refine pka 0 ?_;simp only [nf]
   refine plan_nil hH ?_
   clear hH
   intro w101 hH
   refine hK100 _ _ ?_
   (try clear hK100 K100)
   refine wp_block ?_
   obtain ⟨kc102, hkc103, hN⟩ := hH.name 0 rfl
   replace hH := hN; clear hN; simp only [List.set_cons_zero, List.set_cons_succ] at hH
   obtain ⟨kc104, hkc105, hN⟩ := hH.name 1 rfl
   replace hH := hN; clear hN; simp only [List.set_cons_zero, List.set_cons_succ] at hH
   refine wp_loopT [12] [83, 84, 85, 86, 87, 88, 89, 90, 91, 92, 93, 94, 95, 96, 97, 98, 99, 100, 101, 102] (fun (n106 : Nat) (vs : List Value) (w' : World) => ∃ (q : Nat) (cs : Array Value), vs = [I64 (q : Nat)] ∧ Hp [] w w' [(some b4, 130, kc102), (some b6, 130, kc104), (some b12, 132, arrB 256 p), (some b96, 5, cs)] ∧ n106 = 128 - q ∧ q ≤ 128 ∧ OwnC (some b96) 16 16 1 cs ((outL p q).map V8)) (128 - 0) (by kernel_rfl) ?_ ?_
   ·
    simp only [ga]
    refine ⟨0, arr8 16 fun _ => 0, rfl, ?_, rfl, ?_, ?_⟩
    ·
     exact hH
    · first | omega | (omega)
    · first | omega | (rw [← outL_zero]; exact OwnC.made)
   clear hH
   intro n106 vs107 w108 hR109 d3
   obtain ⟨q, cs, rfl, hH, hn110, hf111, hO⟩ := hR109
   simp only [putAll, putD, List.set_cons_zero, List.set_cons_succ, Nat.zero_add, Nat.reduceAdd]
   subst hkc103 hkc105
   refine wp_seq_k ?_
   intro K112 hK112
   refine wp_seq_k ?_
   intro K113 hK113
   refine wrt [.p 0, .p 1] ?_
   refine pm ?_;simp only [nf]
   refine pp rfl rfl (pr_bin rfl rfl (by first | exact bin_lss_n (n := 128)  | exact bin_lss_i)) ?_;simp only [nf]
   refine plan_nil hH ?_
   clear hH
   intro w114 hH
   refine hK113 _ _ ?_
   (try clear hK113 K113)
   refine wp_cond_split rfl (fun hc115 => ?_) (fun hc115 => ?_)
   ·
    (try simp only [cnd] at hc115)
    refine wp_skip ?_
    refine hK112 _ _ ?_
    (try clear hK112 K112)
    refine wp_seq_k ?_
    intro K116 hK116
    refine wp_block ?_
    refine wp_seq_k ?_
    intro K117 hK117
    refine wrt [.p 0, .p 1, .q 2] ?_
    refine pm ?_;simp only [nf]
    refine pp rfl rfl (pr_idxA1 rfl rfl Tryd.underlying132 sz4 (by first | omega | ((simp only [outL, List.length_map, List.length_range]; omega)))) ?_;simp only [nf]
    refine pq rfl rfl (qr_load1 rfl Tryd.underlying4 rfl ((hH.blk 2 rfl).cell (arrB_get (by first | omega | ((simp only [outL, List.length_map, List.length_range]; omega)))))) ?_;simp only [nf]
    refine plan_nil hH ?_
    clear hH
    intro w118 hH
    refine hK117 _ _ ?_
    (try clear hK117 K117)
    refine wp_cond_split rfl (fun hc119 => ?_) (fun hc119 => ?_)
    ·
     (try simp only [cnd] at hc119)
     refine wrp [.p 0, .p 1, .p 2, .p 3, .p 4, .p 5, .p 6, .p 8, .p 9, .p 10, .q 7, .p 11, .p 12, .e 13] ?_
     refine pm (pm ?_);simp only [nf]
     refine pp rfl rfl (pr_bin rfl rfl (by first | exact bin_quo_n (n := 8) (by first | omega | ((simp only [outL, List.length_map, List.length_range]; omega))) (by first | omega | ((simp only [outL, List.length_map, List.length_range]; omega))))) ?_;simp only [nf]
     refine pm (pm ?_);simp only [nf]
     refine pp rfl rfl (pr_bin rfl rfl (by first | exact bin_quo_n (n := 8) (by first | omega | ((simp only [outL, List.length_map, List.length_range]; omega))) (by first | omega | ((simp only [outL, List.length_map, List.length_range]; omega))))) ?_;simp only [nf]
     refine pp rfl rfl (pr_idx_Sl (OwnC.sl hH 3 rfl hO) rfl rfl Tryd.underlying22 sz5 (by first | omega | ((simp only [outL, List.length_map, List.length_range]; omega)))) ?_;simp only [nf]
     refine pm ?_;simp only [nf]
     refine pp rfl rfl (pr_bin rfl rfl (by first | exact bin_rem_n (n := 8) (by first | omega | ((simp only [outL, List.length_map, List.length_range]; omega))))) ?_;simp only [nf]
     refine pp rfl rfl (pr_bin rfl rfl (bin_shr_u8 128 _ _)) ?_;simp only [nf]
     refine pq rfl rfl (qr_load1 rfl Tryd.underlying5 rfl (Sl.cell (OwnC.sl hH 3 rfl hO) (by first | omega | ((simp only [outL, List.length_map, List.length_range]; omega))))) ?_;simp only [nf]
     refine pp rfl rfl (pr_bin rfl rfl (bin_add_u8 _ _)) ?_;simp only [nf]
     refine pp rfl rfl (pr_idx_Sl (OwnC.sl hH 3 rfl hO) rfl rfl Tryd.underlying22 sz5 (by first | omega | ((simp only [outL, List.length_map, List.length_range]; omega)))) ?_;simp only [nf]
     refine plan_storeO 3 rfl rfl hH rfl rfl hO rfl sz5 (by first | omega | ((simp only [outL, List.length_map, List.length_range]; omega))) ?_
     clear hH
     intro cs121 w120 hO122 hH
     (try simp only [nf, nh, Value.cells, arrB_set] at hH ⊢)
     refine plan_nil hH ?_
     clear hH
     intro w123 hH
     refine hK116 _ _ ?_
     (try clear hK116 K116)
     refine wrt [.p 0, .p 1, .p 2] ?_
     refine pm ?_;simp only [nf]
     refine pp rfl rfl (pr_bin rfl rfl (by first | exact bin_add_n (n := 1) (by first | omega | ((simp only [outL, List.length_map, List.length_range]; omega))) | exact bin_add_i (by first | omega | ((simp only [outL, List.length_map, List.length_range]; omega))) (by first | omega | ((simp only [outL, List.length_map, List.length_range]; omega))))) ?_;simp only [nf]
     refine pa ?_;simp only [nf]
     refine plan_nil hH ?_
     clear hH
     intro w124 hH
     (try simp only [Exit.then, Exit.inBlock, ↓reduceIte, Nat.reduceEqDiff])
     refine ⟨128 - (q + 1), ?_, _, rfl, by kernel_rfl, ?_⟩
     · first | omega | (omega)
     simp only [ga]
     refine ⟨q + 1, cs121, rfl, ?_, rfl, ?_, ?_⟩
     ·
      exact hH
     · first | omega | (omega)
     · first | omega | (first | (rw [← outL_step _ _ (by omega) (by assumption)]; exact hO122) | (rw [← outL_same _ _ (by assumption)]; exact hO122))
    ·
     (try simp only [cnd] at hc119)
     refine wp_skip ?_
     refine hK116 _ _ ?_
     (try clear hK116 K116)
     refine wrt [.p 0, .p 1, .p 2] ?_
     refine pm ?_;simp only [nf]
     refine pp rfl rfl (pr_bin rfl rfl (by first | exact bin_add_n (n := 1) (by first | omega | ((simp only [outL, List.length_map, List.length_range]; omega))) | exact bin_add_i (by first | omega | ((simp only [outL, List.length_map, List.length_range]; omega))) (by first | omega | ((simp only [outL, List.length_map, List.length_range]; omega))))) ?_;simp only [nf]
     refine pa ?_;simp only [nf]
     refine plan_nil hH ?_
     clear hH
     intro w125 hH
     (try simp only [Exit.then, Exit.inBlock, ↓reduceIte, Nat.reduceEqDiff])
     refine ⟨128 - (q + 1), ?_, _, rfl, by kernel_rfl, ?_⟩
     · first | omega | (omega)
     simp only [ga]
     refine ⟨q + 1, cs, rfl, ?_, rfl, ?_, ?_⟩
     ·
      exact hH
     · first | omega | (omega)
     · first | omega | (first | (rw [← outL_step _ _ (by omega) (by assumption)]; exact hO) | (rw [← outL_same _ _ (by assumption)]; exact hO))
   ·
    (try simp only [cnd] at hc115)
    refine wp_exit ?_
    (try simp only [Exit.then, Exit.inBlock, ↓reduceIte, Nat.reduceEqDiff])
    refine hK99 _ _ ?_
    (try clear hK99 K99)
    refine wp_seq_k ?_
    intro K126 hK126
    refine wrt [.p 0, .q 1, .p 2] ?_
    refine pm ?_;simp only [nf]
    refine pq rfl rfl (qr_b2s (OwnC.sl hH 3 rfl hO) rfl Tryd.underlying22 Tryd.underlying5 Tryd.underlying9) ?_;simp only [nf]
    refine pa ?_;simp only [nf]
    refine plan_nil hH ?_
    clear hH
    intro w127 hH
    refine hK126 _ _ ?_
    (try clear hK126 K126)
    refine wp_ret ?_
    (try simp only [Exit.then, Exit.inBlock, ↓reduceIte, Nat.reduceEqDiff])
    refine BP.ret1 rfl rfl ?_
    obtain rfl : q = 128 := by omega
    obtain rfl : j = 127 := by omega
    exact ⟨congrArg (fun l : List UInt8 => Value.string ⟨l.toArray⟩) (outL_end p _ hV), hH.chg⟩

end Go.Proofs.YtmoaddicejohgaaDoor
