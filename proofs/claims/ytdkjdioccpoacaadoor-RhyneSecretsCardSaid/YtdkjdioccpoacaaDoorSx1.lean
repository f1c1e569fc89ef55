/- Packed: Field0, Curve0, Prime, Fp, EdI, Ed, as far as rhyneSecretsCard_holds needs them. No conditions but those that stand in the statements. -/
import Derived.Test.YtdkjdioccpoacaaDoorSx0
import Derived.KernelRfl
set_option linter.unusedSimpArgs false
set_option linter.unusedVariables false
set_option maxRecDepth 100000
set_option maxHeartbeats 4000000
namespace Go.Proofs.YtdkjdioccpoacaaDoor
open Go
open List (getD_cons_zero getD_cons_succ set_cons_zero set_cons_succ)
theorem fof_calls (b : Nat → UInt8) (w : World) : Ret Tryd.prog 48 #[.agg (arr8 32 b)] w fun v w' => v = .agg (arr64 5 (fOf b)) ∧ Chg [] w w' := by
 refine Ret.enter Tryd.func48 rfl ?_
 simp only [Tryd.ntmps48, fe, Nat.reduceAdd, Nat.reduceSub]
 have hH := Hp.start [] w
 refine wp_seq_k ?_
 intro K1 hK1
 refine wrt [.x 0, .x 1] ?_
 refine plan_box rfl rfl hH rfl ?_
 clear hH
 intro b2 w3 hH
 (try simp only [nf, nh, Value.cells, arrB_set] at hH ⊢)
 refine plan_alloc rfl rfl hH zc104 ?_
 clear hH
 intro b4 w5 hH
 (try simp only [nf, nh, Value.cells, arrB_set] at hH ⊢)
 refine plan_nil hH ?_
 clear hH
 intro w6 hH
 refine hK1 _ _ ?_
 (try clear hK1 K1)
 refine wp_seq_k ?_
 intro K7 hK7
 refine wrt [.x 0] ?_
 refine plan_alloc rfl rfl hH zc104 ?_
 clear hH
 intro b8 w9 hH
 (try simp only [nf, nh, Value.cells, arrB_set] at hH ⊢)
 refine plan_nil hH ?_
 clear hH
 intro w10 hH
 refine hK7 _ _ ?_
 (try clear hK7 K7)
 refine wp_seq_k ?_
 intro K11 hK11
 refine wp_seq_k ?_
 intro K12 hK12
 refine wrt [.p 0] ?_
 refine pk 0 ?_;simp only [nf]
 refine plan_nil hH ?_
 clear hH
 intro w13 hH
 refine hK12 _ _ ?_
 (try clear hK12 K12)
 refine wp_block ?_
 obtain ⟨kc14, hkc15, hN⟩ := hH.name 0 rfl
 replace hH := hN; clear hN; simp only [List.set_cons_zero, List.set_cons_succ] at hH
 obtain ⟨kc16, hkc17, hN⟩ := hH.name 1 rfl
 replace hH := hN; clear hN; simp only [List.set_cons_zero, List.set_cons_succ] at hH
 refine wp_loopT [5] [4, 6, 7, 8, 9, 10, 11, 12, 13, 14, 15, 16, 17, 18, 19, 20, 21, 22, 23, 24, 25, 26, 27, 28] (fun (n18 : Nat) (vs : List Value) (w' : World) => ∃ (i : Nat), vs = [I64 (i : Nat)] ∧ Hp [] w w' [(some b2, 22, kc14), (some b4, 104, kc16), (some b8, 104, arr64 5 (ofL b i))] ∧ n18 = 255 - i ∧ i ≤ 255) (255 - 0) (by kernel_rfl) ?_ ?_
 ·
  simp only [ga]
  refine ⟨0, rfl, ?_, rfl, ?_⟩
  ·
   exact hH
  · first | omega | (omega)
 clear hH
 intro n18 vs19 w20 hR21 d0
 obtain ⟨i, rfl, hH, hn22, hf23⟩ := hR21
 simp only [putAll, putD, List.set_cons_zero, List.set_cons_succ, Nat.zero_add, Nat.reduceAdd]
 subst hkc15 hkc17
 refine wp_seq_k ?_
 intro K24 hK24
 refine wrt [.p 0] ?_
 refine pp rfl rfl (pr_bin rfl rfl (by first | exact bin_lss_n (n := 255)  | exact bin_lss_i)) ?_;simp only [nf]
 refine plan_nil hH ?_
 clear hH
 intro w25 hH
 refine hK24 _ _ ?_
 (try clear hK24 K24)
 refine wp_seq_k ?_
 intro K26 hK26
 refine wp_cond_split rfl (fun hc27 => ?_) (fun hc27 => ?_)
 ·
  (try simp only [cnd] at hc27)
  refine wp_skip ?_
  refine hK26 _ _ ?_
  (try clear hK26 K26)
  refine wp_seq_k ?_
  intro K28 hK28
  refine wp_block ?_
  refine wp_seq_k ?_
  intro K29 hK29
  refine wrt [.p 0, .p 1] ?_
  refine pm (pa ?_);simp only [nf]
  refine plan_nil hH ?_
  clear hH
  intro w30 hH
  refine hK29 _ _ ?_
  (try clear hK29 K29)
  refine wrp [.p 0, .p 1, .p 2, .p 3, .p 5, .p 6, .p 7, .p 9, .p 10, .p 14, .p 15, .p 18, .q 4, .q 8, .p 11, .p 12, .p 13, .p 16, .p 17, .p 19, .e 20] ?_
  refine pm ?_;simp only [nf]
  refine pp rfl rfl (pr_bin rfl rfl (by first | exact bin_quo_n (n := 51) (by omega) (by omega))) ?_;simp only [nf]
  refine pp rfl rfl (pr_fieldAddr 0 rfl Tryd.underlying104 rfl rfl sz102) ?_;simp only [nf]
  refine pp rfl rfl (pr_idxA1 rfl rfl Tryd.underlying102 sz45 (by omega)) ?_;simp only [nf]
  refine pm ?_;simp only [nf]
  refine pp rfl rfl (pr_bin rfl rfl (by first | exact bin_quo_n (n := 8) (by omega) (by omega))) ?_;simp only [nf]
  refine pp rfl rfl (pr_idxA1 rfl rfl Tryd.underlying22 sz5 (by omega)) ?_;simp only [nf]
  refine pm ?_;simp only [nf]
  refine pp rfl rfl (pr_bin rfl rfl (by first | exact bin_rem_n (n := 8) (by omega))) ?_;simp only [nf]
  refine pm ?_;simp only [nf]
  refine pp rfl rfl (pr_bin rfl rfl (by first | exact bin_rem_n (n := 51) (by omega))) ?_;simp only [nf]
  refine pp rfl rfl (pr_fieldAddr 0 rfl Tryd.underlying104 rfl rfl sz102) ?_;simp only [nf]
  refine pq rfl rfl (qr_load1 rfl Tryd.underlying45 rfl ((hH.blk 2 rfl).cell (arr64_get (by omega)))) ?_;simp only [nf]
  refine pq rfl rfl (qr_load1 rfl Tryd.underlying5 rfl ((hH.blk 0 rfl).cell (arr8_get (by omega)))) ?_;simp only [nf]
  refine pp rfl rfl (pr_bin rfl rfl (bin_shr_u8 _ _ _)) ?_;simp only [nf]
  refine pp rfl rfl (pr_bin rfl rfl (bin_and_u8 _ 1)) ?_;simp only [nf]
  refine pp rfl rfl (pr_conv rfl (cnv_u8_u64 _ Tryd.underlying5 Tryd.underlying45)) ?_;simp only [nf]
  refine pp rfl rfl (pr_bin rfl rfl (bin_shl_u64 _ _ _)) ?_;simp only [nf]
  refine pp rfl rfl (pr_bin rfl rfl (bin_or_u64 _ _)) ?_;simp only [nf]
  refine pp rfl rfl (pr_idxA1 rfl rfl Tryd.underlying102 sz45 (by omega)) ?_;simp only [nf]
  refine plan_store1 2 rfl rfl hH rfl rfl rfl rfl sz45 (by simp <;> omega) ?_
  clear hH
  intro w31 hH
  (try simp only [nf, nh, Value.cells, arrB_set] at hH ⊢)
  refine plan_nil hH ?_
  clear hH
  intro w32 hH
  refine hK28 _ _ ?_
  (try clear hK28 K28)
  refine wrt [.p 0, .p 1] ?_
  refine pp rfl rfl (pr_bin rfl rfl (by first | exact bin_add_n (n := 1) (by omega) | exact bin_add_i (by omega) (by omega))) ?_;simp only [nf]
  refine pm ?_;simp only [nf]
  refine plan_nil hH ?_
  clear hH
  intro w33 hH
  (try simp only [Exit.then, Exit.inBlock, ↓reduceIte, Nat.reduceEqDiff])
  refine ⟨255 - (i + 1), ?_, _, rfl, by kernel_rfl, ?_⟩
  · first | omega | (omega)
  simp only [ga]
  refine ⟨i + 1, rfl, ?_, rfl, ?_⟩
  ·
   exact hH
  · first | omega | (omega)
 ·
  (try simp only [cnd] at hc27)
  refine wp_exit ?_
  (try simp only [Exit.then, Exit.inBlock, ↓reduceIte, Nat.reduceEqDiff])
  refine hK11 _ _ ?_
  (try clear hK11 K11)
  refine wp_seq_k ?_
  intro K34 hK34
  refine wrt [.q 0, .e 1] ?_
  refine pq rfl rfl (qr_loadW rfl (hH.blk 2 rfl) Tryd.underlying104 rfl sz104 (by simp)) ?_;simp only [nf]
  refine plan_storeW 1 rfl rfl hH rfl rfl rfl one_arr64 sz104 (by simp) (by simp) ?_
  clear hH
  intro w35 hH
  (try simp only [nf, nh, Value.cells, arrB_set] at hH ⊢)
  refine plan_nil hH ?_
  clear hH
  intro w36 hH
  refine hK34 _ _ ?_
  (try clear hK34 K34)
  refine wp_ret ?_
  (try simp only [Exit.then, Exit.inBlock, ↓reduceIte, Nat.reduceEqDiff])
  refine BP.retc rfl rfl (hH.blk 1 rfl) Tryd.underlying104 rfl sz104 (by simp) ?_
  obtain rfl : i = 255 := by omega
  exact ⟨rfl, hH.chg⟩
theorem fcarry_calls (f : Five) (w : World) : Ret Tryd.prog 86 #[.agg (arr64 5 f)] w fun v w' => v = .agg (arr64 5 (fCar f)) ∧ Chg [] w w' := by
 refine Ret.enter Tryd.func86 rfl ?_
 simp only [Tryd.ntmps86, fe, Nat.reduceAdd, Nat.reduceSub]
 have hH := Hp.start [] w
 refine wp_seq_k ?_
 intro K1 hK1
 refine wrt [.x 0, .x 1] ?_
 refine plan_box rfl rfl hH rfl ?_
 clear hH
 intro b2 w3 hH
 (try simp only [nf, nh, Value.cells, arrB_set] at hH ⊢)
 refine plan_alloc rfl rfl hH zc104 ?_
 clear hH
 intro b4 w5 hH
 (try simp only [nf, nh, Value.cells, arrB_set] at hH ⊢)
 refine plan_nil hH ?_
 clear hH
 intro w6 hH
 refine hK1 _ _ ?_
 (try clear hK1 K1)
 refine wp_seq_k ?_
 intro K7 hK7
 refine wrt [.p 0] ?_
 refine pa ?_;simp only [nf]
 refine plan_nil hH ?_
 clear hH
 intro w8 hH
 refine hK7 _ _ ?_
 (try clear hK7 K7)
 refine wp_seq_k ?_
 intro K9 hK9
 refine wp_seq_k ?_
 intro K10 hK10
 refine wrt [.p 0] ?_
 refine pk 0 ?_;simp only [nf]
 refine plan_nil hH ?_
 clear hH
 intro w11 hH
 refine hK10 _ _ ?_
 (try clear hK10 K10)
 refine wp_block ?_
 obtain ⟨kc12, hkc13, hN⟩ := hH.name 1 rfl
 replace hH := hN; clear hN; simp only [List.set_cons_zero, List.set_cons_succ] at hH
 refine wp_loopT [3, 5] [4, 6, 7, 8, 9, 10, 11, 12, 13, 14, 15, 16, 17, 18, 19, 20, 21, 22, 23, 24, 25, 26, 27, 28] (fun (n14 : Nat) (vs : List Value) (w' : World) => ∃ (i : Nat), vs = [V64 (carL f i).2, I64 (i : Nat)] ∧ Hp [] w w' [(some b2, 104, arr64 5 (carL f i).1), (some b4, 104, kc12)] ∧ n14 = 5 - i ∧ i ≤ 5) (5 - 0) (by kernel_rfl) ?_ ?_
 ·
  simp only [ga]
  refine ⟨0, rfl, ?_, rfl, ?_⟩
  ·
   exact hH
  · first | omega | (omega)
 clear hH
 intro n14 vs15 w16 hR17 d0
 obtain ⟨i, rfl, hH, hn18, hf19⟩ := hR17
 simp only [putAll, putD, List.set_cons_zero, List.set_cons_succ, Nat.zero_add, Nat.reduceAdd]
 subst hkc13
 refine wp_seq_k ?_
 intro K20 hK20
 refine wrt [.p 0] ?_
 refine pp rfl rfl (pr_bin rfl rfl (by first | exact bin_lss_n (n := 5)  | exact bin_lss_i)) ?_;simp only [nf]
 refine plan_nil hH ?_
 clear hH
 intro w21 hH
 refine hK20 _ _ ?_
 (try clear hK20 K20)
 refine wp_seq_k ?_
 intro K22 hK22
 refine wp_cond_split rfl (fun hc23 => ?_) (fun hc23 => ?_)
 ·
  (try simp only [cnd] at hc23)
  refine wp_skip ?_
  refine hK22 _ _ ?_
  (try clear hK22 K22)
  refine wp_seq_k ?_
  intro K24 hK24
  refine wp_block ?_
  refine wp_seq_k ?_
  intro K25 hK25
  refine wrt [.p 0, .p 1] ?_
  refine pm (pa ?_);simp only [nf]
  refine plan_nil hH ?_
  clear hH
  intro w26 hH
  refine hK25 _ _ ?_
  (try clear hK25 K25)
  refine wp_seq_k ?_
  intro K27 hK27
  refine wrt [.p 0, .p 1, .p 2, .q 3, .p 4, .p 5, .p 6, .p 7, .e 8] ?_
  refine pm ?_;simp only [nf]
  refine pp rfl rfl (pr_fieldAddr 0 rfl Tryd.underlying104 rfl rfl sz102) ?_;simp only [nf]
  refine pp rfl rfl (pr_idxA1 rfl rfl Tryd.underlying102 sz45 (by omega)) ?_;simp only [nf]
  refine pq rfl rfl (qr_load1 rfl Tryd.underlying45 rfl ((hH.blk 0 rfl).cell (arr64_get (by omega)))) ?_;simp only [nf]
  refine pm ?_;simp only [nf]
  refine pp rfl rfl (pr_bin rfl rfl (bin_add_u64 _ _)) ?_;simp only [nf]
  refine pp rfl rfl (pr_fieldAddr 0 rfl Tryd.underlying104 rfl rfl sz102) ?_;simp only [nf]
  refine pp rfl rfl (pr_idxA1 rfl rfl Tryd.underlying102 sz45 (by omega)) ?_;simp only [nf]
  refine plan_store1 0 rfl rfl hH rfl rfl rfl rfl sz45 (by simp <;> omega) ?_
  clear hH
  intro w28 hH
  (try simp only [nf, nh, Value.cells, arrB_set] at hH ⊢)
  refine plan_nil hH ?_
  clear hH
  intro w29 hH
  refine hK27 _ _ ?_
  (try clear hK27 K27)
  refine wp_seq_k ?_
  intro K30 hK30
  refine wrt [.p 0, .p 1, .p 2, .q 3, .p 4, .p 5] ?_
  refine pm ?_;simp only [nf]
  refine pp rfl rfl (pr_fieldAddr 0 rfl Tryd.underlying104 rfl rfl sz102) ?_;simp only [nf]
  refine pp rfl rfl (pr_idxA1 rfl rfl Tryd.underlying102 sz45 (by omega)) ?_;simp only [nf]
  refine pq rfl rfl (qr_load1 rfl Tryd.underlying45 rfl ((hH.blk 0 rfl).cell (arr64_get (by omega)))) ?_;simp only [nf]
  refine pp rfl rfl (pr_bin rfl rfl (bin_shrc_u64 51 51 (by decide) rfl _)) ?_;simp only [nf]
  refine pa ?_;simp only [nf]
  refine plan_nil hH ?_
  clear hH
  intro w31 hH
  refine hK30 _ _ ?_
  (try clear hK30 K30)
  refine wrt [.p 0, .p 1, .p 2, .q 3, .p 4, .p 5, .p 6, .e 7] ?_
  refine pm ?_;simp only [nf]
  refine pp rfl rfl (pr_fieldAddr 0 rfl Tryd.underlying104 rfl rfl sz102) ?_;simp only [nf]
  refine pp rfl rfl (pr_idxA1 rfl rfl Tryd.underlying102 sz45 (by omega)) ?_;simp only [nf]
  refine pq rfl rfl (qr_load1 rfl Tryd.underlying45 rfl ((hH.blk 0 rfl).cell (arr64_get (by omega)))) ?_;simp only [nf]
  refine pp rfl rfl (pr_bin rfl rfl (bin_and_u64 _ 2251799813685247)) ?_;simp only [nf]
  refine pp rfl rfl (pr_fieldAddr 0 rfl Tryd.underlying104 rfl rfl sz102) ?_;simp only [nf]
  refine pp rfl rfl (pr_idxA1 rfl rfl Tryd.underlying102 sz45 (by omega)) ?_;simp only [nf]
  refine plan_store1 0 rfl rfl hH rfl rfl rfl rfl sz45 (by simp <;> omega) ?_
  clear hH
  intro w32 hH
  (try simp only [nf, nh, Value.cells, arrB_set] at hH ⊢)
  refine plan_nil hH ?_
  clear hH
  intro w33 hH
  refine hK24 _ _ ?_
  (try clear hK24 K24)
  refine wrt [.p 0, .p 1] ?_
  refine pp rfl rfl (pr_bin rfl rfl (by first | exact bin_add_n (n := 1) (by omega) | exact bin_add_i (by omega) (by omega))) ?_;simp only [nf]
  refine pm ?_;simp only [nf]
  refine plan_nil hH ?_
  clear hH
  intro w34 hH
  (try simp only [Exit.then, Exit.inBlock, ↓reduceIte, Nat.reduceEqDiff])
  refine ⟨5 - (i + 1), ?_, _, rfl, by kernel_rfl, ?_⟩
  · first | omega | (omega)
  simp only [ga]
  refine ⟨i + 1, rfl, ?_, rfl, ?_⟩
  ·
   exact hH
  · first | omega | (omega)
 ·
  (try simp only [cnd] at hc23)
  refine wp_exit ?_
  (try simp only [Exit.then, Exit.inBlock, ↓reduceIte, Nat.reduceEqDiff])
  refine hK9 _ _ ?_
  (try clear hK9 K9)
  refine wp_seq_k ?_
  intro K35 hK35
  refine wrt [.p 0, .p 1, .q 2, .p 3, .p 4, .p 5, .p 6, .p 7, .e 8] ?_
  refine pp rfl rfl (pr_fieldAddr 0 rfl Tryd.underlying104 rfl rfl sz102) ?_;simp only [nf]
  refine pp rfl rfl (pr_idxA1 (i := 0) rfl rfl Tryd.underlying102 sz45 (by omega)) ?_;simp only [nf]
  refine pq rfl rfl (qr_load1 rfl Tryd.underlying45 rfl ((hH.blk 0 rfl).cell (arr64_get (by omega)))) ?_;simp only [nf]
  refine pm ?_;simp only [nf]
  refine pp rfl rfl (pr_bin rfl rfl (bin_mul_u64 19 _)) ?_;simp only [nf]
  refine pp rfl rfl (pr_bin rfl rfl (bin_add_u64 _ _)) ?_;simp only [nf]
  refine pp rfl rfl (pr_fieldAddr 0 rfl Tryd.underlying104 rfl rfl sz102) ?_;simp only [nf]
  refine pp rfl rfl (pr_idxA1 (i := 0) rfl rfl Tryd.underlying102 sz45 (by omega)) ?_;simp only [nf]
  refine plan_store1 0 rfl rfl hH rfl rfl rfl rfl sz45 (by simp <;> omega) ?_
  clear hH
  intro w36 hH
  (try simp only [nf, nh, Value.cells, arrB_set] at hH ⊢)
  refine plan_nil hH ?_
  clear hH
  intro w37 hH
  refine hK35 _ _ ?_
  (try clear hK35 K35)
  refine wp_seq_k ?_
  intro K38 hK38
  refine wrt [.q 0, .e 1] ?_
  refine pq rfl rfl (qr_loadW rfl (hH.blk 0 rfl) Tryd.underlying104 rfl sz104 (by simp)) ?_;simp only [nf]
  refine plan_storeW 1 rfl rfl hH rfl rfl rfl one_arr64 sz104 (by simp) (by simp) ?_
  clear hH
  intro w39 hH
  (try simp only [nf, nh, Value.cells, arrB_set] at hH ⊢)
  refine plan_nil hH ?_
  clear hH
  intro w40 hH
  refine hK38 _ _ ?_
  (try clear hK38 K38)
  refine wp_ret ?_
  (try simp only [Exit.then, Exit.inBlock, ↓reduceIte, Nat.reduceEqDiff])
  refine BP.retc rfl rfl (hH.blk 1 rfl) Tryd.underlying104 rfl sz104 (by simp) ?_
  obtain rfl : i = 5 := by omega
  exact ⟨rfl, hH.chg⟩
theorem fbytes_calls (f : Five) (w : World) : Ret Tryd.prog 55 #[.agg (arr64 5 f)] w fun v w' => v = .agg (arr8 32 (fBytes f)) ∧ Chg [] w w' := by
 refine Ret.enter Tryd.func55 rfl ?_
 simp only [Tryd.ntmps55, fe, Nat.reduceAdd, Nat.reduceSub]
 have hH := Hp.start [] w
 refine wp_seq_k ?_
 intro K1 hK1
 refine wrt [.x 0, .x 1] ?_
 refine plan_box rfl rfl hH rfl ?_
 clear hH
 intro b2 w3 hH
 (try simp only [nf, nh, Value.cells, arrB_set] at hH ⊢)
 refine plan_alloc rfl rfl hH zc22 ?_
 clear hH
 intro b4 w5 hH
 (try simp only [nf, nh, Value.cells, arrB_set] at hH ⊢)
 refine plan_nil hH ?_
 clear hH
 intro w6 hH
 refine hK1 _ _ ?_
 (try clear hK1 K1)
 refine wp_seq_k ?_
 intro K7 hK7
 refine wrt [.q 0, .q 1, .q 2, .q 3, .e 4] ?_
 refine pq rfl rfl (qr_loadW rfl (hH.blk 0 rfl) Tryd.underlying104 rfl sz104 (by simp)) ?_;simp only [nf]
 refine pq rfl rfl (qr_call cf86 (fun w' hw => fcarry_calls _ w') rfl) ?_;simp only [nf]
 refine pq rfl rfl (qr_call cf86 (fun w' hw => fcarry_calls _ w') rfl) ?_;simp only [nf]
 refine pq rfl rfl (qr_call cf86 (fun w' hw => fcarry_calls _ w') rfl) ?_;simp only [nf]
 refine plan_storeW 0 rfl rfl hH rfl rfl rfl one_arr64 sz104 (by simp) (by simp) ?_
 clear hH
 intro w8 hH
 (try simp only [nf, nh, Value.cells, arrB_set] at hH ⊢)
 refine plan_nil hH ?_
 clear hH
 intro w9 hH
 refine hK7 _ _ ?_
 (try clear hK7 K7)
 refine wp_seq_k ?_
 intro K10 hK10
 refine wrt [.p 0, .p 1, .q 2, .p 3, .p 4] ?_
 refine pp rfl rfl (pr_fieldAddr 0 rfl Tryd.underlying104 rfl rfl sz102) ?_;simp only [nf]
 refine pp rfl rfl (pr_idxA1 (i := 0) rfl rfl Tryd.underlying102 sz45 (by omega)) ?_;simp only [nf]
 refine pq rfl rfl (qr_load1 rfl Tryd.underlying45 rfl ((hH.blk 0 rfl).cell (arr64_get (by omega)))) ?_;simp only [nf]
 refine pp rfl rfl (pr_bin rfl rfl (bin_add_u64 _ 19)) ?_;simp only [nf]
 refine pa ?_;simp only [nf]
 refine plan_nil hH ?_
 clear hH
 intro w11 hH
 refine hK10 _ _ ?_
 (try clear hK10 K10)
 refine wp_seq_k ?_
 intro K12 hK12
 refine wp_seq_k ?_
 intro K13 hK13
 refine wrt [.p 0] ?_
 refine pka 1 ?_;simp only [nf]
 refine plan_nil hH ?_
 clear hH
 intro w14 hH
 refine hK13 _ _ ?_
 (try clear hK13 K13)
 refine wp_block ?_
 obtain ⟨kc15, hkc16, hN⟩ := hH.name 1 rfl
 replace hH := hN; clear hN; simp only [List.set_cons_zero, List.set_cons_succ] at hH
 refine wp_loopT [3, 4] [16, 17, 18, 19, 20, 21, 22, 23, 24, 25, 26] (fun (n17 : Nat) (vs : List Value) (w' : World) => ∃ (i : Nat), vs = [V64 (bovL (fCar (fCar (fCar f))) i), I64 ((i + 1 : Nat) : Int)] ∧ Hp [] w w' [(some b2, 104, arr64 5 (fCar (fCar (fCar f)))), (some b4, 22, kc15)] ∧ n17 = 4 - i ∧ i ≤ 4) (4 - 0) (by kernel_rfl) ?_ ?_
 ·
  simp only [ga]
  refine ⟨0, rfl, ?_, rfl, ?_⟩
  ·
   exact hH
  · first | omega | (omega)
 clear hH
 intro n17 vs18 w19 hR20 d0
 obtain ⟨i, rfl, hH, hn21, hf22⟩ := hR20
 simp only [putAll, putD, List.set_cons_zero, List.set_cons_succ, Nat.zero_add, Nat.reduceAdd]
 subst hkc16
 refine wp_seq_k ?_
 intro K23 hK23
 refine wp_seq_k ?_
 intro K24 hK24
 refine wrt [.p 0, .p 1] ?_
 refine pm ?_;simp only [nf]
 refine pp rfl rfl (pr_bin rfl rfl (by first | exact bin_lss_n (n := 5)  | exact bin_lss_i)) ?_;simp only [nf]
 refine plan_nil hH ?_
 clear hH
 intro w25 hH
 refine hK24 _ _ ?_
 (try clear hK24 K24)
 refine wp_cond_split rfl (fun hc26 => ?_) (fun hc26 => ?_)
 ·
  (try simp only [cnd] at hc26)
  refine wp_skip ?_
  refine hK23 _ _ ?_
  (try clear hK23 K23)
  refine wp_seq_k ?_
  intro K27 hK27
  refine wp_block ?_
  refine wrt [.p 0, .p 1, .p 2, .q 3, .p 4, .p 5, .p 6, .p 7] ?_
  refine pm ?_;simp only [nf]
  refine pp rfl rfl (pr_fieldAddr 0 rfl Tryd.underlying104 rfl rfl sz102) ?_;simp only [nf]
  refine pp rfl rfl (pr_idxA1 rfl rfl Tryd.underlying102 sz45 (by omega)) ?_;simp only [nf]
  refine pq rfl rfl (qr_load1 rfl Tryd.underlying45 rfl ((hH.blk 0 rfl).cell (arr64_get (by omega)))) ?_;simp only [nf]
  refine pm ?_;simp only [nf]
  refine pp rfl rfl (pr_bin rfl rfl (bin_shrc_u64 51 51 (by decide) rfl _)) ?_;simp only [nf]
  refine pp rfl rfl (pr_bin rfl rfl (bin_add_u64 _ _)) ?_;simp only [nf]
  refine pa ?_;simp only [nf]
  refine plan_nil hH ?_
  clear hH
  intro w28 hH
  refine hK27 _ _ ?_
  (try clear hK27 K27)
  refine wrt [.p 0, .p 1, .p 2] ?_
  refine pm ?_;simp only [nf]
  refine pp rfl rfl (pr_bin rfl rfl (by first | exact bin_add_n (n := 1) (by omega) | exact bin_add_i (by omega) (by omega))) ?_;simp only [nf]
  refine pa ?_;simp only [nf]
  refine plan_nil hH ?_
  clear hH
  intro w29 hH
  (try simp only [Exit.then, Exit.inBlock, ↓reduceIte, Nat.reduceEqDiff])
  refine ⟨4 - (i + 1), ?_, _, rfl, by kernel_rfl, ?_⟩
  · first | omega | (omega)
  simp only [ga]
  refine ⟨i + 1, rfl, ?_, rfl, ?_⟩
  ·
   exact hH
  · first | omega | (omega)
 ·
  (try simp only [cnd] at hc26)
  refine wp_exit ?_
  (try simp only [Exit.then, Exit.inBlock, ↓reduceIte, Nat.reduceEqDiff])
  refine hK12 _ _ ?_
  (try clear hK12 K12)
  refine wp_seq_k ?_
  intro K30 hK30
  refine wrt [.p 0, .p 1, .q 2, .p 3, .p 4, .p 5, .p 6, .p 7, .p 8, .e 9] ?_
  refine pp rfl rfl (pr_fieldAddr 0 rfl Tryd.underlying104 rfl rfl sz102) ?_;simp only [nf]
  refine pp rfl rfl (pr_idxA1 (i := 0) rfl rfl Tryd.underlying102 sz45 (by omega)) ?_;simp only [nf]
  refine pq rfl rfl (qr_load1 rfl Tryd.underlying45 rfl ((hH.blk 0 rfl).cell (arr64_get (by omega)))) ?_;simp only [nf]
  refine pm ?_;simp only [nf]
  refine pp rfl rfl (pr_bin rfl rfl (bin_shrc_u64 51 51 (by decide) rfl _)) ?_;simp only [nf]
  refine pp rfl rfl (pr_bin rfl rfl (bin_mul_u64 19 _)) ?_;simp only [nf]
  refine pp rfl rfl (pr_bin rfl rfl (bin_add_u64 _ _)) ?_;simp only [nf]
  refine pp rfl rfl (pr_fieldAddr 0 rfl Tryd.underlying104 rfl rfl sz102) ?_;simp only [nf]
  refine pp rfl rfl (pr_idxA1 (i := 0) rfl rfl Tryd.underlying102 sz45 (by omega)) ?_;simp only [nf]
  refine plan_store1 0 rfl rfl hH rfl rfl rfl rfl sz45 (by simp <;> omega) ?_
  clear hH
  intro w31 hH
  (try simp only [nf, nh, Value.cells, arrB_set] at hH ⊢)
  refine plan_nil hH ?_
  clear hH
  intro w32 hH
  refine hK30 _ _ ?_
  (try clear hK30 K30)
  refine wp_seq_k ?_
  intro K33 hK33
  refine wp_seq_k ?_
  intro K34 hK34
  refine wrt [.p 0] ?_
  refine pk 0 ?_;simp only [nf]
  refine plan_nil hH ?_
  clear hH
  intro w35 hH
  refine hK34 _ _ ?_
  (try clear hK34 K34)
  refine wp_block ?_
  obtain ⟨kc36, hkc37, hN⟩ := hH.name 1 rfl
  replace hH := hN; clear hN; simp only [List.set_cons_zero, List.set_cons_succ] at hH
  refine wp_loopT [36] [5, 37, 38, 39, 40, 41, 42, 43, 44, 45, 46, 47, 48, 49, 50, 51, 52, 53, 54, 55, 56, 57, 58, 59] (fun (n38 : Nat) (vs : List Value) (w' : World) => ∃ (i : Nat), vs = [I64 (i : Nat)] ∧ Hp [] w w' [(some b2, 104, arr64 5 (bcaL (upd (fCar (fCar (fCar f))) 0 ((fCar (fCar (fCar f))) 0 + (19 : UInt64) * (bovL (fCar (fCar (fCar f))) 4 >>> 51))) i)), (some b4, 22, kc36)] ∧ n38 = 4 - i ∧ i ≤ 4) (4 - 0) (by kernel_rfl) ?_ ?_
  ·
   simp only [ga]
   refine ⟨0, rfl, ?_, rfl, ?_⟩
   ·
    obtain rfl : i = 4 := by omega
    exact hH
   · first | omega | (omega)
  clear hH
  intro n38 vs39 w40 hR41 d1
  obtain ⟨i, rfl, hH, hn42, hf43⟩ := hR41
  simp only [putAll, putD, List.set_cons_zero, List.set_cons_succ, Nat.zero_add, Nat.reduceAdd]
  subst hkc37
  refine wp_seq_k ?_
  intro K44 hK44
  refine wrt [.p 0] ?_
  refine pp rfl rfl (pr_bin rfl rfl (by first | exact bin_lss_n (n := 4)  | exact bin_lss_i)) ?_;simp only [nf]
  refine plan_nil hH ?_
  clear hH
  intro w45 hH
  refine hK44 _ _ ?_
  (try clear hK44 K44)
  refine wp_seq_k ?_
  intro K46 hK46
  refine wp_cond_split rfl (fun hc47 => ?_) (fun hc47 => ?_)
  ·
   (try simp only [cnd] at hc47)
   refine wp_skip ?_
   refine hK46 _ _ ?_
   (try clear hK46 K46)
   refine wp_seq_k ?_
   intro K48 hK48
   refine wp_block ?_
   refine wp_seq_k ?_
   intro K49 hK49
   refine wrt [.p 0, .p 1] ?_
   refine pm (pa ?_);simp only [nf]
   refine plan_nil hH ?_
   clear hH
   intro w50 hH
   refine hK49 _ _ ?_
   (try clear hK49 K49)
   refine wp_seq_k ?_
   intro K51 hK51
   refine wrp [.p 0, .p 1, .p 2, .p 3, .p 5, .p 6, .p 7, .p 11, .q 4, .q 8, .p 9, .p 10, .p 12, .e 13] ?_
   refine pm ?_;simp only [nf]
   refine pp rfl rfl (pr_bin rfl rfl (by first | exact bin_add_n (n := 1) (by omega) | exact bin_add_i (by omega) (by omega))) ?_;simp only [nf]
   refine pp rfl rfl (pr_fieldAddr 0 rfl Tryd.underlying104 rfl rfl sz102) ?_;simp only [nf]
   refine pp rfl rfl (pr_idxA1 rfl rfl Tryd.underlying102 sz45 (by omega)) ?_;simp only [nf]
   refine pm ?_;simp only [nf]
   refine pp rfl rfl (pr_fieldAddr 0 rfl Tryd.underlying104 rfl rfl sz102) ?_;simp only [nf]
   refine pp rfl rfl (pr_idxA1 rfl rfl Tryd.underlying102 sz45 (by omega)) ?_;simp only [nf]
   refine pp rfl rfl (pr_fieldAddr 0 rfl Tryd.underlying104 rfl rfl sz102) ?_;simp only [nf]
   refine pq rfl rfl (qr_load1 rfl Tryd.underlying45 rfl ((hH.blk 0 rfl).cell (arr64_get (by omega)))) ?_;simp only [nf]
   refine pq rfl rfl (qr_load1 rfl Tryd.underlying45 rfl ((hH.blk 0 rfl).cell (arr64_get (by omega)))) ?_;simp only [nf]
   refine pp rfl rfl (pr_bin rfl rfl (bin_shrc_u64 51 51 (by decide) rfl _)) ?_;simp only [nf]
   refine pp rfl rfl (pr_bin rfl rfl (bin_add_u64 _ _)) ?_;simp only [nf]
   refine pp rfl rfl (pr_idxA1 rfl rfl Tryd.underlying102 sz45 (by omega)) ?_;simp only [nf]
   refine plan_store1 0 rfl rfl hH rfl rfl rfl rfl sz45 (by simp <;> omega) ?_
   clear hH
   intro w52 hH
   (try simp only [nf, nh, Value.cells, arrB_set] at hH ⊢)
   refine plan_nil hH ?_
   clear hH
   intro w53 hH
   refine hK51 _ _ ?_
   (try clear hK51 K51)
   refine wrt [.p 0, .p 1, .p 2, .q 3, .p 4, .p 5, .p 6, .e 7] ?_
   refine pm ?_;simp only [nf]
   refine pp rfl rfl (pr_fieldAddr 0 rfl Tryd.underlying104 rfl rfl sz102) ?_;simp only [nf]
   refine pp rfl rfl (pr_idxA1 rfl rfl Tryd.underlying102 sz45 (by omega)) ?_;simp only [nf]
   refine pq rfl rfl (qr_load1 rfl Tryd.underlying45 rfl ((hH.blk 0 rfl).cell (arr64_get (by omega)))) ?_;simp only [nf]
   refine pp rfl rfl (pr_bin rfl rfl (bin_and_u64 _ 2251799813685247)) ?_;simp only [nf]
   refine pp rfl rfl (pr_fieldAddr 0 rfl Tryd.underlying104 rfl rfl sz102) ?_;simp only [nf]
   refine pp rfl rfl (pr_idxA1 rfl rfl Tryd.underlying102 sz45 (by omega)) ?_;simp only [nf]
   refine plan_store1 0 rfl rfl hH rfl rfl rfl rfl sz45 (by simp <;> omega) ?_
   clear hH
   intro w54 hH
   (try simp only [nf, nh, Value.cells, arrB_set] at hH ⊢)
   refine plan_nil hH ?_
   clear hH
   intro w55 hH
   refine hK48 _ _ ?_
   (try clear hK48 K48)
   refine wrt [.p 0, .p 1] ?_
   refine pp rfl rfl (pr_bin rfl rfl (by first | exact bin_add_n (n := 1) (by omega) | exact bin_add_i (by omega) (by omega))) ?_;simp only [nf]
   refine pm ?_;simp only [nf]
   refine plan_nil hH ?_
   clear hH
   intro w56 hH
   (try simp only [Exit.then, Exit.inBlock, ↓reduceIte, Nat.reduceEqDiff])
   refine ⟨4 - (i + 1), ?_, _, rfl, by kernel_rfl, ?_⟩
   · first | omega | (omega)
   simp only [ga]
   refine ⟨i + 1, rfl, ?_, rfl, ?_⟩
   ·
    exact hH
   · first | omega | (omega)
  ·
   (try simp only [cnd] at hc47)
   refine wp_exit ?_
   (try simp only [Exit.then, Exit.inBlock, ↓reduceIte, Nat.reduceEqDiff])
   refine hK33 _ _ ?_
   (try clear hK33 K33)
   refine wp_seq_k ?_
   intro K57 hK57
   refine wrt [.p 0, .p 1, .q 2, .p 3, .p 4, .p 5, .e 6] ?_
   refine pp rfl rfl (pr_fieldAddr 0 rfl Tryd.underlying104 rfl rfl sz102) ?_;simp only [nf]
   refine pp rfl rfl (pr_idxA1 (i := 4) rfl rfl Tryd.underlying102 sz45 (by omega)) ?_;simp only [nf]
   refine pq rfl rfl (qr_load1 rfl Tryd.underlying45 rfl ((hH.blk 0 rfl).cell (arr64_get (by omega)))) ?_;simp only [nf]
   refine pp rfl rfl (pr_bin rfl rfl (bin_and_u64 _ 2251799813685247)) ?_;simp only [nf]
   refine pp rfl rfl (pr_fieldAddr 0 rfl Tryd.underlying104 rfl rfl sz102) ?_;simp only [nf]
   refine pp rfl rfl (pr_idxA1 (i := 4) rfl rfl Tryd.underlying102 sz45 (by omega)) ?_;simp only [nf]
   refine plan_store1 0 rfl rfl hH rfl rfl rfl rfl sz45 (by simp <;> omega) ?_
   clear hH
   intro w58 hH
   (try simp only [nf, nh, Value.cells, arrB_set] at hH ⊢)
   refine plan_nil hH ?_
   clear hH
   intro w59 hH
   refine hK57 _ _ ?_
   (try clear hK57 K57)
   refine wp_seq_k ?_
   intro K60 hK60
   refine wrt [.x 0] ?_
   refine plan_alloc rfl rfl hH zc22 ?_
   clear hH
   intro b61 w62 hH
   (try simp only [nf, nh, Value.cells, arrB_set] at hH ⊢)
   refine plan_nil hH ?_
   clear hH
   intro w63 hH
   refine hK60 _ _ ?_
   (try clear hK60 K60)
   refine wp_seq_k ?_
   intro K64 hK64
   refine wp_seq_k ?_
   intro K65 hK65
   refine wrt [.p 0] ?_
   refine pk 0 ?_;simp only [nf]
   refine plan_nil hH ?_
   clear hH
   intro w66 hH
   refine hK65 _ _ ?_
   (try clear hK65 K65)
   refine wp_block ?_
   obtain ⟨kc67, hkc68, hN⟩ := hH.name 1 rfl
   replace hH := hN; clear hN; simp only [List.set_cons_zero, List.set_cons_succ] at hH
   refine wp_loopT [66] [7, 67, 68, 69, 70, 71, 72, 73, 74, 75, 76, 77, 78, 79, 80, 81, 82, 83, 84, 85, 86, 87, 88] (fun (n69 : Nat) (vs : List Value) (w' : World) => ∃ (i : Nat), vs = [I64 (i : Nat)] ∧ Hp [] w w' [(some b2, 104, arr64 5 (bcan (fCar (fCar (fCar f))))), (some b4, 22, kc67), (some b61, 22, arr8 32 (foutL (bcan (fCar (fCar (fCar f)))) i))] ∧ n69 = 255 - i ∧ i ≤ 255) (255 - 0) (by kernel_rfl) ?_ ?_
   ·
    simp only [ga]
    refine ⟨0, rfl, ?_, rfl, ?_⟩
    ·
     obtain rfl : i = 4 := by omega
     exact hH
    · first | omega | (omega)
   clear hH
   intro n69 vs70 w71 hR72 d2
   obtain ⟨i, rfl, hH, hn73, hf74⟩ := hR72
   simp only [putAll, putD, List.set_cons_zero, List.set_cons_succ, Nat.zero_add, Nat.reduceAdd]
   subst hkc68
   refine wp_seq_k ?_
   intro K75 hK75
   refine wrt [.p 0] ?_
   refine pp rfl rfl (pr_bin rfl rfl (by first | exact bin_lss_n (n := 255)  | exact bin_lss_i)) ?_;simp only [nf]
   refine plan_nil hH ?_
   clear hH
   intro w76 hH
   refine hK75 _ _ ?_
   (try clear hK75 K75)
   refine wp_seq_k ?_
   intro K77 hK77
   refine wp_cond_split rfl (fun hc78 => ?_) (fun hc78 => ?_)
   ·
    (try simp only [cnd] at hc78)
    refine wp_skip ?_
    refine hK77 _ _ ?_
    (try clear hK77 K77)
    refine wp_seq_k ?_
    intro K79 hK79
    refine wp_block ?_
    refine wp_seq_k ?_
    intro K80 hK80
    refine wrt [.p 0, .p 1] ?_
    refine pm (pa ?_);simp only [nf]
    refine plan_nil hH ?_
    clear hH
    intro w81 hH
    refine hK80 _ _ ?_
    (try clear hK80 K80)
    refine wrp [.p 0, .p 1, .p 2, .p 4, .p 5, .p 6, .p 7, .p 9, .p 10, .p 14, .p 15, .q 3, .q 8, .p 11, .p 12, .p 13, .p 16, .p 17, .p 18, .e 19] ?_
    refine pm ?_;simp only [nf]
    refine pp rfl rfl (pr_bin rfl rfl (by first | exact bin_quo_n (n := 8) (by omega) (by omega))) ?_;simp only [nf]
    refine pp rfl rfl (pr_idxA1 rfl rfl Tryd.underlying22 sz5 (by omega)) ?_;simp only [nf]
    refine pm ?_;simp only [nf]
    refine pp rfl rfl (pr_bin rfl rfl (by first | exact bin_quo_n (n := 51) (by omega) (by omega))) ?_;simp only [nf]
    refine pp rfl rfl (pr_fieldAddr 0 rfl Tryd.underlying104 rfl rfl sz102) ?_;simp only [nf]
    refine pp rfl rfl (pr_idxA1 rfl rfl Tryd.underlying102 sz45 (by omega)) ?_;simp only [nf]
    refine pm ?_;simp only [nf]
    refine pp rfl rfl (pr_bin rfl rfl (by first | exact bin_rem_n (n := 51) (by omega))) ?_;simp only [nf]
    refine pm ?_;simp only [nf]
    refine pp rfl rfl (pr_bin rfl rfl (by first | exact bin_rem_n (n := 8) (by omega))) ?_;simp only [nf]
    refine pq rfl rfl (qr_load1 rfl Tryd.underlying5 rfl ((hH.blk 2 rfl).cell (arr8_get (by omega)))) ?_;simp only [nf]
    refine pq rfl rfl (qr_load1 rfl Tryd.underlying45 rfl ((hH.blk 0 rfl).cell (arr64_get (by omega)))) ?_;simp only [nf]
    refine pp rfl rfl (pr_bin rfl rfl (bin_shr_u64 _ _ _)) ?_;simp only [nf]
    refine pp rfl rfl (pr_bin rfl rfl (bin_and_u64 _ 1)) ?_;simp only [nf]
    refine pp rfl rfl (pr_conv rfl (cnv_u64_u8 _ Tryd.underlying45 Tryd.underlying5)) ?_;simp only [nf]
    refine pp rfl rfl (pr_bin rfl rfl (bin_shl_u8 _ _ _)) ?_;simp only [nf]
    refine pp rfl rfl (pr_bin rfl rfl (bin_or_u8 _ _)) ?_;simp only [nf]
    refine pp rfl rfl (pr_idxA1 rfl rfl Tryd.underlying22 sz5 (by omega)) ?_;simp only [nf]
    refine plan_store1 2 rfl rfl hH rfl rfl rfl rfl sz5 (by simp <;> omega) ?_
    clear hH
    intro w82 hH
    (try simp only [nf, nh, Value.cells, arrB_set] at hH ⊢)
    refine plan_nil hH ?_
    clear hH
    intro w83 hH
    refine hK79 _ _ ?_
    (try clear hK79 K79)
    refine wrt [.p 0, .p 1] ?_
    refine pp rfl rfl (pr_bin rfl rfl (by first | exact bin_add_n (n := 1) (by omega) | exact bin_add_i (by omega) (by omega))) ?_;simp only [nf]
    refine pm ?_;simp only [nf]
    refine plan_nil hH ?_
    clear hH
    intro w84 hH
    (try simp only [Exit.then, Exit.inBlock, ↓reduceIte, Nat.reduceEqDiff])
    refine ⟨255 - (i + 1), ?_, _, rfl, by kernel_rfl, ?_⟩
    · first | omega | (omega)
    simp only [ga]
    refine ⟨i + 1, rfl, ?_, rfl, ?_⟩
    ·
     exact hH
    · first | omega | (omega)
   ·
    (try simp only [cnd] at hc78)
    refine wp_exit ?_
    (try simp only [Exit.then, Exit.inBlock, ↓reduceIte, Nat.reduceEqDiff])
    refine hK64 _ _ ?_
    (try clear hK64 K64)
    refine wp_seq_k ?_
    intro K85 hK85
    refine wrt [.q 0, .e 1] ?_
    refine pq rfl rfl (qr_loadW rfl (hH.blk 2 rfl) Tryd.underlying22 rfl sz22 (by simp)) ?_;simp only [nf]
    refine plan_storeW 1 rfl rfl hH rfl rfl rfl one_arr8 sz22 (by simp) (by simp) ?_
    clear hH
    intro w86 hH
    (try simp only [nf, nh, Value.cells, arrB_set] at hH ⊢)
    refine plan_nil hH ?_
    clear hH
    intro w87 hH
    refine hK85 _ _ ?_
    (try clear hK85 K85)
    refine wp_ret ?_
    (try simp only [Exit.then, Exit.inBlock, ↓reduceIte, Nat.reduceEqDiff])
    refine BP.retc rfl rfl (hH.blk 1 rfl) Tryd.underlying22 rfl sz22 (by simp) ?_
    obtain rfl : i = 255 := by omega
    exact ⟨rfl, hH.chg⟩
theorem fadd_calls (f g : Five) (w : World) : Ret Tryd.prog 82 #[.agg (arr64 5 f), .agg (arr64 5 g)] w fun v w' => v = .agg (arr64 5 (fAdd f g)) ∧ Chg [] w w' := by
 refine Ret.enter Tryd.func82 rfl ?_
 simp only [Tryd.ntmps82, fe, Nat.reduceAdd, Nat.reduceSub]
 have hH := Hp.start [] w
 refine wp_seq_k ?_
 intro K1 hK1
 refine wrt [.x 0, .x 1, .x 2] ?_
 refine plan_box rfl rfl hH rfl ?_
 clear hH
 intro b2 w3 hH
 (try simp only [nf, nh, Value.cells, arrB_set] at hH ⊢)
 refine plan_box rfl rfl hH rfl ?_
 clear hH
 intro b4 w5 hH
 (try simp only [nf, nh, Value.cells, arrB_set] at hH ⊢)
 refine plan_alloc rfl rfl hH zc104 ?_
 clear hH
 intro b6 w7 hH
 (try simp only [nf, nh, Value.cells, arrB_set] at hH ⊢)
 refine plan_nil hH ?_
 clear hH
 intro w8 hH
 refine hK1 _ _ ?_
 (try clear hK1 K1)
 refine wp_seq_k ?_
 intro K9 hK9
 refine wp_seq_k ?_
 intro K10 hK10
 refine wrt [.p 0] ?_
 refine pk 0 ?_;simp only [nf]
 refine plan_nil hH ?_
 clear hH
 intro w11 hH
 refine hK10 _ _ ?_
 (try clear hK10 K10)
 refine wp_block ?_
 obtain ⟨kc12, hkc13, hN⟩ := hH.name 1 rfl
 replace hH := hN; clear hN; simp only [List.set_cons_zero, List.set_cons_succ] at hH
 obtain ⟨kc14, hkc15, hN⟩ := hH.name 2 rfl
 replace hH := hN; clear hN; simp only [List.set_cons_zero, List.set_cons_succ] at hH
 refine wp_loopT [6] [5, 7, 8, 9, 10, 11, 12, 13, 14, 15, 16, 17, 18, 19, 20] (fun (n16 : Nat) (vs : List Value) (w' : World) => ∃ (i : Nat), vs = [I64 (i : Nat)] ∧ Hp [] w w' [(some b2, 104, arr64 5 (addL f g i)), (some b4, 104, kc12), (some b6, 104, kc14)] ∧ n16 = 5 - i ∧ i ≤ 5) (5 - 0) (by kernel_rfl) ?_ ?_
 ·
  simp only [ga]
  refine ⟨0, rfl, ?_, rfl, ?_⟩
  ·
   exact hH
  · first | omega | (omega)
 clear hH
 intro n16 vs17 w18 hR19 d0
 obtain ⟨i, rfl, hH, hn20, hf21⟩ := hR19
 simp only [putAll, putD, List.set_cons_zero, List.set_cons_succ, Nat.zero_add, Nat.reduceAdd]
 subst hkc13 hkc15
 refine wp_seq_k ?_
 intro K22 hK22
 refine wrt [.p 0] ?_
 refine pp rfl rfl (pr_bin rfl rfl (by first | exact bin_lss_n (n := 5)  | exact bin_lss_i)) ?_;simp only [nf]
 refine plan_nil hH ?_
 clear hH
 intro w23 hH
 refine hK22 _ _ ?_
 (try clear hK22 K22)
 refine wp_seq_k ?_
 intro K24 hK24
 refine wp_cond_split rfl (fun hc25 => ?_) (fun hc25 => ?_)
 ·
  (try simp only [cnd] at hc25)
  refine wp_skip ?_
  refine hK24 _ _ ?_
  (try clear hK24 K24)
  refine wp_seq_k ?_
  intro K26 hK26
  refine wp_block ?_
  refine wp_seq_k ?_
  intro K27 hK27
  refine wrt [.p 0, .p 1] ?_
  refine pm (pa ?_);simp only [nf]
  refine plan_nil hH ?_
  clear hH
  intro w28 hH
  refine hK27 _ _ ?_
  (try clear hK27 K27)
  refine wrp [.p 0, .p 1, .p 2, .p 4, .p 5, .p 6, .p 9, .q 3, .q 7, .p 8, .p 10, .e 11] ?_
  refine pm ?_;simp only [nf]
  refine pp rfl rfl (pr_fieldAddr 0 rfl Tryd.underlying104 rfl rfl sz102) ?_;simp only [nf]
  refine pp rfl rfl (pr_idxA1 rfl rfl Tryd.underlying102 sz45 (by omega)) ?_;simp only [nf]
  refine pm ?_;simp only [nf]
  refine pp rfl rfl (pr_fieldAddr 0 rfl Tryd.underlying104 rfl rfl sz102) ?_;simp only [nf]
  refine pp rfl rfl (pr_idxA1 rfl rfl Tryd.underlying102 sz45 (by omega)) ?_;simp only [nf]
  refine pp rfl rfl (pr_fieldAddr 0 rfl Tryd.underlying104 rfl rfl sz102) ?_;simp only [nf]
  refine pq rfl rfl (qr_load1 rfl Tryd.underlying45 rfl ((hH.blk 0 rfl).cell (arr64_get (by omega)))) ?_;simp only [nf]
  refine pq rfl rfl (qr_load1 rfl Tryd.underlying45 rfl ((hH.blk 1 rfl).cell (arr64_get (by omega)))) ?_;simp only [nf]
  refine pp rfl rfl (pr_bin rfl rfl (bin_add_u64 _ _)) ?_;simp only [nf]
  refine pp rfl rfl (pr_idxA1 rfl rfl Tryd.underlying102 sz45 (by omega)) ?_;simp only [nf]
  refine plan_store1 0 rfl rfl hH rfl rfl rfl rfl sz45 (by simp <;> omega) ?_
  clear hH
  intro w29 hH
  (try simp only [nf, nh, Value.cells, arrB_set] at hH ⊢)
  refine plan_nil hH ?_
  clear hH
  intro w30 hH
  refine hK26 _ _ ?_
  (try clear hK26 K26)
  refine wrt [.p 0, .p 1] ?_
  refine pp rfl rfl (pr_bin rfl rfl (by first | exact bin_add_n (n := 1) (by omega) | exact bin_add_i (by omega) (by omega))) ?_;simp only [nf]
  refine pm ?_;simp only [nf]
  refine plan_nil hH ?_
  clear hH
  intro w31 hH
  (try simp only [Exit.then, Exit.inBlock, ↓reduceIte, Nat.reduceEqDiff])
  refine ⟨5 - (i + 1), ?_, _, rfl, by kernel_rfl, ?_⟩
  · first | omega | (omega)
  simp only [ga]
  refine ⟨i + 1, rfl, ?_, rfl, ?_⟩
  ·
   exact hH
  · first | omega | (omega)
 ·
  (try simp only [cnd] at hc25)
  refine wp_exit ?_
  (try simp only [Exit.then, Exit.inBlock, ↓reduceIte, Nat.reduceEqDiff])
  refine hK9 _ _ ?_
  (try clear hK9 K9)
  refine wp_seq_k ?_
  intro K32 hK32
  refine wrt [.q 0, .q 1, .e 2] ?_
  refine pq rfl rfl (qr_loadW rfl (hH.blk 0 rfl) Tryd.underlying104 rfl sz104 (by simp)) ?_;simp only [nf]
  refine pq rfl rfl (qr_call cf86 (fun w' hw => fcarry_calls _ w') rfl) ?_;simp only [nf]
  refine plan_storeW 2 rfl rfl hH rfl rfl rfl one_arr64 sz104 (by simp) (by simp) ?_
  clear hH
  intro w33 hH
  (try simp only [nf, nh, Value.cells, arrB_set] at hH ⊢)
  refine plan_nil hH ?_
  clear hH
  intro w34 hH
  refine hK32 _ _ ?_
  (try clear hK32 K32)
  refine wp_ret ?_
  (try simp only [Exit.then, Exit.inBlock, ↓reduceIte, Nat.reduceEqDiff])
  refine BP.retc rfl rfl (hH.blk 2 rfl) Tryd.underlying104 rfl sz104 (by simp) ?_
  obtain rfl : i = 5 := by omega
  exact ⟨rfl, hH.chg⟩
theorem fsub_calls (f g : Five) (w : World) : Ret Tryd.prog 83 #[.agg (arr64 5 f), .agg (arr64 5 g)] w fun v w' => v = .agg (arr64 5 (fSub f g)) ∧ Chg [] w w' := by
 refine Ret.enter Tryd.func83 rfl ?_
 simp only [Tryd.ntmps83, fe, Nat.reduceAdd, Nat.reduceSub]
 have hH := Hp.start [] w
 refine wp_seq_k ?_
 intro K1 hK1
 refine wrt [.x 0, .x 1, .x 2] ?_
 refine plan_box rfl rfl hH rfl ?_
 clear hH
 intro b2 w3 hH
 (try simp only [nf, nh, Value.cells, arrB_set] at hH ⊢)
 refine plan_box rfl rfl hH rfl ?_
 clear hH
 intro b4 w5 hH
 (try simp only [nf, nh, Value.cells, arrB_set] at hH ⊢)
 refine plan_alloc rfl rfl hH zc104 ?_
 clear hH
 intro b6 w7 hH
 (try simp only [nf, nh, Value.cells, arrB_set] at hH ⊢)
 refine plan_nil hH ?_
 clear hH
 intro w8 hH
 refine hK1 _ _ ?_
 (try clear hK1 K1)
 refine wp_seq_k ?_
 intro K9 hK9
 refine wp_seq_k ?_
 intro K10 hK10
 refine wrt [.p 0] ?_
 refine pk 0 ?_;simp only [nf]
 refine plan_nil hH ?_
 clear hH
 intro w11 hH
 refine hK10 _ _ ?_
 (try clear hK10 K10)
 refine wp_block ?_
 obtain ⟨kc12, hkc13, hN⟩ := hH.name 1 rfl
 replace hH := hN; clear hN; simp only [List.set_cons_zero, List.set_cons_succ] at hH
 obtain ⟨kc14, hkc15, hN⟩ := hH.name 2 rfl
 replace hH := hN; clear hN; simp only [List.set_cons_zero, List.set_cons_succ] at hH
 refine wp_loopT [7] [5, 6, 8, 9, 10, 11, 12, 13, 14, 15, 16, 17, 18, 19, 20, 21, 22, 23, 24, 25, 26, 27] (fun (n16 : Nat) (vs : List Value) (w' : World) => ∃ (i : Nat), vs = [I64 (i : Nat)] ∧ Hp [] w w' [(some b2, 104, arr64 5 (subL f g i)), (some b4, 104, kc12), (some b6, 104, kc14)] ∧ n16 = 5 - i ∧ i ≤ 5) (5 - 0) (by kernel_rfl) ?_ ?_
 ·
  simp only [ga]
  refine ⟨0, rfl, ?_, rfl, ?_⟩
  ·
   exact hH
  · first | omega | (omega)
 clear hH
 intro n16 vs17 w18 hR19 d0
 obtain ⟨i, rfl, hH, hn20, hf21⟩ := hR19
 simp only [putAll, putD, List.set_cons_zero, List.set_cons_succ, Nat.zero_add, Nat.reduceAdd]
 subst hkc13 hkc15
 refine wp_seq_k ?_
 intro K22 hK22
 refine wrt [.p 0] ?_
 refine pp rfl rfl (pr_bin rfl rfl (by first | exact bin_lss_n (n := 5)  | exact bin_lss_i)) ?_;simp only [nf]
 refine plan_nil hH ?_
 clear hH
 intro w23 hH
 refine hK22 _ _ ?_
 (try clear hK22 K22)
 refine wp_seq_k ?_
 intro K24 hK24
 refine wp_cond_split rfl (fun hc25 => ?_) (fun hc25 => ?_)
 ·
  (try simp only [cnd] at hc25)
  refine wp_skip ?_
  refine hK24 _ _ ?_
  (try clear hK24 K24)
  refine wp_seq_k ?_
  intro K26 hK26
  refine wp_block ?_
  refine wp_seq_k ?_
  intro K27 hK27
  refine wrt [.p 0, .p 1] ?_
  refine pm (pa ?_);simp only [nf]
  refine plan_nil hH ?_
  clear hH
  intro w28 hH
  refine hK27 _ _ ?_
  (try clear hK27 K27)
  refine wp_seq_k ?_
  intro K29 hK29
  refine wrt [.p 0] ?_
  refine pa ?_;simp only [nf]
  refine plan_nil hH ?_
  clear hH
  intro w30 hH
  rw [show (Value.int IntKind.u64 9007199254740988) = V64 9007199254740988 from rfl]
  refine hK29 _ _ ?_
  (try clear hK29 K29)
  refine wp_seq_k ?_
  intro K31 hK31
  refine wp_seq_k ?_
  intro K32 hK32
  refine wrt [.p 0, .p 1] ?_
  refine pm ?_;simp only [nf]
  refine pp rfl rfl (pr_bin rfl rfl (by first | exact bin_eql_n (n := 0)  | exact bin_eql_i)) ?_;simp only [nf]
  refine plan_nil hH ?_
  clear hH
  intro w33 hH
  refine hK32 _ _ ?_
  (try clear hK32 K32)
  refine wp_cond_split rfl (fun hc34 => ?_) (fun hc34 => ?_)
  ·
   (try simp only [cnd] at hc34)
   obtain rfl : i = 0 := by omega
   refine wrt [.p 0, .p 1, .p 2] ?_
   refine pm ?_;simp only [nf]
   refine pp rfl rfl (pr_bin rfl rfl (bin_sub_u64 _ 72)) ?_;simp only [nf]
   refine pa ?_;simp only [nf]
   refine plan_nil hH ?_
   clear hH
   intro w35 hH
   refine hK31 _ _ ?_
   (try clear hK31 K31)
   refine wrp [.p 0, .p 1, .p 2, .p 4, .p 5, .p 6, .p 7, .p 11, .q 3, .q 8, .p 9, .p 10, .p 12, .e 13] ?_
   refine pm ?_;simp only [nf]
   refine pp rfl rfl (pr_fieldAddr 0 rfl Tryd.underlying104 rfl rfl sz102) ?_;simp only [nf]
   refine pp rfl rfl (pr_idxA1 rfl rfl Tryd.underlying102 sz45 (by omega)) ?_;simp only [nf]
   refine pm (pm ?_);simp only [nf]
   refine pp rfl rfl (pr_fieldAddr 0 rfl Tryd.underlying104 rfl rfl sz102) ?_;simp only [nf]
   refine pp rfl rfl (pr_idxA1 rfl rfl Tryd.underlying102 sz45 (by omega)) ?_;simp only [nf]
   refine pp rfl rfl (pr_fieldAddr 0 rfl Tryd.underlying104 rfl rfl sz102) ?_;simp only [nf]
   refine pq rfl rfl (qr_load1 rfl Tryd.underlying45 rfl ((hH.blk 0 rfl).cell (arr64_get (by omega)))) ?_;simp only [nf]
   refine pq rfl rfl (qr_load1 rfl Tryd.underlying45 rfl ((hH.blk 1 rfl).cell (arr64_get (by omega)))) ?_;simp only [nf]
   refine pp rfl rfl (pr_bin rfl rfl (bin_sub_u64 _ _)) ?_;simp only [nf]
   refine pp rfl rfl (pr_bin rfl rfl (bin_add_u64 _ _)) ?_;simp only [nf]
   refine pp rfl rfl (pr_idxA1 rfl rfl Tryd.underlying102 sz45 (by omega)) ?_;simp only [nf]
   refine plan_store1 0 rfl rfl hH rfl rfl rfl rfl sz45 (by simp <;> omega) ?_
   clear hH
   intro w36 hH
   (try simp only [nf, nh, Value.cells, arrB_set] at hH ⊢)
   refine plan_nil hH ?_
   clear hH
   intro w37 hH
   refine hK26 _ _ ?_
   (try clear hK26 K26)
   refine wrt [.p 0, .p 1] ?_
   refine pp rfl rfl (pr_bin rfl rfl (by first | exact bin_add_n (n := 1) (by omega) | exact bin_add_i (by omega) (by omega))) ?_;simp only [nf]
   refine pm ?_;simp only [nf]
   refine plan_nil hH ?_
   clear hH
   intro w38 hH
   (try simp only [Exit.then, Exit.inBlock, ↓reduceIte, Nat.reduceEqDiff])
   refine ⟨5 - (0 + 1), ?_, _, rfl, by kernel_rfl, ?_⟩
   · first | omega | (omega)
   simp only [ga]
   refine ⟨0 + 1, rfl, ?_, rfl, ?_⟩
   ·
    exact hH
   · first | omega | (omega)
  ·
   (try simp only [cnd] at hc34)
   have hm : most i = 9007199254740988 := if_neg (by omega)
   refine wp_skip ?_
   refine hK31 _ _ ?_
   (try clear hK31 K31)
   refine wrp [.p 0, .p 1, .p 2, .p 4, .p 5, .p 6, .p 7, .p 11, .q 3, .q 8, .p 9, .p 10, .p 12, .e 13] ?_
   refine pm ?_;simp only [nf]
   refine pp rfl rfl (pr_fieldAddr 0 rfl Tryd.underlying104 rfl rfl sz102) ?_;simp only [nf]
   refine pp rfl rfl (pr_idxA1 rfl rfl Tryd.underlying102 sz45 (by omega)) ?_;simp only [nf]
   refine pm (pm ?_);simp only [nf]
   refine pp rfl rfl (pr_fieldAddr 0 rfl Tryd.underlying104 rfl rfl sz102) ?_;simp only [nf]
   refine pp rfl rfl (pr_idxA1 rfl rfl Tryd.underlying102 sz45 (by omega)) ?_;simp only [nf]
   refine pp rfl rfl (pr_fieldAddr 0 rfl Tryd.underlying104 rfl rfl sz102) ?_;simp only [nf]
   refine pq rfl rfl (qr_load1 rfl Tryd.underlying45 rfl ((hH.blk 0 rfl).cell (arr64_get (by omega)))) ?_;simp only [nf]
   refine pq rfl rfl (qr_load1 rfl Tryd.underlying45 rfl ((hH.blk 1 rfl).cell (arr64_get (by omega)))) ?_;simp only [nf]
   refine pp rfl rfl (pr_bin rfl rfl (bin_sub_u64 _ _)) ?_;simp only [nf]
   refine pp rfl rfl (pr_bin rfl rfl (bin_add_u64 _ _)) ?_;simp only [nf]
   refine pp rfl rfl (pr_idxA1 rfl rfl Tryd.underlying102 sz45 (by omega)) ?_;simp only [nf]
   refine plan_store1 0 rfl rfl hH rfl rfl rfl rfl sz45 (by simp <;> omega) ?_
   clear hH
   intro w39 hH
   (try simp only [nf, nh, Value.cells, arrB_set] at hH ⊢)
   refine plan_nil hH ?_
   clear hH
   intro w40 hH
   refine hK26 _ _ ?_
   (try clear hK26 K26)
   refine wrt [.p 0, .p 1] ?_
   refine pp rfl rfl (pr_bin rfl rfl (by first | exact bin_add_n (n := 1) (by omega) | exact bin_add_i (by omega) (by omega))) ?_;simp only [nf]
   refine pm ?_;simp only [nf]
   refine plan_nil hH ?_
   clear hH
   intro w41 hH
   (try simp only [Exit.then, Exit.inBlock, ↓reduceIte, Nat.reduceEqDiff])
   refine ⟨5 - (i + 1), ?_, _, rfl, by kernel_rfl, ?_⟩
   · first | omega | (omega)
   simp only [ga]
   refine ⟨i + 1, rfl, ?_, rfl, ?_⟩
   ·
    rw [show subL f g (i + 1) = upd (subL f g i) i (subL f g i i + (9007199254740988 - g i)) by rw [subL, hm]]
    exact hH
   · first | omega | (omega)
 ·
  (try simp only [cnd] at hc25)
  refine wp_exit ?_
  (try simp only [Exit.then, Exit.inBlock, ↓reduceIte, Nat.reduceEqDiff])
  refine hK9 _ _ ?_
  (try clear hK9 K9)
  refine wp_seq_k ?_
  intro K42 hK42
  refine wrt [.q 0, .q 1, .e 2] ?_
  refine pq rfl rfl (qr_loadW rfl (hH.blk 0 rfl) Tryd.underlying104 rfl sz104 (by simp)) ?_;simp only [nf]
  refine pq rfl rfl (qr_call cf86 (fun w' hw => fcarry_calls _ w') rfl) ?_;simp only [nf]
  refine plan_storeW 2 rfl rfl hH rfl rfl rfl one_arr64 sz104 (by simp) (by simp) ?_
  clear hH
  intro w43 hH
  (try simp only [nf, nh, Value.cells, arrB_set] at hH ⊢)
  refine plan_nil hH ?_
  clear hH
  intro w44 hH
  refine hK42 _ _ ?_
  (try clear hK42 K42)
  refine wp_ret ?_
  (try simp only [Exit.then, Exit.inBlock, ↓reduceIte, Nat.reduceEqDiff])
  refine BP.retc rfl rfl (hH.blk 2 rfl) Tryd.underlying104 rfl sz104 (by simp) ?_
  obtain rfl : i = 5 := by omega
  exact ⟨rfl, hH.chg⟩
theorem add64_now (x y : UInt64) (w : World) : (callFunc 85 #[V64 x, V64 y, .int .u64 0]).run Tryd.prog w = .ok (.value (.tuple #[V64 (x + y), V64 (addC x y)])) w := by
  rw [run_callFunc_extern (fn := Tryd.f85) Tryd.func85 (by kernel_rfl) (by kernel_rfl) (by kernel_rfl) (e := add64Entry) (by kernel_rfl), run_add64 x.toNat y.toNat 0 (by omega) (by omega) (by omega) (by omega)]
  have hx := x.toNat_lt; have hy := y.toNat_lt
  have e1 : ((x.toNat : Int) + y.toNat + 0) % 18446744073709551616 = ((x + y).toNat : Int) := by rw [UInt64.toNat_add]; omega
  have e2 : ((x.toNat : Int) + y.toNat + 0) / 18446744073709551616 = ((addC x y).toNat : Int) := by
    unfold addC
    rw [UInt64.toNat_ofNat_of_lt' (by have : UInt64.size = 18446744073709551616 := rfl; omega)]; omega
  rw [e1, e2]; rfl
theorem mul64_calls (x y : UInt64) (w : World) : Ret Tryd.prog 84 #[V64 x, V64 y] w fun v w' => v = .tuple #[V64 (mulH x y), V64 (x * y)] ∧ Chg [] w w' := by
 refine Ret.enter Tryd.func84 rfl ?_
 simp only [Tryd.ntmps84, fe, Nat.reduceAdd, Nat.reduceSub]
 have hH := Hp.start [] w
 refine wp_seq_k ?_
 intro K1 hK1
 refine wrt [.p 0, .p 1] ?_
 refine pa (pa ?_);simp only [nf]
 refine plan_nil hH ?_
 clear hH
 intro w2 hH
 refine hK1 _ _ ?_
 (try clear hK1 K1)
 refine wp_seq_k ?_
 intro K3 hK3
 refine wrt [.p 0, .p 1, .p 2] ?_
 refine pm ?_;simp only [nf]
 refine pp rfl rfl (pr_bin rfl rfl (bin_and_u64 _ 4294967295)) ?_;simp only [nf]
 refine pa ?_;simp only [nf]
 refine plan_nil hH ?_
 clear hH
 intro w4 hH
 refine hK3 _ _ ?_
 (try clear hK3 K3)
 refine wp_seq_k ?_
 intro K5 hK5
 refine wrt [.p 0, .p 1, .p 2] ?_
 refine pm ?_;simp only [nf]
 refine pp rfl rfl (pr_bin rfl rfl (bin_shrc_u64 32 32 (by decide) rfl _)) ?_;simp only [nf]
 refine pa ?_;simp only [nf]
 refine plan_nil hH ?_
 clear hH
 intro w6 hH
 refine hK5 _ _ ?_
 (try clear hK5 K5)
 refine wp_seq_k ?_
 intro K7 hK7
 refine wrt [.p 0, .p 1, .p 2] ?_
 refine pm ?_;simp only [nf]
 refine pp rfl rfl (pr_bin rfl rfl (bin_and_u64 _ 4294967295)) ?_;simp only [nf]
 refine pa ?_;simp only [nf]
 refine plan_nil hH ?_
 clear hH
 intro w8 hH
 refine hK7 _ _ ?_
 (try clear hK7 K7)
 refine wp_seq_k ?_
 intro K9 hK9
 refine wrt [.p 0, .p 1, .p 2] ?_
 refine pm ?_;simp only [nf]
 refine pp rfl rfl (pr_bin rfl rfl (bin_shrc_u64 32 32 (by decide) rfl _)) ?_;simp only [nf]
 refine pa ?_;simp only [nf]
 refine plan_nil hH ?_
 clear hH
 intro w10 hH
 refine hK9 _ _ ?_
 (try clear hK9 K9)
 refine wp_seq_k ?_
 intro K11 hK11
 refine wrt [.p 0, .p 1, .p 2, .p 3] ?_
 refine pm (pm ?_);simp only [nf]
 refine pp rfl rfl (pr_bin rfl rfl (bin_mul_u64 _ _)) ?_;simp only [nf]
 refine pa ?_;simp only [nf]
 refine plan_nil hH ?_
 clear hH
 intro w12 hH
 refine hK11 _ _ ?_
 (try clear hK11 K11)
 refine wp_seq_k ?_
 intro K13 hK13
 refine wrt [.p 0, .p 1, .p 2, .p 3, .p 4, .p 5, .p 6] ?_
 refine pm (pm ?_);simp only [nf]
 refine pp rfl rfl (pr_bin rfl rfl (bin_mul_u64 _ _)) ?_;simp only [nf]
 refine pm ?_;simp only [nf]
 refine pp rfl rfl (pr_bin rfl rfl (bin_shrc_u64 32 32 (by decide) rfl _)) ?_;simp only [nf]
 refine pp rfl rfl (pr_bin rfl rfl (bin_add_u64 _ _)) ?_;simp only [nf]
 refine pa ?_;simp only [nf]
 refine plan_nil hH ?_
 clear hH
 intro w14 hH
 refine hK13 _ _ ?_
 (try clear hK13 K13)
 refine wp_seq_k ?_
 intro K15 hK15
 refine wrt [.p 0, .p 1, .p 2] ?_
 refine pm ?_;simp only [nf]
 refine pp rfl rfl (pr_bin rfl rfl (bin_and_u64 _ 4294967295)) ?_;simp only [nf]
 refine pa ?_;simp only [nf]
 refine plan_nil hH ?_
 clear hH
 intro w16 hH
 refine hK15 _ _ ?_
 (try clear hK15 K15)
 refine wp_seq_k ?_
 intro K17 hK17
 refine wrt [.p 0, .p 1, .p 2] ?_
 refine pm ?_;simp only [nf]
 refine pp rfl rfl (pr_bin rfl rfl (bin_shrc_u64 32 32 (by decide) rfl _)) ?_;simp only [nf]
 refine pa ?_;simp only [nf]
 refine plan_nil hH ?_
 clear hH
 intro w18 hH
 refine hK17 _ _ ?_
 (try clear hK17 K17)
 refine wp_seq_k ?_
 intro K19 hK19
 refine wrt [.p 0, .p 1, .p 2, .p 3, .p 4, .p 5] ?_
 refine pm (pm (pm ?_));simp only [nf]
 refine pp rfl rfl (pr_bin rfl rfl (bin_mul_u64 _ _)) ?_;simp only [nf]
 refine pp rfl rfl (pr_bin rfl rfl (bin_add_u64 _ _)) ?_;simp only [nf]
 refine pa ?_;simp only [nf]
 refine plan_nil hH ?_
 clear hH
 intro w20 hH
 refine hK19 _ _ ?_
 (try clear hK19 K19)
 refine wp_seq_k ?_
 intro K21 hK21
 refine wrt [.p 0, .p 1, .p 2, .p 3, .p 4, .p 5, .p 6, .p 7, .p 8] ?_
 refine pm (pm ?_);simp only [nf]
 refine pp rfl rfl (pr_bin rfl rfl (bin_mul_u64 _ _)) ?_;simp only [nf]
 refine pm ?_;simp only [nf]
 refine pp rfl rfl (pr_bin rfl rfl (bin_add_u64 _ _)) ?_;simp only [nf]
 refine pm ?_;simp only [nf]
 refine pp rfl rfl (pr_bin rfl rfl (bin_shrc_u64 32 32 (by decide) rfl _)) ?_;simp only [nf]
 refine pp rfl rfl (pr_bin rfl rfl (bin_add_u64 _ _)) ?_;simp only [nf]
 refine pa ?_;simp only [nf]
 refine plan_nil hH ?_
 clear hH
 intro w22 hH
 refine hK21 _ _ ?_
 (try clear hK21 K21)
 refine wp_seq_k ?_
 intro K23 hK23
 refine wrt [.p 0, .p 1, .p 2, .p 3] ?_
 refine pm (pm ?_);simp only [nf]
 refine pp rfl rfl (pr_bin rfl rfl (bin_mul_u64 _ _)) ?_;simp only [nf]
 refine pa ?_;simp only [nf]
 refine plan_nil hH ?_
 clear hH
 intro w24 hH
 refine hK23 _ _ ?_
 (try clear hK23 K23)
 refine wp_ret ?_
 (try simp only [Exit.then, Exit.inBlock, ↓reduceIte, Nat.reduceEqDiff])
 refine BP.ret2 rfl rfl rfl ?_
 rw [mul64_is]
 exact ⟨rfl, hH.chg⟩
theorem fmul_calls (f g : Five) (w : World) : Ret Tryd.prog 53 #[.agg (arr64 5 f), .agg (arr64 5 g)] w fun v w' => v = .agg (arr64 5 (fMul f g)) ∧ Chg [] w w' := by
 refine Ret.enter Tryd.func53 rfl ?_
 simp only [Tryd.ntmps53, fe, Nat.reduceAdd, Nat.reduceSub]
 have hH := Hp.start [] w
 refine wp_seq_k ?_
 intro K1 hK1
 refine wrt [.x 0, .x 1, .x 2] ?_
 refine plan_box rfl rfl hH rfl ?_
 clear hH
 intro b2 w3 hH
 (try simp only [nf, nh, Value.cells, arrB_set] at hH ⊢)
 refine plan_box rfl rfl hH rfl ?_
 clear hH
 intro b4 w5 hH
 (try simp only [nf, nh, Value.cells, arrB_set] at hH ⊢)
 refine plan_alloc rfl rfl hH zc104 ?_
 clear hH
 intro b6 w7 hH
 (try simp only [nf, nh, Value.cells, arrB_set] at hH ⊢)
 refine plan_nil hH ?_
 clear hH
 intro w8 hH
 refine hK1 _ _ ?_
 (try clear hK1 K1)
 refine wp_seq_k ?_
 intro K9 hK9
 refine wrt [.x 0, .x 1] ?_
 refine plan_alloc rfl rfl hH zc102 ?_
 clear hH
 intro b10 w11 hH
 (try simp only [nf, nh, Value.cells, arrB_set] at hH ⊢)
 refine plan_alloc rfl rfl hH zc102 ?_
 clear hH
 intro b12 w13 hH
 (try simp only [nf, nh, Value.cells, arrB_set] at hH ⊢)
 refine plan_nil hH ?_
 clear hH
 intro w14 hH
 refine hK9 _ _ ?_
 (try clear hK9 K9)
 refine wp_seq_k ?_
 intro K15 hK15
 refine wp_seq_k ?_
 intro K16 hK16
 refine wrt [.p 0, .q 1, .p 2] ?_
 refine pp rfl rfl (pr_fieldAddr 0 rfl Tryd.underlying104 rfl rfl sz102) ?_;simp only [nf]
 refine pq rfl rfl (qr_loadW rfl (hH.blk 0 rfl) Tryd.underlying102 rfl sz102 (by simp)) ?_;simp only [nf]
 refine pk 0 ?_;simp only [nf]
 refine plan_nil hH ?_
 clear hH
 intro w17 hH
 refine hK16 _ _ ?_
 (try clear hK16 K16)
 refine wp_block ?_
 obtain ⟨kc18, hkc19, hN⟩ := hH.name 0 rfl
 replace hH := hN; clear hN; simp only [List.set_cons_zero, List.set_cons_succ] at hH
 obtain ⟨kc20, hkc21, hN⟩ := hH.name 1 rfl
 replace hH := hN; clear hN; simp only [List.set_cons_zero, List.set_cons_succ] at hH
 obtain ⟨kc22, hkc23, hN⟩ := hH.name 2 rfl
 replace hH := hN; clear hN; simp only [List.set_cons_zero, List.set_cons_succ] at hH
 refine wp_loopT [23] [7, 8, 9, 10, 11, 12, 13, 14, 24, 25, 26, 27, 28, 29, 30, 31, 32, 33, 34, 35, 36, 37, 38, 39, 40, 41, 42, 43, 44, 45, 46, 47, 48, 49, 50, 51, 52, 53, 54, 55, 56, 57, 58, 59, 60, 61, 62, 63, 64, 65, 66, 67] (fun (n24 : Nat) (vs : List Value) (w' : World) => ∃ (i : Nat), vs = [I64 (i : Nat)] ∧ Hp [] w w' [(some b2, 104, kc18), (some b4, 104, kc20), (some b6, 104, kc22), (some b10, 102, arr64 5 (mulI f g i).1), (some b12, 102, arr64 5 (mulI f g i).2)] ∧ n24 = 5 - i ∧ i ≤ 5) (5 - 0) (by kernel_rfl) ?_ ?_
 ·
  simp only [ga]
  refine ⟨0, rfl, ?_, rfl, ?_⟩
  ·
   exact hH
  · first | omega | (omega)
 clear hH
 intro n24 vs25 w26 hR27 d0
 obtain ⟨i, rfl, hH, hn28, hf29⟩ := hR27
 simp only [putAll, putD, List.set_cons_zero, List.set_cons_succ, Nat.zero_add, Nat.reduceAdd]
 subst hkc19 hkc21 hkc23
 refine wp_seq_k ?_
 intro K30 hK30
 refine wrt [.p 0] ?_
 refine pp rfl rfl (pr_bin rfl rfl (by first | exact bin_lss_n (n := 5)  | exact bin_lss_i)) ?_;simp only [nf]
 refine plan_nil hH ?_
 clear hH
 intro w31 hH
 refine hK30 _ _ ?_
 (try clear hK30 K30)
 refine wp_seq_k ?_
 intro K32 hK32
 refine wp_cond_split rfl (fun hc33 => ?_) (fun hc33 => ?_)
 ·
  (try simp only [cnd] at hc33)
  refine wp_skip ?_
  refine hK32 _ _ ?_
  (try clear hK32 K32)
  refine wp_seq_k ?_
  intro K34 hK34
  refine wp_block ?_
  refine wp_seq_k ?_
  intro K35 hK35
  refine wrt [.p 0, .p 1, .p 2, .p 3] ?_
  refine pm ?_;simp only [nf]
  refine pp rfl rfl (pr_index_arr rfl rfl Tryd.underlying102 sz45 (notAgg Tryd.underlying45 rfl) (by first | omega | exact lt_u8 _) (arr64_get (by first | omega | exact lt_u8 _))) ?_;simp only [nf]
  refine pa (pa ?_);simp only [nf]
  refine plan_nil hH ?_
  clear hH
  intro w36 hH
  refine hK35 _ _ ?_
  (try clear hK35 K35)
  refine wp_seq_k ?_
  intro K37 hK37
  refine wrt [.p 0, .q 1, .p 2] ?_
  refine pp rfl rfl (pr_fieldAddr 0 rfl Tryd.underlying104 rfl rfl sz102) ?_;simp only [nf]
  refine pq rfl rfl (qr_loadW rfl (hH.blk 1 rfl) Tryd.underlying102 rfl sz102 (by simp)) ?_;simp only [nf]
  refine pk 0 ?_;simp only [nf]
  refine plan_nil hH ?_
  clear hH
  intro w38 hH
  refine hK37 _ _ ?_
  (try clear hK37 K37)
  refine wp_block ?_
  obtain ⟨kc39, hkc40, hN⟩ := hH.name 0 rfl
  replace hH := hN; clear hN; simp only [List.set_cons_zero, List.set_cons_succ] at hH
  obtain ⟨kc41, hkc42, hN⟩ := hH.name 1 rfl
  replace hH := hN; clear hN; simp only [List.set_cons_zero, List.set_cons_succ] at hH
  obtain ⟨kc43, hkc44, hN⟩ := hH.name 2 rfl
  replace hH := hN; clear hN; simp only [List.set_cons_zero, List.set_cons_succ] at hH
  refine wp_loopT [29] [9, 10, 11, 12, 13, 14, 30, 31, 32, 33, 34, 35, 36, 37, 38, 39, 40, 41, 42, 43, 44, 45, 46, 47, 48, 49, 50, 51, 52, 53, 54, 55, 56, 57, 58, 59, 60, 61, 62, 63, 64, 65, 66] (fun (n45 : Nat) (vs : List Value) (w' : World) => ∃ (j : Nat), vs = [I64 (j : Nat)] ∧ Hp [] w w' [(some b2, 104, kc39), (some b4, 104, kc41), (some b6, 104, kc43), (some b10, 102, arr64 5 (mulJ i (f i) g (mulI f g i) j).1), (some b12, 102, arr64 5 (mulJ i (f i) g (mulI f g i) j).2)] ∧ n45 = 5 - j ∧ j ≤ 5) (5 - 0) (by kernel_rfl) ?_ ?_
  ·
   simp only [ga]
   refine ⟨0, rfl, ?_, rfl, ?_⟩
   ·
    exact hH
   · first | omega | (omega)
  clear hH
  intro n45 vs46 w47 hR48 d1
  obtain ⟨j, rfl, hH, hn49, hf50⟩ := hR48
  simp only [putAll, putD, List.set_cons_zero, List.set_cons_succ, Nat.zero_add, Nat.reduceAdd]
  subst hkc40 hkc42 hkc44
  refine wp_seq_k ?_
  intro K51 hK51
  refine wrt [.p 0] ?_
  refine pp rfl rfl (pr_bin rfl rfl (by first | exact bin_lss_n (n := 5)  | exact bin_lss_i)) ?_;simp only [nf]
  refine plan_nil hH ?_
  clear hH
  intro w52 hH
  refine hK51 _ _ ?_
  (try clear hK51 K51)
  refine wp_seq_k ?_
  intro K53 hK53
  refine wp_cond_split rfl (fun hc54 => ?_) (fun hc54 => ?_)
  ·
   (try simp only [cnd] at hc54)
   refine wp_skip ?_
   refine hK53 _ _ ?_
   (try clear hK53 K53)
   refine wp_seq_k ?_
   intro K55 hK55
   refine wp_block ?_
   refine wp_seq_k ?_
   intro K56 hK56
   refine wrt [.p 0, .p 1, .p 2, .p 3] ?_
   refine pm ?_;simp only [nf]
   refine pp rfl rfl (pr_index_arr rfl rfl Tryd.underlying102 sz45 (notAgg Tryd.underlying45 rfl) (by first | omega | exact lt_u8 _) (arr64_get (by first | omega | exact lt_u8 _))) ?_;simp only [nf]
   refine pa (pa ?_);simp only [nf]
   refine plan_nil hH ?_
   clear hH
   intro w57 hH
   refine hK56 _ _ ?_
   (try clear hK56 K56)
   refine wp_seq_k ?_
   intro K58 hK58
   refine wrt [.p 0, .p 1, .p 2, .p 3] ?_
   refine pm (pm ?_);simp only [nf]
   refine pp rfl rfl (pr_bin rfl rfl (by first | exact bin_add_n (by omega) | exact bin_add_i (by omega) (by omega))) ?_;simp only [nf]
   refine pa ?_;simp only [nf]
   refine plan_nil hH ?_
   clear hH
   intro w59 hH
   refine hK58 _ _ ?_
   (try clear hK58 K58)
   refine wp_seq_k ?_
   intro K60 hK60
   refine wp_seq_k ?_
   intro K61 hK61
   refine wrt [.p 0, .p 1] ?_
   refine pm ?_;simp only [nf]
   refine pp rfl rfl (pr_bin rfl rfl (by first | exact bin_geq_n (n := 5)  | exact bin_geq_i)) ?_;simp only [nf]
   refine plan_nil hH ?_
   clear hH
   intro w62 hH
   refine hK61 _ _ ?_
   (try clear hK61 K61)
   refine wp_cond_split rfl (fun hc63 => ?_) (fun hc63 => ?_)
   ·
    (try simp only [cnd] at hc63)
    have hk : mulK i j = i + j - 5 := if_pos (by omega)
    have hy : mulY i j (g j) = g j * 19 := if_pos (by omega)
    refine wp_seq_k ?_
    intro K64 hK64
    refine wrt [.p 0, .p 1, .p 2] ?_
    refine pm ?_;simp only [nf]
    refine pp rfl rfl (pr_bin rfl rfl (by first | exact bin_sub_n (n := 5) (by omega) (by omega) | exact bin_sub_i (by omega) (by omega))) ?_;simp only [nf]
    refine pa ?_;simp only [nf]
    refine plan_nil hH ?_
    clear hH
    intro w65 hH
    refine hK64 _ _ ?_
    (try clear hK64 K64)
    refine wrt [.p 0, .p 1, .p 2] ?_
    refine pm ?_;simp only [nf]
    refine pp rfl rfl (pr_bin rfl rfl (bin_mul_u64 _ 19)) ?_;simp only [nf]
    refine pa ?_;simp only [nf]
    refine plan_nil hH ?_
    clear hH
    intro w66 hH
    refine hK60 _ _ ?_
    (try clear hK60 K60)
    refine wp_seq_k ?_
    intro K67 hK67
    refine wrt [.p 0, .p 1, .q 2, .p 3, .p 4, .p 5, .p 6, .p 7] ?_
    refine pm (pm ?_);simp only [nf]
    refine pq rfl rfl (qr_call cf84 (fun w' hw => mul64_calls _ _ w') rfl) ?_;simp only [nf]
    refine pm ?_;simp only [nf]
    refine pp rfl rfl (pr_extract rfl rfl) ?_;simp only [nf]
    refine pp rfl rfl (pr_extract rfl rfl) ?_;simp only [nf]
    refine pa (pa ?_);simp only [nf]
    refine plan_nil hH ?_
    clear hH
    intro w68 hH
    refine hK67 _ _ ?_
    (try clear hK67 K67)
    refine wp_seq_k ?_
    intro K69 hK69
    refine wrt [.p 0] ?_
    refine pa ?_;simp only [nf]
    refine plan_nil hH ?_
    clear hH
    intro w70 hH
    refine hK69 _ _ ?_
    (try clear hK69 K69)
    refine wp_seq_k ?_
    intro K71 hK71
    refine wrt [.p 0, .p 1, .p 2, .q 3, .p 4, .q 5, .p 6, .p 7, .p 8, .p 9, .e 10, .p 11] ?_
    refine pm (pm ?_);simp only [nf]
    refine pp rfl rfl (pr_idxA1 rfl rfl Tryd.underlying102 sz45 (by omega)) ?_;simp only [nf]
    refine pq rfl rfl (qr_load1 rfl Tryd.underlying45 rfl ((hH.blk 4 rfl).cell (arr64_get (by omega)))) ?_;simp only [nf]
    refine pm ?_;simp only [nf]
    refine pq rfl rfl (qr_now (fun w' => add64_now _ _ w') rfl) ?_;simp only [nf]
    refine pm ?_;simp only [nf]
    refine pp rfl rfl (pr_extract rfl rfl) ?_;simp only [nf]
    refine pp rfl rfl (pr_extract rfl rfl) ?_;simp only [nf]
    refine pp rfl rfl (pr_idxA1 rfl rfl Tryd.underlying102 sz45 (by omega)) ?_;simp only [nf]
    refine plan_store1 4 rfl rfl hH rfl rfl rfl rfl sz45 (by simp <;> omega) ?_
    clear hH
    intro w72 hH
    (try simp only [nf, nh, Value.cells, arrB_set] at hH ⊢)
    refine pa ?_;simp only [nf]
    refine plan_nil hH ?_
    clear hH
    intro w73 hH
    refine hK71 _ _ ?_
    (try clear hK71 K71)
    refine wrt [.p 0, .p 1, .q 2, .p 3, .p 4, .p 5, .p 6, .p 7, .e 8] ?_
    refine pm ?_;simp only [nf]
    refine pp rfl rfl (pr_idxA1 rfl rfl Tryd.underlying102 sz45 (by omega)) ?_;simp only [nf]
    refine pq rfl rfl (qr_load1 rfl Tryd.underlying45 rfl ((hH.blk 3 rfl).cell (arr64_get (by omega)))) ?_;simp only [nf]
    refine pm (pm ?_);simp only [nf]
    refine pp rfl rfl (pr_bin rfl rfl (bin_add_u64 _ _)) ?_;simp only [nf]
    refine pp rfl rfl (pr_bin rfl rfl (bin_add_u64 _ _)) ?_;simp only [nf]
    refine pp rfl rfl (pr_idxA1 rfl rfl Tryd.underlying102 sz45 (by omega)) ?_;simp only [nf]
    refine plan_store1 3 rfl rfl hH rfl rfl rfl rfl sz45 (by simp <;> omega) ?_
    clear hH
    intro w74 hH
    (try simp only [nf, nh, Value.cells, arrB_set] at hH ⊢)
    refine plan_nil hH ?_
    clear hH
    intro w75 hH
    refine hK55 _ _ ?_
    (try clear hK55 K55)
    refine wrt [.p 0, .p 1] ?_
    refine pp rfl rfl (pr_bin rfl rfl (by first | exact bin_add_n (n := 1) (by omega) | exact bin_add_i (by omega) (by omega))) ?_;simp only [nf]
    refine pm ?_;simp only [nf]
    refine plan_nil hH ?_
    clear hH
    intro w76 hH
    (try simp only [Exit.then, Exit.inBlock, ↓reduceIte, Nat.reduceEqDiff])
    refine ⟨5 - (j + 1), ?_, _, rfl, by kernel_rfl, ?_⟩
    · first | omega | (omega)
    simp only [ga]
    refine ⟨j + 1, rfl, ?_, rfl, ?_⟩
    ·
     rw [show mulJ i (f i) g (mulI f g i) (j + 1) = mul1 i j (f i) (g j) (mulJ i (f i) g (mulI f g i) j) from rfl]
     unfold mul1
     rw [hk, hy]
     exact hH
    · first | omega | (omega)
   ·
    (try simp only [cnd] at hc63)
    have hk : mulK i j = i + j := if_neg (by omega)
    have hy : mulY i j (g j) = g j := if_neg (by omega)
    refine wp_skip ?_
    refine hK60 _ _ ?_
    (try clear hK60 K60)
    refine wp_seq_k ?_
    intro K77 hK77
    refine wrt [.p 0, .p 1, .q 2, .p 3, .p 4, .p 5, .p 6, .p 7] ?_
    refine pm (pm ?_);simp only [nf]
    refine pq rfl rfl (qr_call cf84 (fun w' hw => mul64_calls _ _ w') rfl) ?_;simp only [nf]
    refine pm ?_;simp only [nf]
    refine pp rfl rfl (pr_extract rfl rfl) ?_;simp only [nf]
    refine pp rfl rfl (pr_extract rfl rfl) ?_;simp only [nf]
    refine pa (pa ?_);simp only [nf]
    refine plan_nil hH ?_
    clear hH
    intro w78 hH
    refine hK77 _ _ ?_
    (try clear hK77 K77)
    refine wp_seq_k ?_
    intro K79 hK79
    refine wrt [.p 0] ?_
    refine pa ?_;simp only [nf]
    refine plan_nil hH ?_
    clear hH
    intro w80 hH
    refine hK79 _ _ ?_
    (try clear hK79 K79)
    refine wp_seq_k ?_
    intro K81 hK81
    refine wrt [.p 0, .p 1, .p 2, .q 3, .p 4, .q 5, .p 6, .p 7, .p 8, .p 9, .e 10, .p 11] ?_
    refine pm (pm ?_);simp only [nf]
    refine pp rfl rfl (pr_idxA1 rfl rfl Tryd.underlying102 sz45 (by omega)) ?_;simp only [nf]
    refine pq rfl rfl (qr_load1 rfl Tryd.underlying45 rfl ((hH.blk 4 rfl).cell (arr64_get (by omega)))) ?_;simp only [nf]
    refine pm ?_;simp only [nf]
    refine pq rfl rfl (qr_now (fun w' => add64_now _ _ w') rfl) ?_;simp only [nf]
    refine pm ?_;simp only [nf]
    refine pp rfl rfl (pr_extract rfl rfl) ?_;simp only [nf]
    refine pp rfl rfl (pr_extract rfl rfl) ?_;simp only [nf]
    refine pp rfl rfl (pr_idxA1 rfl rfl Tryd.underlying102 sz45 (by omega)) ?_;simp only [nf]
    refine plan_store1 4 rfl rfl hH rfl rfl rfl rfl sz45 (by simp <;> omega) ?_
    clear hH
    intro w82 hH
    (try simp only [nf, nh, Value.cells, arrB_set] at hH ⊢)
    refine pa ?_;simp only [nf]
    refine plan_nil hH ?_
    clear hH
    intro w83 hH
    refine hK81 _ _ ?_
    (try clear hK81 K81)
    refine wrt [.p 0, .p 1, .q 2, .p 3, .p 4, .p 5, .p 6, .p 7, .e 8] ?_
    refine pm ?_;simp only [nf]
    refine pp rfl rfl (pr_idxA1 rfl rfl Tryd.underlying102 sz45 (by omega)) ?_;simp only [nf]
    refine pq rfl rfl (qr_load1 rfl Tryd.underlying45 rfl ((hH.blk 3 rfl).cell (arr64_get (by omega)))) ?_;simp only [nf]
    refine pm (pm ?_);simp only [nf]
    refine pp rfl rfl (pr_bin rfl rfl (bin_add_u64 _ _)) ?_;simp only [nf]
    refine pp rfl rfl (pr_bin rfl rfl (bin_add_u64 _ _)) ?_;simp only [nf]
    refine pp rfl rfl (pr_idxA1 rfl rfl Tryd.underlying102 sz45 (by omega)) ?_;simp only [nf]
    refine plan_store1 3 rfl rfl hH rfl rfl rfl rfl sz45 (by simp <;> omega) ?_
    clear hH
    intro w84 hH
    (try simp only [nf, nh, Value.cells, arrB_set] at hH ⊢)
    refine plan_nil hH ?_
    clear hH
    intro w85 hH
    refine hK55 _ _ ?_
    (try clear hK55 K55)
    refine wrt [.p 0, .p 1] ?_
    refine pp rfl rfl (pr_bin rfl rfl (by first | exact bin_add_n (n := 1) (by omega) | exact bin_add_i (by omega) (by omega))) ?_;simp only [nf]
    refine pm ?_;simp only [nf]
    refine plan_nil hH ?_
    clear hH
    intro w86 hH
    (try simp only [Exit.then, Exit.inBlock, ↓reduceIte, Nat.reduceEqDiff])
    refine ⟨5 - (j + 1), ?_, _, rfl, by kernel_rfl, ?_⟩
    · first | omega | (omega)
    simp only [ga]
    refine ⟨j + 1, rfl, ?_, rfl, ?_⟩
    ·
     rw [show mulJ i (f i) g (mulI f g i) (j + 1) = mul1 i j (f i) (g j) (mulJ i (f i) g (mulI f g i) j) from rfl]
     unfold mul1
     rw [hk, hy]
     exact hH
    · first | omega | (omega)
  ·
   (try simp only [cnd] at hc54)
   refine wp_exit ?_
   (try simp only [Exit.then, Exit.inBlock, ↓reduceIte, Nat.reduceEqDiff])
   refine hK34 _ _ ?_
   (try clear hK34 K34)
   refine wrt [.p 0, .p 1] ?_
   refine pp rfl rfl (pr_bin rfl rfl (by first | exact bin_add_n (n := 1) (by omega) | exact bin_add_i (by omega) (by omega))) ?_;simp only [nf]
   refine pm ?_;simp only [nf]
   refine plan_nil hH ?_
   clear hH
   intro w87 hH
   (try simp only [Exit.then, Exit.inBlock, ↓reduceIte, Nat.reduceEqDiff])
   refine ⟨5 - (i + 1), ?_, _, rfl, by kernel_rfl, ?_⟩
   · first | omega | (omega)
   simp only [ga]
   refine ⟨i + 1, rfl, ?_, rfl, ?_⟩
   ·
    obtain rfl : j = 5 := by omega
    exact hH
   · first | omega | (omega)
 ·
  (try simp only [cnd] at hc33)
  refine wp_exit ?_
  (try simp only [Exit.then, Exit.inBlock, ↓reduceIte, Nat.reduceEqDiff])
  refine hK15 _ _ ?_
  (try clear hK15 K15)
  refine wp_seq_k ?_
  intro K88 hK88
  refine wrt [.x 0] ?_
  refine plan_alloc rfl rfl hH zc104 ?_
  clear hH
  intro b89 w90 hH
  (try simp only [nf, nh, Value.cells, arrB_set] at hH ⊢)
  refine plan_nil hH ?_
  clear hH
  intro w91 hH
  refine hK88 _ _ ?_
  (try clear hK88 K88)
  refine wp_seq_k ?_
  intro K92 hK92
  refine wrt [.p 0] ?_
  refine pa ?_;simp only [nf]
  refine plan_nil hH ?_
  clear hH
  intro w93 hH
  refine hK92 _ _ ?_
  (try clear hK92 K92)
  refine wp_seq_k ?_
  intro K94 hK94
  refine wp_seq_k ?_
  intro K95 hK95
  refine wrt [.p 0] ?_
  refine pk 0 ?_;simp only [nf]
  refine plan_nil hH ?_
  clear hH
  intro w96 hH
  refine hK95 _ _ ?_
  (try clear hK95 K95)
  refine wp_block ?_
  obtain ⟨kc97, hkc98, hN⟩ := hH.name 0 rfl
  replace hH := hN; clear hN; simp only [List.set_cons_zero, List.set_cons_succ] at hH
  obtain ⟨kc99, hkc100, hN⟩ := hH.name 1 rfl
  replace hH := hN; clear hN; simp only [List.set_cons_zero, List.set_cons_succ] at hH
  obtain ⟨kc101, hkc102, hN⟩ := hH.name 2 rfl
  replace hH := hN; clear hN; simp only [List.set_cons_zero, List.set_cons_succ] at hH
  refine wp_loopT [16, 68] [17, 18, 19, 20, 69, 70, 71, 72, 73, 74, 75, 76, 77, 78, 79, 80, 81, 82, 83, 84, 85, 86, 87, 88, 89, 90, 91, 92, 93, 94] (fun (n103 : Nat) (vs : List Value) (w' : World) => ∃ (k : Nat), vs = [V64 (mouL (mulI f g 5) k).2, I64 (k : Nat)] ∧ Hp [] w w' [(some b2, 104, kc97), (some b4, 104, kc99), (some b6, 104, kc101), (some b10, 102, arr64 5 (mulI f g 5).1), (some b12, 102, arr64 5 (mulI f g 5).2), (some b89, 104, arr64 5 (mouL (mulI f g 5) k).1)] ∧ n103 = 5 - k ∧ k ≤ 5) (5 - 0) (by kernel_rfl) ?_ ?_
  ·
   simp only [ga]
   refine ⟨0, rfl, ?_, rfl, ?_⟩
   ·
    obtain rfl : i = 5 := by omega
    exact hH
   · first | omega | (omega)
  clear hH
  intro n103 vs104 w105 hR106 d2
  obtain ⟨k, rfl, hH, hn107, hf108⟩ := hR106
  simp only [putAll, putD, List.set_cons_zero, List.set_cons_succ, Nat.zero_add, Nat.reduceAdd]
  subst hkc98 hkc100 hkc102
  refine wp_seq_k ?_
  intro K109 hK109
  refine wrt [.p 0] ?_
  refine pp rfl rfl (pr_bin rfl rfl (by first | exact bin_lss_n (n := 5)  | exact bin_lss_i)) ?_;simp only [nf]
  refine plan_nil hH ?_
  clear hH
  intro w110 hH
  refine hK109 _ _ ?_
  (try clear hK109 K109)
  refine wp_seq_k ?_
  intro K111 hK111
  refine wp_cond_split rfl (fun hc112 => ?_) (fun hc112 => ?_)
  ·
   (try simp only [cnd] at hc112)
   refine wp_skip ?_
   refine hK111 _ _ ?_
   (try clear hK111 K111)
   refine wp_seq_k ?_
   intro K113 hK113
   refine wp_block ?_
   refine wp_seq_k ?_
   intro K114 hK114
   refine wrt [.p 0, .p 1] ?_
   refine pm (pa ?_);simp only [nf]
   refine plan_nil hH ?_
   clear hH
   intro w115 hH
   refine hK114 _ _ ?_
   (try clear hK114 K114)
   refine wp_seq_k ?_
   intro K116 hK116
   refine wrt [.p 0, .p 1, .q 2, .p 3, .q 4, .p 5, .p 6, .p 7, .p 8, .p 9] ?_
   refine pm ?_;simp only [nf]
   refine pp rfl rfl (pr_idxA1 rfl rfl Tryd.underlying102 sz45 (by omega)) ?_;simp only [nf]
   refine pq rfl rfl (qr_load1 rfl Tryd.underlying45 rfl ((hH.blk 4 rfl).cell (arr64_get (by omega)))) ?_;simp only [nf]
   refine pm ?_;simp only [nf]
   refine pq rfl rfl (qr_now (fun w' => add64_now _ _ w') rfl) ?_;simp only [nf]
   refine pm ?_;simp only [nf]
   refine pp rfl rfl (pr_extract rfl rfl) ?_;simp only [nf]
   refine pp rfl rfl (pr_extract rfl rfl) ?_;simp only [nf]
   refine pa (pa ?_);simp only [nf]
   refine plan_nil hH ?_
   clear hH
   intro w117 hH
   refine hK116 _ _ ?_
   (try clear hK116 K116)
   refine wp_seq_k ?_
   intro K118 hK118
   refine wrt [.p 0, .p 1, .q 2, .p 3, .p 4, .p 5] ?_
   refine pm ?_;simp only [nf]
   refine pp rfl rfl (pr_idxA1 rfl rfl Tryd.underlying102 sz45 (by omega)) ?_;simp only [nf]
   refine pq rfl rfl (qr_load1 rfl Tryd.underlying45 rfl ((hH.blk 3 rfl).cell (arr64_get (by omega)))) ?_;simp only [nf]
   refine pm ?_;simp only [nf]
   refine pp rfl rfl (pr_bin rfl rfl (bin_add_u64 _ _)) ?_;simp only [nf]
   refine pa ?_;simp only [nf]
   refine plan_nil hH ?_
   clear hH
   intro w119 hH
   refine hK118 _ _ ?_
   (try clear hK118 K118)
   refine wp_seq_k ?_
   intro K120 hK120
   refine wrt [.p 0, .p 1, .p 2, .p 3, .p 4, .e 5] ?_
   refine pm (pm ?_);simp only [nf]
   refine pp rfl rfl (pr_bin rfl rfl (bin_and_u64 _ 2251799813685247)) ?_;simp only [nf]
   refine pp rfl rfl (pr_fieldAddr 0 rfl Tryd.underlying104 rfl rfl sz102) ?_;simp only [nf]
   refine pp rfl rfl (pr_idxA1 rfl rfl Tryd.underlying102 sz45 (by omega)) ?_;simp only [nf]
   refine plan_store1 5 rfl rfl hH rfl rfl rfl rfl sz45 (by simp <;> omega) ?_
   clear hH
   intro w121 hH
   (try simp only [nf, nh, Value.cells, arrB_set] at hH ⊢)
   refine plan_nil hH ?_
   clear hH
   intro w122 hH
   refine hK120 _ _ ?_
   (try clear hK120 K120)
   refine wrt [.p 0, .p 1, .p 2, .p 3, .p 4, .p 5] ?_
   refine pm ?_;simp only [nf]
   refine pp rfl rfl (pr_bin rfl rfl (bin_shlc_u64 13 13 (by decide) rfl _)) ?_;simp only [nf]
   refine pm ?_;simp only [nf]
   refine pp rfl rfl (pr_bin rfl rfl (bin_shrc_u64 51 51 (by decide) rfl _)) ?_;simp only [nf]
   refine pp rfl rfl (pr_bin rfl rfl (bin_or_u64 _ _)) ?_;simp only [nf]
   refine pa ?_;simp only [nf]
   refine plan_nil hH ?_
   clear hH
   intro w123 hH
   refine hK113 _ _ ?_
   (try clear hK113 K113)
   refine wrt [.p 0, .p 1] ?_
   refine pp rfl rfl (pr_bin rfl rfl (by first | exact bin_add_n (n := 1) (by omega) | exact bin_add_i (by omega) (by omega))) ?_;simp only [nf]
   refine pm ?_;simp only [nf]
   refine plan_nil hH ?_
   clear hH
   intro w124 hH
   (try simp only [Exit.then, Exit.inBlock, ↓reduceIte, Nat.reduceEqDiff])
   refine ⟨5 - (k + 1), ?_, _, rfl, by kernel_rfl, ?_⟩
   · first | omega | (omega)
   simp only [ga]
   refine ⟨k + 1, rfl, ?_, rfl, ?_⟩
   ·
    exact hH
   · first | omega | (omega)
  ·
   (try simp only [cnd] at hc112)
   refine wp_exit ?_
   (try simp only [Exit.then, Exit.inBlock, ↓reduceIte, Nat.reduceEqDiff])
   refine hK94 _ _ ?_
   (try clear hK94 K94)
   refine wp_seq_k ?_
   intro K125 hK125
   refine wrt [.p 0, .p 1, .q 2, .p 3, .p 4, .p 5, .p 6, .p 7, .p 8, .e 9] ?_
   refine pp rfl rfl (pr_fieldAddr 0 rfl Tryd.underlying104 rfl rfl sz102) ?_;simp only [nf]
   refine pp rfl rfl (pr_idxA1 (i := 0) rfl rfl Tryd.underlying102 sz45 (by omega)) ?_;simp only [nf]
   refine pq rfl rfl (qr_load1 rfl Tryd.underlying45 rfl ((hH.blk 5 rfl).cell (arr64_get (by omega)))) ?_;simp only [nf]
   refine pm ?_;simp only [nf]
   refine pp rfl rfl (pr_bin rfl rfl (bin_and_u64 _ 2251799813685247)) ?_;simp only [nf]
   refine pp rfl rfl (pr_bin rfl rfl (bin_mul_u64 19 _)) ?_;simp only [nf]
   refine pp rfl rfl (pr_bin rfl rfl (bin_add_u64 _ _)) ?_;simp only [nf]
   refine pp rfl rfl (pr_fieldAddr 0 rfl Tryd.underlying104 rfl rfl sz102) ?_;simp only [nf]
   refine pp rfl rfl (pr_idxA1 (i := 0) rfl rfl Tryd.underlying102 sz45 (by omega)) ?_;simp only [nf]
   refine plan_store1 5 rfl rfl hH rfl rfl rfl rfl sz45 (by simp <;> omega) ?_
   clear hH
   intro w126 hH
   (try simp only [nf, nh, Value.cells, arrB_set] at hH ⊢)
   refine plan_nil hH ?_
   clear hH
   intro w127 hH
   refine hK125 _ _ ?_
   (try clear hK125 K125)
   refine wp_seq_k ?_
   intro K128 hK128
   refine wrt [.p 0, .p 1, .q 2, .p 3, .p 4, .p 5, .p 6, .p 7, .p 8, .e 9] ?_
   refine pp rfl rfl (pr_fieldAddr 0 rfl Tryd.underlying104 rfl rfl sz102) ?_;simp only [nf]
   refine pp rfl rfl (pr_idxA1 (i := 1) rfl rfl Tryd.underlying102 sz45 (by omega)) ?_;simp only [nf]
   refine pq rfl rfl (qr_load1 rfl Tryd.underlying45 rfl ((hH.blk 5 rfl).cell (arr64_get (by omega)))) ?_;simp only [nf]
   refine pm ?_;simp only [nf]
   refine pp rfl rfl (pr_bin rfl rfl (bin_shrc_u64 51 51 (by decide) rfl _)) ?_;simp only [nf]
   refine pp rfl rfl (pr_bin rfl rfl (bin_mul_u64 19 _)) ?_;simp only [nf]
   refine pp rfl rfl (pr_bin rfl rfl (bin_add_u64 _ _)) ?_;simp only [nf]
   refine pp rfl rfl (pr_fieldAddr 0 rfl Tryd.underlying104 rfl rfl sz102) ?_;simp only [nf]
   refine pp rfl rfl (pr_idxA1 (i := 1) rfl rfl Tryd.underlying102 sz45 (by omega)) ?_;simp only [nf]
   refine plan_store1 5 rfl rfl hH rfl rfl rfl rfl sz45 (by simp <;> omega) ?_
   clear hH
   intro w129 hH
   (try simp only [nf, nh, Value.cells, arrB_set] at hH ⊢)
   refine plan_nil hH ?_
   clear hH
   intro w130 hH
   refine hK128 _ _ ?_
   (try clear hK128 K128)
   refine wp_seq_k ?_
   intro K131 hK131
   refine wrt [.q 0, .q 1, .e 2] ?_
   refine pq rfl rfl (qr_loadW rfl (hH.blk 5 rfl) Tryd.underlying104 rfl sz104 (by simp)) ?_;simp only [nf]
   refine pq rfl rfl (qr_call cf86 (fun w' hw => fcarry_calls _ w') rfl) ?_;simp only [nf]
   refine plan_storeW 2 rfl rfl hH rfl rfl rfl one_arr64 sz104 (by simp) (by simp) ?_
   clear hH
   intro w132 hH
   (try simp only [nf, nh, Value.cells, arrB_set] at hH ⊢)
   refine plan_nil hH ?_
   clear hH
   intro w133 hH
   refine hK131 _ _ ?_
   (try clear hK131 K131)
   refine wp_ret ?_
   (try simp only [Exit.then, Exit.inBlock, ↓reduceIte, Nat.reduceEqDiff])
   refine BP.retc rfl rfl (hH.blk 2 rfl) Tryd.underlying104 rfl sz104 (by simp) ?_
   obtain rfl : k = 5 := by omega
   exact ⟨rfl, hH.chg⟩
theorem finv_calls (f : Five) (w : World) : Ret Tryd.prog 54 #[.agg (arr64 5 f)] w fun v w' => v = .agg (arr64 5 (fInv f)) ∧ Chg [] w w' := by
 refine Ret.enter Tryd.func54 rfl ?_
 simp only [Tryd.ntmps54, fe, Nat.reduceAdd, Nat.reduceSub]
 have hH := Hp.start [] w
 refine wp_seq_k ?_
 intro K1 hK1
 refine wrt [.x 0, .x 1] ?_
 refine plan_box rfl rfl hH rfl ?_
 clear hH
 intro b2 w3 hH
 (try simp only [nf, nh, Value.cells, arrB_set] at hH ⊢)
 refine plan_alloc rfl rfl hH zc104 ?_
 clear hH
 intro b4 w5 hH
 (try simp only [nf, nh, Value.cells, arrB_set] at hH ⊢)
 refine plan_nil hH ?_
 clear hH
 intro w6 hH
 refine hK1 _ _ ?_
 (try clear hK1 K1)
 refine wp_seq_k ?_
 intro K7 hK7
 refine wrt [.p 0, .p 1, .x 2, .e 3] ?_
 refine pp rfl rfl (pr_build (by rfl) (bp102_1 1)) ?_;simp only [nf]
 refine pp rfl rfl (pr_build (by rfl) (bd104_0 _)) ?_;simp only [nf]
 refine plan_alloc rfl rfl hH zc104 ?_
 clear hH
 intro b8 w9 hH
 (try simp only [nf, nh, Value.cells, arrB_set] at hH ⊢)
 refine plan_storeW 2 rfl rfl hH rfl rfl rfl one_arr64 sz104 (by simp) (by simp) ?_
 clear hH
 intro w10 hH
 (try simp only [nf, nh, Value.cells, arrB_set] at hH ⊢)
 refine plan_nil hH ?_
 clear hH
 intro w11 hH
 refine hK7 _ _ ?_
 (try clear hK7 K7)
 refine wp_seq_k ?_
 intro K12 hK12
 refine wp_seq_k ?_
 intro K13 hK13
 refine wrt [.p 0] ?_
 refine pka 254 ?_;simp only [nf]
 refine plan_nil hH ?_
 clear hH
 intro w14 hH
 refine hK13 _ _ ?_
 (try clear hK13 K13)
 refine wp_block ?_
 obtain ⟨kc15, hkc16, hN⟩ := hH.name 0 rfl
 replace hH := hN; clear hN; simp only [List.set_cons_zero, List.set_cons_succ] at hH
 obtain ⟨kc17, hkc18, hN⟩ := hH.name 1 rfl
 replace hH := hN; clear hN; simp only [List.set_cons_zero, List.set_cons_succ] at hH
 refine wp_loopT [4] [7, 8, 9, 10, 11, 12, 13, 14, 15, 16, 17, 18, 19, 20, 21, 22] (fun (n19 : Nat) (vs : List Value) (w' : World) => ∃ (m : Nat), vs = [I64 ((m : Int) - 1)] ∧ Hp [] w w' [(some b2, 104, kc15), (some b4, 104, kc17), (some b8, 104, arr64 5 (invL f (255 - m)))] ∧ n19 = m ∧ m ≤ 255) (255) (by kernel_rfl) ?_ ?_
 ·
  simp only [ga]
  refine ⟨255, rfl, ?_, rfl, ?_⟩
  ·
   exact hH
  · first | omega | (omega)
 clear hH
 intro n19 vs20 w21 hR22 d0
 obtain ⟨m, rfl, hH, hn23, hf24⟩ := hR22
 simp only [putAll, putD, List.set_cons_zero, List.set_cons_succ, Nat.zero_add, Nat.reduceAdd]
 subst hkc16 hkc18
 refine wp_seq_k ?_
 intro K25 hK25
 refine wp_seq_k ?_
 intro K26 hK26
 refine wrt [.p 0, .p 1] ?_
 refine pm ?_;simp only [nf]
 refine pp rfl rfl (pr_bin rfl rfl (by first | exact bin_geq_n (n := 0)  | exact bin_geq_i)) ?_;simp only [nf]
 refine plan_nil hH ?_
 clear hH
 intro w27 hH
 refine hK26 _ _ ?_
 (try clear hK26 K26)
 refine wp_cond_split rfl (fun hc28 => ?_) (fun hc28 => ?_)
 ·
  (try simp only [cnd, gsl] at hc28)
  obtain ⟨i, rfl⟩ : ∃ i, m = i + 1 := ⟨m - 1, by omega⟩
  rw [show (((i + 1 : Nat) : Int) - 1) = (i : Int) by omega]
  have e : 255 - i = (255 - (i + 1)) + 1 := by omega
  refine wp_skip ?_
  refine hK25 _ _ ?_
  (try clear hK25 K25)
  refine wp_seq_k ?_
  intro K29 hK29
  refine wp_block ?_
  refine wp_seq_k ?_
  intro K30 hK30
  refine wrt [.q 0, .q 1, .q 2, .e 3] ?_
  refine pq rfl rfl (qr_loadW rfl (hH.blk 2 rfl) Tryd.underlying104 rfl sz104 (by simp)) ?_;simp only [nf]
  refine pq rfl rfl (qr_loadW rfl (hH.blk 2 rfl) Tryd.underlying104 rfl sz104 (by simp)) ?_;simp only [nf]
  refine pq rfl rfl (qr_call cf53 (fun w' hw => fmul_calls _ _ w') rfl) ?_;simp only [nf]
  refine plan_storeW 2 rfl rfl hH rfl rfl rfl one_arr64 sz104 (by simp) (by simp) ?_
  clear hH
  intro w31 hH
  (try simp only [nf, nh, Value.cells, arrB_set] at hH ⊢)
  refine plan_nil hH ?_
  clear hH
  intro w32 hH
  refine hK30 _ _ ?_
  (try clear hK30 K30)
  refine wp_seq_k ?_
  intro K33 hK33
  refine wrt [.p 0, .p 1, .p 2, .p 3, .p 4, .p 5] ?_
  refine pm ?_;simp only [nf]
  refine pp rfl rfl (pr_bin rfl rfl (by first | exact bin_neq_n (n := 2)  | exact bin_neq_i)) ?_;simp only [nf]
  refine pm ?_;simp only [nf]
  refine plan_pc_t rfl rfl rfl (fun hb => by have hb' := hb; (try simp only [gsl] at hb'); rw [hb]; exact pr_move) ?_
  (try simp only [nf])
  refine plan_pc_t rfl rfl rfl (fun hb => by have hb' := hb; (try simp only [gsl] at hb'); rw [hb]; exact (pr_bin rfl rfl (by first | exact bin_neq_n (n := 4)  | exact bin_neq_i))) ?_
  (try simp only [nf])
  refine pp rfl rfl (pr_pick_and rfl rfl rfl) ?_;simp only [nf]
  refine plan_nil hH ?_
  clear hH
  intro w34 hH
  refine hK33 _ _ ?_
  (try clear hK33 K33)
  refine wp_cond_split rfl (fun hc35 => ?_) (fun hc35 => ?_)
  ·
   (try simp only [cnd, gsl] at hc35)
   have hn : ¬ (255 - (i + 1) = 252 ∨ 255 - (i + 1) = 250) := by omega
   refine wrt [.q 0, .q 1, .q 2, .e 3] ?_
   refine pq rfl rfl (qr_loadW rfl (hH.blk 2 rfl) Tryd.underlying104 rfl sz104 (by simp)) ?_;simp only [nf]
   refine pq rfl rfl (qr_loadW rfl (hH.blk 0 rfl) Tryd.underlying104 rfl sz104 (by simp)) ?_;simp only [nf]
   refine pq rfl rfl (qr_call cf53 (fun w' hw => fmul_calls _ _ w') rfl) ?_;simp only [nf]
   refine plan_storeW 2 rfl rfl hH rfl rfl rfl one_arr64 sz104 (by simp) (by simp) ?_
   clear hH
   intro w36 hH
   (try simp only [nf, nh, Value.cells, arrB_set] at hH ⊢)
   refine plan_nil hH ?_
   clear hH
   intro w37 hH
   refine hK29 _ _ ?_
   (try clear hK29 K29)
   refine wrt [.p 0, .p 1, .p 2] ?_
   refine pm ?_;simp only [nf]
   refine pp rfl rfl (pr_bin rfl rfl (by first | exact bin_sub_n (n := 1) (by omega) (by omega) | exact bin_sub_i (by omega) (by omega))) ?_;simp only [nf]
   refine pa ?_;simp only [nf]
   refine plan_nil hH ?_
   clear hH
   intro w38 hH
   (try simp only [Exit.then, Exit.inBlock, ↓reduceIte, Nat.reduceEqDiff])
   try rw [show (((i - 1 : Nat) : Int)) = (i : Int) - 1 by omega]
   refine ⟨i, ?_, _, rfl, by kernel_rfl, ?_⟩
   · first | omega | (omega)
   simp only [ga]
   refine ⟨i, rfl, ?_, rfl, ?_⟩
   ·
    rw [e, invL, if_neg hn]
    exact hH
   · first | omega | (omega)
  ·
   (try simp only [cnd, gsl] at hc35)
   have hn : 255 - (i + 1) = 252 ∨ 255 - (i + 1) = 250 := by omega
   refine wp_skip ?_
   refine hK29 _ _ ?_
   (try clear hK29 K29)
   refine wrt [.p 0, .p 1, .p 2] ?_
   refine pm ?_;simp only [nf]
   refine pp rfl rfl (pr_bin rfl rfl (by first | exact bin_sub_n (n := 1) (by omega) (by omega) | exact bin_sub_i (by omega) (by omega))) ?_;simp only [nf]
   refine pa ?_;simp only [nf]
   refine plan_nil hH ?_
   clear hH
   intro w39 hH
   (try simp only [Exit.then, Exit.inBlock, ↓reduceIte, Nat.reduceEqDiff])
   try rw [show (((i - 1 : Nat) : Int)) = (i : Int) - 1 by omega]
   refine ⟨i, ?_, _, rfl, by kernel_rfl, ?_⟩
   · first | omega | (omega)
   simp only [ga]
   refine ⟨i, rfl, ?_, rfl, ?_⟩
   ·
    rw [e, invL, if_pos hn]
    exact hH
   · first | omega | (omega)
 ·
  (try simp only [cnd, gsl] at hc28)
  refine wp_exit ?_
  (try simp only [Exit.then, Exit.inBlock, ↓reduceIte, Nat.reduceEqDiff])
  refine hK12 _ _ ?_
  (try clear hK12 K12)
  refine wp_seq_k ?_
  intro K40 hK40
  refine wrt [.q 0, .e 1] ?_
  refine pq rfl rfl (qr_loadW rfl (hH.blk 2 rfl) Tryd.underlying104 rfl sz104 (by simp)) ?_;simp only [nf]
  refine plan_storeW 1 rfl rfl hH rfl rfl rfl one_arr64 sz104 (by simp) (by simp) ?_
  clear hH
  intro w41 hH
  (try simp only [nf, nh, Value.cells, arrB_set] at hH ⊢)
  refine plan_nil hH ?_
  clear hH
  intro w42 hH
  refine hK40 _ _ ?_
  (try clear hK40 K40)
  refine wp_ret ?_
  (try simp only [Exit.then, Exit.inBlock, ↓reduceIte, Nat.reduceEqDiff])
  refine BP.retc rfl rfl (hH.blk 1 rfl) Tryd.underlying104 rfl sz104 (by simp) ?_
  obtain rfl : m = 0 := by omega
  exact ⟨rfl, hH.chg⟩
theorem fswap_true (f g : Five) (w : World) : Ret Tryd.prog 51 #[BV true, .agg (arr64 5 f), .agg (arr64 5 g)] w fun v w' => v = .tuple #[.agg (arr64 5 g), .agg (arr64 5 f)] ∧ Chg [] w w' := by
 refine Ret.enter Tryd.func51 rfl ?_
 simp only [Tryd.ntmps51, fe, Nat.reduceAdd, Nat.reduceSub]
 have hH := Hp.start [] w
 refine wp_seq_k ?_
 intro K1 hK1
 refine wrt [.x 0, .x 1, .x 2, .x 3] ?_
 refine plan_box rfl rfl hH rfl ?_
 clear hH
 intro b2 w3 hH
 (try simp only [nf, nh, Value.cells, arrB_set] at hH ⊢)
 refine plan_box rfl rfl hH rfl ?_
 clear hH
 intro b4 w5 hH
 (try simp only [nf, nh, Value.cells, arrB_set] at hH ⊢)
 refine plan_alloc rfl rfl hH zc104 ?_
 clear hH
 intro b6 w7 hH
 (try simp only [nf, nh, Value.cells, arrB_set] at hH ⊢)
 refine plan_alloc rfl rfl hH zc104 ?_
 clear hH
 intro b8 w9 hH
 (try simp only [nf, nh, Value.cells, arrB_set] at hH ⊢)
 refine plan_nil hH ?_
 clear hH
 intro w10 hH
 refine hK1 _ _ ?_
 (try clear hK1 K1)
 refine wp_seq_k ?_
 intro K11 hK11
 refine wrt [.p 0] ?_
 refine pa ?_;simp only [nf]
 refine plan_nil hH ?_
 clear hH
 intro w12 hH
 rw [show (Value.int IntKind.u64 0) = V64 0 from rfl]
 refine hK11 _ _ ?_
 (try clear hK11 K11)
 refine wp_seq_k ?_
 intro K13 hK13
 refine wp_seq_k ?_
 intro K14 hK14
 refine wrt [.p 0] ?_
 refine pm ?_;simp only [nf]
 refine plan_nil hH ?_
 clear hH
 intro w15 hH
 refine hK14 _ _ ?_
 (try clear hK14 K14)
 refine wp_cond_true rfl ?_
 refine wrt [.p 0, .p 1, .p 2] ?_
 refine pm ?_;simp only [nf]
 refine pp rfl rfl (pr_compl64 rfl) ?_;simp only [nf]
 refine pa ?_;simp only [nf]
 refine plan_nil hH ?_
 clear hH
 intro w16 hH
 rw [show (~~~(0 : UInt64)) = swM true from rfl]
 refine hK13 _ _ ?_
 (try clear hK13 K13)
 refine wp_seq_k ?_
 intro K17 hK17
 refine wp_seq_k ?_
 intro K18 hK18
 refine wrt [.p 0] ?_
 refine pk 0 ?_;simp only [nf]
 refine plan_nil hH ?_
 clear hH
 intro w19 hH
 refine hK18 _ _ ?_
 (try clear hK18 K18)
 refine wp_block ?_
 obtain ⟨kc20, hkc21, hN⟩ := hH.name 2 rfl
 replace hH := hN; clear hN; simp only [List.set_cons_zero, List.set_cons_succ] at hH
 obtain ⟨kc22, hkc23, hN⟩ := hH.name 3 rfl
 replace hH := hN; clear hN; simp only [List.set_cons_zero, List.set_cons_succ] at hH
 refine wp_loopT [14] [9, 10, 15, 16, 17, 18, 19, 20, 21, 22, 23, 24, 25, 26, 27, 28, 29, 30, 31, 32, 33, 34, 35, 36, 37, 38, 39, 40, 41, 42, 43, 44] (fun (n24 : Nat) (vs : List Value) (w' : World) => ∃ (i : Nat), vs = [I64 (i : Nat)] ∧ Hp [] w w' [(some b2, 104, arr64 5 (swL true f g i).1), (some b4, 104, arr64 5 (swL true f g i).2), (some b6, 104, kc20), (some b8, 104, kc22)] ∧ n24 = 5 - i ∧ i ≤ 5) (5 - 0) (by kernel_rfl) ?_ ?_
 ·
  simp only [ga]
  refine ⟨0, rfl, ?_, rfl, ?_⟩
  ·
   exact hH
  · first | omega | (omega)
 clear hH
 intro n24 vs25 w26 hR27 d0
 obtain ⟨i, rfl, hH, hn28, hf29⟩ := hR27
 simp only [putAll, putD, List.set_cons_zero, List.set_cons_succ, Nat.zero_add, Nat.reduceAdd]
 subst hkc21 hkc23
 refine wp_seq_k ?_
 intro K30 hK30
 refine wrt [.p 0] ?_
 refine pp rfl rfl (pr_bin rfl rfl (by first | exact bin_lss_n (n := 5)  | exact bin_lss_i)) ?_;simp only [nf]
 refine plan_nil hH ?_
 clear hH
 intro w31 hH
 refine hK30 _ _ ?_
 (try clear hK30 K30)
 refine wp_seq_k ?_
 intro K32 hK32
 refine wp_cond_split rfl (fun hc33 => ?_) (fun hc33 => ?_)
 ·
  (try simp only [cnd] at hc33)
  refine wp_skip ?_
  refine hK32 _ _ ?_
  (try clear hK32 K32)
  refine wp_seq_k ?_
  intro K34 hK34
  refine wp_block ?_
  refine wp_seq_k ?_
  intro K35 hK35
  refine wrt [.p 0, .p 1] ?_
  refine pm (pa ?_);simp only [nf]
  refine plan_nil hH ?_
  clear hH
  intro w36 hH
  refine hK35 _ _ ?_
  (try clear hK35 K35)
  refine wp_seq_k ?_
  intro K37 hK37
  refine wrp [.p 0, .p 1, .p 2, .p 4, .p 5, .p 6, .p 9, .q 3, .q 7, .p 8, .p 10, .p 11] ?_
  refine pm ?_;simp only [nf]
  refine pp rfl rfl (pr_fieldAddr 0 rfl Tryd.underlying104 rfl rfl sz102) ?_;simp only [nf]
  refine pp rfl rfl (pr_idxA1 rfl rfl Tryd.underlying102 sz45 (by omega)) ?_;simp only [nf]
  refine pm ?_;simp only [nf]
  refine pp rfl rfl (pr_fieldAddr 0 rfl Tryd.underlying104 rfl rfl sz102) ?_;simp only [nf]
  refine pp rfl rfl (pr_idxA1 rfl rfl Tryd.underlying102 sz45 (by omega)) ?_;simp only [nf]
  refine pm ?_;simp only [nf]
  refine pq rfl rfl (qr_load1 rfl Tryd.underlying45 rfl ((hH.blk 0 rfl).cell (arr64_get (by omega)))) ?_;simp only [nf]
  refine pq rfl rfl (qr_load1 rfl Tryd.underlying45 rfl ((hH.blk 1 rfl).cell (arr64_get (by omega)))) ?_;simp only [nf]
  refine pp rfl rfl (pr_bin rfl rfl (bin_xor_u64 _ _)) ?_;simp only [nf]
  refine pp rfl rfl (pr_bin rfl rfl (bin_and_u64 _ _)) ?_;simp only [nf]
  refine pa ?_;simp only [nf]
  refine plan_nil hH ?_
  clear hH
  intro w38 hH
  refine hK37 _ _ ?_
  (try clear hK37 K37)
  refine wp_seq_k ?_
  intro K39 hK39
  refine wrt [.p 0, .p 1, .p 2, .q 3, .p 4, .p 5, .p 6, .p 7, .e 8] ?_
  refine pm ?_;simp only [nf]
  refine pp rfl rfl (pr_fieldAddr 0 rfl Tryd.underlying104 rfl rfl sz102) ?_;simp only [nf]
  refine pp rfl rfl (pr_idxA1 rfl rfl Tryd.underlying102 sz45 (by omega)) ?_;simp only [nf]
  refine pq rfl rfl (qr_load1 rfl Tryd.underlying45 rfl ((hH.blk 0 rfl).cell (arr64_get (by omega)))) ?_;simp only [nf]
  refine pm ?_;simp only [nf]
  refine pp rfl rfl (pr_bin rfl rfl (bin_xor_u64 _ _)) ?_;simp only [nf]
  refine pp rfl rfl (pr_fieldAddr 0 rfl Tryd.underlying104 rfl rfl sz102) ?_;simp only [nf]
  refine pp rfl rfl (pr_idxA1 rfl rfl Tryd.underlying102 sz45 (by omega)) ?_;simp only [nf]
  refine plan_store1 0 rfl rfl hH rfl rfl rfl rfl sz45 (by simp <;> omega) ?_
  clear hH
  intro w40 hH
  (try simp only [nf, nh, Value.cells, arrB_set] at hH ⊢)
  refine plan_nil hH ?_
  clear hH
  intro w41 hH
  refine hK39 _ _ ?_
  (try clear hK39 K39)
  refine wrt [.p 0, .p 1, .p 2, .q 3, .p 4, .p 5, .p 6, .p 7, .e 8] ?_
  refine pm ?_;simp only [nf]
  refine pp rfl rfl (pr_fieldAddr 0 rfl Tryd.underlying104 rfl rfl sz102) ?_;simp only [nf]
  refine pp rfl rfl (pr_idxA1 rfl rfl Tryd.underlying102 sz45 (by omega)) ?_;simp only [nf]
  refine pq rfl rfl (qr_load1 rfl Tryd.underlying45 rfl ((hH.blk 1 rfl).cell (arr64_get (by omega)))) ?_;simp only [nf]
  refine pm ?_;simp only [nf]
  refine pp rfl rfl (pr_bin rfl rfl (bin_xor_u64 _ _)) ?_;simp only [nf]
  refine pp rfl rfl (pr_fieldAddr 0 rfl Tryd.underlying104 rfl rfl sz102) ?_;simp only [nf]
  refine pp rfl rfl (pr_idxA1 rfl rfl Tryd.underlying102 sz45 (by omega)) ?_;simp only [nf]
  refine plan_store1 1 rfl rfl hH rfl rfl rfl rfl sz45 (by simp <;> omega) ?_
  clear hH
  intro w42 hH
  (try simp only [nf, nh, Value.cells, arrB_set] at hH ⊢)
  refine plan_nil hH ?_
  clear hH
  intro w43 hH
  refine hK34 _ _ ?_
  (try clear hK34 K34)
  refine wrt [.p 0, .p 1] ?_
  refine pp rfl rfl (pr_bin rfl rfl (by first | exact bin_add_n (n := 1) (by omega) | exact bin_add_i (by omega) (by omega))) ?_;simp only [nf]
  refine pm ?_;simp only [nf]
  refine plan_nil hH ?_
  clear hH
  intro w44 hH
  (try simp only [Exit.then, Exit.inBlock, ↓reduceIte, Nat.reduceEqDiff])
  refine ⟨5 - (i + 1), ?_, _, rfl, by kernel_rfl, ?_⟩
  · first | omega | (omega)
  simp only [ga]
  refine ⟨i + 1, rfl, ?_, rfl, ?_⟩
  ·
   exact hH
  · first | omega | (omega)
 ·
  (try simp only [cnd] at hc33)
  refine wp_exit ?_
  (try simp only [Exit.then, Exit.inBlock, ↓reduceIte, Nat.reduceEqDiff])
  refine hK17 _ _ ?_
  (try clear hK17 K17)
  refine wp_seq_k ?_
  intro K45 hK45
  refine wp_region_pend [2, 3] [] (Chg []) (by kernel_rfl) ?_
  refine Pend.plan (n := 3) Far.grown (by kernel_rfl) (fun _ _ _ _ _ h => by first | exact h | exact BP.panic _ _ _ _ _ h) [.q 0] [] _ _ (by simp [AllR]) (by simp [effects]) (by simp [marked]) (by kernel_rfl) ?_
  refine pq rfl rfl (qr_loadW rfl (hH.blk 0 rfl) Tryd.underlying104 rfl sz104 (by simp)) ?_;simp only [nf]
  refine plan_nil hH ?_
  clear hH
  intro w46 hH
  refine Pend.fork2 Far.grown (n := 2) (.x 1) (.e 2) (by kernel_rfl) (by kernel_rfl) (by simp [AllR]) (by simp [AllR]) (by kernel_rfl) (by kernel_rfl) ?_ ?_
  ·
   refine plan_xl rfl rfl hH (fun w1 hH => lr_loadW rfl (hH.blk 1 rfl) Tryd.underlying104 rfl sz104 (by simp)) ?_
   clear hH
   intro w47 hH
   (try simp only [nf])
   refine plan_nil hH ?_
   clear hH
   intro w48 hH
   refine Pend.plan (n := 0) Far.grown (by kernel_rfl) (fun _ _ _ _ _ h => by first | exact h | exact BP.panic _ _ _ _ _ h) [.e 2, .e 3] [1, 0] _ _ (by simp [AllR]) (by simp [effects]) (by simp [marked]) (by kernel_rfl) ?_
   refine plan_storeW 2 rfl rfl hH rfl rfl rfl one_arr64 sz104 (by simp) (by simp) ?_
   clear hH
   intro w49 hH
   (try simp only [nf, nh, Value.cells, arrB_set] at hH ⊢)
   refine plan_storeW 3 rfl rfl hH rfl rfl rfl one_arr64 sz104 (by simp) (by simp) ?_
   clear hH
   intro w50 hH
   (try simp only [nf, nh, Value.cells, arrB_set] at hH ⊢)
   refine plan_nil hH ?_
   clear hH
   intro w51 hH
   refine Pend.done (by kernel_rfl) ?_
   intro w52 hw53
   replace hH := hH.call hw53; clear hw53
   refine hK45 _ _ ?_
   (try clear hK45 K45)
   refine wp_ret ?_
   (try simp only [Exit.then, Exit.inBlock, ↓reduceIte, Nat.reduceEqDiff])
   refine BP.retcc rfl rfl rfl (hH.blk 2 rfl) (hH.blk 3 rfl) Tryd.underlying104 Tryd.underlying104 rfl rfl sz104 sz104 (by simp) (by simp) ?_
   obtain rfl : i = 5 := by omega
   exact ⟨by rw [sw_true1, sw_true2], hH.chg⟩
  ·
   refine plan_storeW 2 rfl rfl hH rfl rfl rfl one_arr64 sz104 (by simp) (by simp) ?_
   clear hH
   intro w54 hH
   (try simp only [nf, nh, Value.cells, arrB_set] at hH ⊢)
   refine plan_nil hH ?_
   clear hH
   intro w55 hH
   refine Pend.plan (n := 0) Far.grown (by kernel_rfl) (fun _ _ _ _ _ h => by first | exact h | exact BP.panic _ _ _ _ _ h) [.q 1, .e 3] [2, 0] _ _ (by simp [AllR]) (by simp [effects]) (by simp [marked]) (by kernel_rfl) ?_
   refine pq rfl rfl (qr_loadW rfl (hH.blk 1 rfl) Tryd.underlying104 rfl sz104 (by simp)) ?_;simp only [nf]
   refine plan_storeW 3 rfl rfl hH rfl rfl rfl one_arr64 sz104 (by simp) (by simp) ?_
   clear hH
   intro w56 hH
   (try simp only [nf, nh, Value.cells, arrB_set] at hH ⊢)
   refine plan_nil hH ?_
   clear hH
   intro w57 hH
   refine Pend.done (by kernel_rfl) ?_
   intro w58 hw59
   replace hH := hH.call hw59; clear hw59
   refine hK45 _ _ ?_
   (try clear hK45 K45)
   refine wp_ret ?_
   (try simp only [Exit.then, Exit.inBlock, ↓reduceIte, Nat.reduceEqDiff])
   refine BP.retcc rfl rfl rfl (hH.blk 2 rfl) (hH.blk 3 rfl) Tryd.underlying104 Tryd.underlying104 rfl rfl sz104 sz104 (by simp) (by simp) ?_
   obtain rfl : i = 5 := by omega
   exact ⟨by rw [sw_true1, sw_true2], hH.chg⟩
theorem fswap_false (f g : Five) (w : World) : Ret Tryd.prog 51 #[BV false, .agg (arr64 5 f), .agg (arr64 5 g)] w fun v w' => v = .tuple #[.agg (arr64 5 f), .agg (arr64 5 g)] ∧ Chg [] w w' := by
 refine Ret.enter Tryd.func51 rfl ?_
 simp only [Tryd.ntmps51, fe, Nat.reduceAdd, Nat.reduceSub]
 have hH := Hp.start [] w
 refine wp_seq_k ?_
 intro K1 hK1
 refine wrt [.x 0, .x 1, .x 2, .x 3] ?_
 refine plan_box rfl rfl hH rfl ?_
 clear hH
 intro b2 w3 hH
 (try simp only [nf, nh, Value.cells, arrB_set] at hH ⊢)
 refine plan_box rfl rfl hH rfl ?_
 clear hH
 intro b4 w5 hH
 (try simp only [nf, nh, Value.cells, arrB_set] at hH ⊢)
 refine plan_alloc rfl rfl hH zc104 ?_
 clear hH
 intro b6 w7 hH
 (try simp only [nf, nh, Value.cells, arrB_set] at hH ⊢)
 refine plan_alloc rfl rfl hH zc104 ?_
 clear hH
 intro b8 w9 hH
 (try simp only [nf, nh, Value.cells, arrB_set] at hH ⊢)
 refine plan_nil hH ?_
 clear hH
 intro w10 hH
 refine hK1 _ _ ?_
 (try clear hK1 K1)
 refine wp_seq_k ?_
 intro K11 hK11
 refine wrt [.p 0] ?_
 refine pa ?_;simp only [nf]
 refine plan_nil hH ?_
 clear hH
 intro w12 hH
 rw [show (Value.int IntKind.u64 0) = V64 0 from rfl]
 refine hK11 _ _ ?_
 (try clear hK11 K11)
 refine wp_seq_k ?_
 intro K13 hK13
 refine wp_seq_k ?_
 intro K14 hK14
 refine wrt [.p 0] ?_
 refine pm ?_;simp only [nf]
 refine plan_nil hH ?_
 clear hH
 intro w15 hH
 refine hK14 _ _ ?_
 (try clear hK14 K14)
 refine wp_cond_false rfl ?_
 refine wp_skip ?_
 refine hK13 _ _ ?_
 (try clear hK13 K13)
 refine wp_seq_k ?_
 intro K16 hK16
 refine wp_seq_k ?_
 intro K17 hK17
 refine wrt [.p 0] ?_
 refine pk 0 ?_;simp only [nf]
 refine plan_nil hH ?_
 clear hH
 intro w18 hH
 refine hK17 _ _ ?_
 (try clear hK17 K17)
 refine wp_block ?_
 obtain ⟨kc19, hkc20, hN⟩ := hH.name 2 rfl
 replace hH := hN; clear hN; simp only [List.set_cons_zero, List.set_cons_succ] at hH
 obtain ⟨kc21, hkc22, hN⟩ := hH.name 3 rfl
 replace hH := hN; clear hN; simp only [List.set_cons_zero, List.set_cons_succ] at hH
 refine wp_loopT [14] [9, 10, 15, 16, 17, 18, 19, 20, 21, 22, 23, 24, 25, 26, 27, 28, 29, 30, 31, 32, 33, 34, 35, 36, 37, 38, 39, 40, 41, 42, 43, 44] (fun (n23 : Nat) (vs : List Value) (w' : World) => ∃ (i : Nat), vs = [I64 (i : Nat)] ∧ Hp [] w w' [(some b2, 104, arr64 5 (swL false f g i).1), (some b4, 104, arr64 5 (swL false f g i).2), (some b6, 104, kc19), (some b8, 104, kc21)] ∧ n23 = 5 - i ∧ i ≤ 5) (5 - 0) (by kernel_rfl) ?_ ?_
 ·
  simp only [ga]
  refine ⟨0, rfl, ?_, rfl, ?_⟩
  ·
   exact hH
  · first | omega | (omega)
 clear hH
 intro n23 vs24 w25 hR26 d0
 obtain ⟨i, rfl, hH, hn27, hf28⟩ := hR26
 simp only [putAll, putD, List.set_cons_zero, List.set_cons_succ, Nat.zero_add, Nat.reduceAdd]
 subst hkc20 hkc22
 refine wp_seq_k ?_
 intro K29 hK29
 refine wrt [.p 0] ?_
 refine pp rfl rfl (pr_bin rfl rfl (by first | exact bin_lss_n (n := 5)  | exact bin_lss_i)) ?_;simp only [nf]
 refine plan_nil hH ?_
 clear hH
 intro w30 hH
 refine hK29 _ _ ?_
 (try clear hK29 K29)
 refine wp_seq_k ?_
 intro K31 hK31
 refine wp_cond_split rfl (fun hc32 => ?_) (fun hc32 => ?_)
 ·
  (try simp only [cnd] at hc32)
  refine wp_skip ?_
  refine hK31 _ _ ?_
  (try clear hK31 K31)
  refine wp_seq_k ?_
  intro K33 hK33
  refine wp_block ?_
  refine wp_seq_k ?_
  intro K34 hK34
  refine wrt [.p 0, .p 1] ?_
  refine pm (pa ?_);simp only [nf]
  refine plan_nil hH ?_
  clear hH
  intro w35 hH
  refine hK34 _ _ ?_
  (try clear hK34 K34)
  refine wp_seq_k ?_
  intro K36 hK36
  refine wrp [.p 0, .p 1, .p 2, .p 4, .p 5, .p 6, .p 9, .q 3, .q 7, .p 8, .p 10, .p 11] ?_
  refine pm ?_;simp only [nf]
  refine pp rfl rfl (pr_fieldAddr 0 rfl Tryd.underlying104 rfl rfl sz102) ?_;simp only [nf]
  refine pp rfl rfl (pr_idxA1 rfl rfl Tryd.underlying102 sz45 (by omega)) ?_;simp only [nf]
  refine pm ?_;simp only [nf]
  refine pp rfl rfl (pr_fieldAddr 0 rfl Tryd.underlying104 rfl rfl sz102) ?_;simp only [nf]
  refine pp rfl rfl (pr_idxA1 rfl rfl Tryd.underlying102 sz45 (by omega)) ?_;simp only [nf]
  refine pm ?_;simp only [nf]
  refine pq rfl rfl (qr_load1 rfl Tryd.underlying45 rfl ((hH.blk 0 rfl).cell (arr64_get (by omega)))) ?_;simp only [nf]
  refine pq rfl rfl (qr_load1 rfl Tryd.underlying45 rfl ((hH.blk 1 rfl).cell (arr64_get (by omega)))) ?_;simp only [nf]
  refine pp rfl rfl (pr_bin rfl rfl (bin_xor_u64 _ _)) ?_;simp only [nf]
  refine pp rfl rfl (pr_bin rfl rfl (bin_and_u64 _ _)) ?_;simp only [nf]
  refine pa ?_;simp only [nf]
  refine plan_nil hH ?_
  clear hH
  intro w37 hH
  refine hK36 _ _ ?_
  (try clear hK36 K36)
  refine wp_seq_k ?_
  intro K38 hK38
  refine wrt [.p 0, .p 1, .p 2, .q 3, .p 4, .p 5, .p 6, .p 7, .e 8] ?_
  refine pm ?_;simp only [nf]
  refine pp rfl rfl (pr_fieldAddr 0 rfl Tryd.underlying104 rfl rfl sz102) ?_;simp only [nf]
  refine pp rfl rfl (pr_idxA1 rfl rfl Tryd.underlying102 sz45 (by omega)) ?_;simp only [nf]
  refine pq rfl rfl (qr_load1 rfl Tryd.underlying45 rfl ((hH.blk 0 rfl).cell (arr64_get (by omega)))) ?_;simp only [nf]
  refine pm ?_;simp only [nf]
  refine pp rfl rfl (pr_bin rfl rfl (bin_xor_u64 _ _)) ?_;simp only [nf]
  refine pp rfl rfl (pr_fieldAddr 0 rfl Tryd.underlying104 rfl rfl sz102) ?_;simp only [nf]
  refine pp rfl rfl (pr_idxA1 rfl rfl Tryd.underlying102 sz45 (by omega)) ?_;simp only [nf]
  refine plan_store1 0 rfl rfl hH rfl rfl rfl rfl sz45 (by simp <;> omega) ?_
  clear hH
  intro w39 hH
  (try simp only [nf, nh, Value.cells, arrB_set] at hH ⊢)
  refine plan_nil hH ?_
  clear hH
  intro w40 hH
  refine hK38 _ _ ?_
  (try clear hK38 K38)
  refine wrt [.p 0, .p 1, .p 2, .q 3, .p 4, .p 5, .p 6, .p 7, .e 8] ?_
  refine pm ?_;simp only [nf]
  refine pp rfl rfl (pr_fieldAddr 0 rfl Tryd.underlying104 rfl rfl sz102) ?_;simp only [nf]
  refine pp rfl rfl (pr_idxA1 rfl rfl Tryd.underlying102 sz45 (by omega)) ?_;simp only [nf]
  refine pq rfl rfl (qr_load1 rfl Tryd.underlying45 rfl ((hH.blk 1 rfl).cell (arr64_get (by omega)))) ?_;simp only [nf]
  refine pm ?_;simp only [nf]
  refine pp rfl rfl (pr_bin rfl rfl (bin_xor_u64 _ _)) ?_;simp only [nf]
  refine pp rfl rfl (pr_fieldAddr 0 rfl Tryd.underlying104 rfl rfl sz102) ?_;simp only [nf]
  refine pp rfl rfl (pr_idxA1 rfl rfl Tryd.underlying102 sz45 (by omega)) ?_;simp only [nf]
  refine plan_store1 1 rfl rfl hH rfl rfl rfl rfl sz45 (by simp <;> omega) ?_
  clear hH
  intro w41 hH
  (try simp only [nf, nh, Value.cells, arrB_set] at hH ⊢)
  refine plan_nil hH ?_
  clear hH
  intro w42 hH
  refine hK33 _ _ ?_
  (try clear hK33 K33)
  refine wrt [.p 0, .p 1] ?_
  refine pp rfl rfl (pr_bin rfl rfl (by first | exact bin_add_n (n := 1) (by omega) | exact bin_add_i (by omega) (by omega))) ?_;simp only [nf]
  refine pm ?_;simp only [nf]
  refine plan_nil hH ?_
  clear hH
  intro w43 hH
  (try simp only [Exit.then, Exit.inBlock, ↓reduceIte, Nat.reduceEqDiff])
  refine ⟨5 - (i + 1), ?_, _, rfl, by kernel_rfl, ?_⟩
  · first | omega | (omega)
  simp only [ga]
  refine ⟨i + 1, rfl, ?_, rfl, ?_⟩
  ·
   exact hH
  · first | omega | (omega)
 ·
  (try simp only [cnd] at hc32)
  refine wp_exit ?_
  (try simp only [Exit.then, Exit.inBlock, ↓reduceIte, Nat.reduceEqDiff])
  refine hK16 _ _ ?_
  (try clear hK16 K16)
  refine wp_seq_k ?_
  intro K44 hK44
  refine wp_region_pend [2, 3] [] (Chg []) (by kernel_rfl) ?_
  refine Pend.plan (n := 3) Far.grown (by kernel_rfl) (fun _ _ _ _ _ h => by first | exact h | exact BP.panic _ _ _ _ _ h) [.q 0] [] _ _ (by simp [AllR]) (by simp [effects]) (by simp [marked]) (by kernel_rfl) ?_
  refine pq rfl rfl (qr_loadW rfl (hH.blk 0 rfl) Tryd.underlying104 rfl sz104 (by simp)) ?_;simp only [nf]
  refine plan_nil hH ?_
  clear hH
  intro w45 hH
  refine Pend.fork2 Far.grown (n := 2) (.x 1) (.e 2) (by kernel_rfl) (by kernel_rfl) (by simp [AllR]) (by simp [AllR]) (by kernel_rfl) (by kernel_rfl) ?_ ?_
  ·
   refine plan_xl rfl rfl hH (fun w1 hH => lr_loadW rfl (hH.blk 1 rfl) Tryd.underlying104 rfl sz104 (by simp)) ?_
   clear hH
   intro w46 hH
   (try simp only [nf])
   refine plan_nil hH ?_
   clear hH
   intro w47 hH
   refine Pend.plan (n := 0) Far.grown (by kernel_rfl) (fun _ _ _ _ _ h => by first | exact h | exact BP.panic _ _ _ _ _ h) [.e 2, .e 3] [1, 0] _ _ (by simp [AllR]) (by simp [effects]) (by simp [marked]) (by kernel_rfl) ?_
   refine plan_storeW 2 rfl rfl hH rfl rfl rfl one_arr64 sz104 (by simp) (by simp) ?_
   clear hH
   intro w48 hH
   (try simp only [nf, nh, Value.cells, arrB_set] at hH ⊢)
   refine plan_storeW 3 rfl rfl hH rfl rfl rfl one_arr64 sz104 (by simp) (by simp) ?_
   clear hH
   intro w49 hH
   (try simp only [nf, nh, Value.cells, arrB_set] at hH ⊢)
   refine plan_nil hH ?_
   clear hH
   intro w50 hH
   refine Pend.done (by kernel_rfl) ?_
   intro w51 hw52
   replace hH := hH.call hw52; clear hw52
   refine hK44 _ _ ?_
   (try clear hK44 K44)
   refine wp_ret ?_
   (try simp only [Exit.then, Exit.inBlock, ↓reduceIte, Nat.reduceEqDiff])
   refine BP.retcc rfl rfl rfl (hH.blk 2 rfl) (hH.blk 3 rfl) Tryd.underlying104 Tryd.underlying104 rfl rfl sz104 sz104 (by simp) (by simp) ?_
   obtain rfl : i = 5 := by omega
   exact ⟨by rw [sw_false1, sw_false2], hH.chg⟩
  ·
   refine plan_storeW 2 rfl rfl hH rfl rfl rfl one_arr64 sz104 (by simp) (by simp) ?_
   clear hH
   intro w53 hH
   (try simp only [nf, nh, Value.cells, arrB_set] at hH ⊢)
   refine plan_nil hH ?_
   clear hH
   intro w54 hH
   refine Pend.plan (n := 0) Far.grown (by kernel_rfl) (fun _ _ _ _ _ h => by first | exact h | exact BP.panic _ _ _ _ _ h) [.q 1, .e 3] [2, 0] _ _ (by simp [AllR]) (by simp [effects]) (by simp [marked]) (by kernel_rfl) ?_
   refine pq rfl rfl (qr_loadW rfl (hH.blk 1 rfl) Tryd.underlying104 rfl sz104 (by simp)) ?_;simp only [nf]
   refine plan_storeW 3 rfl rfl hH rfl rfl rfl one_arr64 sz104 (by simp) (by simp) ?_
   clear hH
   intro w55 hH
   (try simp only [nf, nh, Value.cells, arrB_set] at hH ⊢)
   refine plan_nil hH ?_
   clear hH
   intro w56 hH
   refine Pend.done (by kernel_rfl) ?_
   intro w57 hw58
   replace hH := hH.call hw58; clear hw58
   refine hK44 _ _ ?_
   (try clear hK44 K44)
   refine wp_ret ?_
   (try simp only [Exit.then, Exit.inBlock, ↓reduceIte, Nat.reduceEqDiff])
   refine BP.retcc rfl rfl rfl (hH.blk 2 rfl) (hH.blk 3 rfl) Tryd.underlying104 Tryd.underlying104 rfl rfl sz104 sz104 (by simp) (by simp) ?_
   obtain rfl : i = 5 := by omega
   exact ⟨by rw [sw_false1, sw_false2], hH.chg⟩
theorem fswap_calls (s : Bool) (f g : Five) (w : World) : Ret Tryd.prog 51 #[BV s, .agg (arr64 5 f), .agg (arr64 5 g)] w fun v w' => v = .tuple #[.agg (arr64 5 (if s then g else f)), .agg (arr64 5 (if s then f else g))] ∧ Chg [] w w' := by
  cases s
  · exact fswap_false f g w
  · exact fswap_true f g w
end Go.Proofs.YtdkjdioccpoacaaDoor
set_option linter.unusedSimpArgs false
set_option linter.unusedVariables false
set_option maxRecDepth 100000
set_option maxHeartbeats 4000000
namespace Go.Proofs.YtdkjdioccpoacaaDoor
open Go
open List (getD_cons_zero getD_cons_succ set_cons_zero set_cons_succ)
theorem copy_small (l : List UInt8) (j : Nat) (hj : j < 32) : (if 0 ≤ j ∧ j < min l.length 32 then l.getD (j - 0) 0 else 0) = l.getD j 0 := by
  rw [Nat.sub_zero]
  by_cases h : j < min l.length 32
  · rw [if_pos ⟨Nat.zero_le _, h⟩]
  · rw [if_neg (by omega)]
    simp only [List.getD]
    rw [List.getElem?_eq_none (by omega)]; rfl
theorem csmall_calls (v : Value) (l : List UInt8) (w : World) (hv : Sl w v l) : Ret Tryd.prog 49 #[v] w fun v w' => v = .agg (arr64 5 (fSmall l)) ∧ Chg [] w w' := by
 refine Ret.enter Tryd.func49 rfl ?_
 simp only [Tryd.ntmps49, fe, Nat.reduceAdd, Nat.reduceSub]
 have hH := Hp.start [] w
 refine wp_seq_k ?_
 intro K1 hK1
 refine wrt [.x 0] ?_
 refine plan_alloc rfl rfl hH zc104 ?_
 clear hH
 intro b2 w3 hH
 (try simp only [nf, nh, Value.cells, arrB_set] at hH ⊢)
 refine plan_nil hH ?_
 clear hH
 intro w4 hH
 refine hK1 _ _ ?_
 (try clear hK1 K1)
 refine wp_seq_k ?_
 intro K5 hK5
 refine wrt [.x 0] ?_
 refine plan_alloc rfl rfl hH zc22 ?_
 clear hH
 intro b6 w7 hH
 (try simp only [nf, nh, Value.cells, arrB_set] at hH ⊢)
 refine plan_nil hH ?_
 clear hH
 intro w8 hH
 refine hK5 _ _ ?_
 (try clear hK5 K5)
 refine wp_seq_k ?_
 intro K9 hK9
 refine wrt [.p 0, .p 1, .e 2] ?_
 refine pp rfl rfl (pr_slice_arr_all rfl Tryd.underlying22 sz5) ?_;simp only [nf]
 (try simp only [Nat.mul_one, Nat.zero_add, Nat.add_sub_cancel_left])
 refine pm ?_;simp only [nf]
 refine plan_copy 1 rfl rfl hH rfl (fun w' hH => ((hv.chg hH.chg)).csrc) rfl rfl Tryd.underlying29 sz5 (by omega) ?_
 clear hH
 intro w10 hH
 (try simp only [nf, nh, Value.cells, arrB_set] at hH ⊢)
 refine plan_nil hH ?_
 clear hH
 intro w11 hH
 replace hH := hH.say 1 rfl (arr8_congr fun j hj => copy_small l j hj)
 simp only [List.set_cons_zero, List.set_cons_succ] at hH
 refine hK9 _ _ ?_
 (try clear hK9 K9)
 refine wp_seq_k ?_
 intro K12 hK12
 refine wrt [.q 0, .q 1, .e 2] ?_
 refine pq rfl rfl (qr_loadW rfl (hH.blk 1 rfl) Tryd.underlying22 rfl sz22 (by simp)) ?_;simp only [nf]
 refine pq rfl rfl (qr_call cf48 (fun w' hw => fof_calls _ w') rfl) ?_;simp only [nf]
 refine plan_storeW 0 rfl rfl hH rfl rfl rfl one_arr64 sz104 (by simp) (by simp) ?_
 clear hH
 intro w13 hH
 (try simp only [nf, nh, Value.cells, arrB_set] at hH ⊢)
 refine plan_nil hH ?_
 clear hH
 intro w14 hH
 refine hK12 _ _ ?_
 (try clear hK12 K12)
 refine wp_ret ?_
 (try simp only [Exit.then, Exit.inBlock, ↓reduceIte, Nat.reduceEqDiff])
 refine BP.retc rfl rfl (hH.blk 0 rfl) Tryd.underlying104 rfl sz104 (by simp) ?_
 exact ⟨rfl, hH.chg⟩
theorem cbit_top (n : Nat → UInt8) (i : Nat) (w : World) (h : i = 254) : Ret Tryd.prog 50 #[.agg (arr8 32 n), I64 (i : Nat)] w fun v w' => v = BV (bitN n i) ∧ Chg [] w w' := by
 subst h
 refine Ret.enter Tryd.func50 rfl ?_
 simp only [Tryd.ntmps50, fe, Nat.reduceAdd, Nat.reduceSub]
 have hH := Hp.start [] w
 refine wp_seq_k ?_
 intro K1 hK1
 refine wrt [.x 0, .p 1] ?_
 refine plan_box rfl rfl hH rfl ?_
 clear hH
 intro b2 w3 hH
 (try simp only [nf, nh, Value.cells, arrB_set] at hH ⊢)
 refine pa ?_;simp only [nf]
 refine plan_nil hH ?_
 clear hH
 intro w4 hH
 refine hK1 _ _ ?_
 (try clear hK1 K1)
 refine wp_seq_k ?_
 intro K5 hK5
 refine wrt [.p 0, .p 1, .p 2, .p 3, .p 4, .p 5, .p 6, .p 7, .p 8, .q 9, .p 10, .p 11, .p 12, .p 13, .p 14, .p 15, .p 16, .p 17] ?_
 refine pm ?_;simp only [nf]
 refine pp rfl rfl (pr_bin rfl rfl (by first | exact bin_eql_n (n := 254)  | exact bin_eql_i)) ?_;simp only [nf]
 refine plan_p (v := BV true) rfl rfl (pr_move_v rfl) ?_
 (try simp only [nf])
 refine plan_ps rfl rfl ?_
 (try simp only [nf])
 refine plan_ps rfl rfl ?_
 (try simp only [nf])
 refine plan_ps rfl rfl ?_
 (try simp only [nf])
 refine plan_ps rfl rfl ?_
 (try simp only [nf])
 refine plan_ps rfl rfl ?_
 (try simp only [nf])
 refine plan_ps rfl rfl ?_
 (try simp only [nf])
 refine plan_qs rfl rfl ?_
 (try simp only [nf])
 refine plan_ps rfl rfl ?_
 (try simp only [nf])
 refine plan_ps rfl rfl ?_
 (try simp only [nf])
 refine plan_ps rfl rfl ?_
 (try simp only [nf])
 refine plan_ps rfl rfl ?_
 (try simp only [nf])
 refine plan_ps rfl rfl ?_
 (try simp only [nf])
 refine plan_ps rfl rfl ?_
 (try simp only [nf])
 refine pp rfl rfl (pr_pick_t rfl) ?_;simp only [nf]
 refine pa ?_;simp only [nf]
 refine plan_nil hH ?_
 clear hH
 intro w6 hH
 refine hK5 _ _ ?_
 (try clear hK5 K5)
 refine wp_ret ?_
 (try simp only [Exit.then, Exit.inBlock, ↓reduceIte, Nat.reduceEqDiff])
 refine BP.ret1 rfl rfl ?_
 exact ⟨rfl, hH.chg⟩
theorem cbit_mid (n : Nat → UInt8) (i : Nat) (w : World) (h : 3 ≤ i ∧ i < 254) : Ret Tryd.prog 50 #[.agg (arr8 32 n), I64 (i : Nat)] w fun v w' => v = BV (bitN n i) ∧ Chg [] w w' := by
 refine Ret.enter Tryd.func50 rfl ?_
 simp only [Tryd.ntmps50, fe, Nat.reduceAdd, Nat.reduceSub]
 have hH := Hp.start [] w
 refine wp_seq_k ?_
 intro K1 hK1
 refine wrt [.x 0, .p 1] ?_
 refine plan_box rfl rfl hH rfl ?_
 clear hH
 intro b2 w3 hH
 (try simp only [nf, nh, Value.cells, arrB_set] at hH ⊢)
 refine pa ?_;simp only [nf]
 refine plan_nil hH ?_
 clear hH
 intro w4 hH
 refine hK1 _ _ ?_
 (try clear hK1 K1)
 refine wp_seq_k ?_
 intro K5 hK5
 refine wrt [.p 0, .p 1, .p 2, .p 3, .p 4, .p 5, .p 6, .p 7, .p 8, .q 9, .p 10, .p 11, .p 12, .p 13, .p 14, .p 15, .p 16, .p 17] ?_
 refine pm ?_;simp only [nf]
 refine pp rfl rfl (pr_bin rfl rfl (by first | exact bin_eql_n (n := 254)  | exact bin_eql_i)) ?_;simp only [nf]
 refine plan_p (v := BV false) rfl rfl (pr_move_v (by show BV _ = _; rw [beq_eq_false_iff_ne.mpr (by omega)])) ?_
 (try simp only [nf])
 refine pp rfl rfl pr_move ?_;simp only [nf]
 refine pp rfl rfl (pr_bin rfl rfl (by first | exact bin_geq_n (n := 3)  | exact bin_geq_i)) ?_;simp only [nf]
 refine plan_p (v := BV true) rfl rfl (pr_move_v (by show BV _ = _; rw [decide_eq_true (by omega)])) ?_
 (try simp only [nf])
 refine pp rfl rfl pr_move ?_;simp only [nf]
 refine pp rfl rfl (pr_bin rfl rfl (by first | exact bin_quo_n (n := 8) (by first | omega | ((have := Nat.mod_lt i (show 0 < 8 by decide); omega))) (by first | omega | ((have := Nat.mod_lt i (show 0 < 8 by decide); omega))))) ?_;simp only [nf]
 refine pp rfl rfl (pr_idxA1 rfl rfl Tryd.underlying22 sz5 (by first | omega | ((have := Nat.mod_lt i (show 0 < 8 by decide); omega)))) ?_;simp only [nf]
 refine pq rfl rfl (qr_load1 rfl Tryd.underlying5 rfl ((hH.blk 0 rfl).cell (arr8_get (by first | omega | ((have := Nat.mod_lt i (show 0 < 8 by decide); omega)))))) ?_;simp only [nf]
 refine pp rfl rfl pr_move ?_;simp only [nf]
 refine pp rfl rfl (pr_bin rfl rfl (by first | exact bin_rem_n (n := 8) (by first | omega | ((have := Nat.mod_lt i (show 0 < 8 by decide); omega))))) ?_;simp only [nf]
 refine pp rfl rfl (pr_bin rfl rfl (bin_shr_u8 _ _ _)) ?_;simp only [nf]
 refine pp rfl rfl (pr_bin rfl rfl (bin_and_u8 _ 1)) ?_;simp only [nf]
 refine pp rfl rfl (pr_bin rfl rfl (bin_eql_u8 _ 1)) ?_;simp only [nf]
 refine pp rfl rfl (pr_pick_t rfl) ?_;simp only [nf]
 refine pp rfl rfl (pr_pick_f rfl) ?_;simp only [nf]
 refine pa ?_;simp only [nf]
 refine plan_nil hH ?_
 clear hH
 intro w6 hH
 refine hK5 _ _ ?_
 (try clear hK5 K5)
 refine wp_ret ?_
 (try simp only [Exit.then, Exit.inBlock, ↓reduceIte, Nat.reduceEqDiff])
 refine BP.ret1 rfl rfl ?_
 refine ⟨?_, hH.chg⟩
 unfold bitN
 rw [decide_eq_false (show ¬ i = 254 by omega), decide_eq_true (show 3 ≤ i by omega), Bool.false_or, Bool.true_and]
 rfl
theorem cbit_low (n : Nat → UInt8) (i : Nat) (w : World) (h : i < 3) : Ret Tryd.prog 50 #[.agg (arr8 32 n), I64 (i : Nat)] w fun v w' => v = BV (bitN n i) ∧ Chg [] w w' := by
 refine Ret.enter Tryd.func50 rfl ?_
 simp only [Tryd.ntmps50, fe, Nat.reduceAdd, Nat.reduceSub]
 have hH := Hp.start [] w
 refine wp_seq_k ?_
 intro K1 hK1
 refine wrt [.x 0, .p 1] ?_
 refine plan_box rfl rfl hH rfl ?_
 clear hH
 intro b2 w3 hH
 (try simp only [nf, nh, Value.cells, arrB_set] at hH ⊢)
 refine pa ?_;simp only [nf]
 refine plan_nil hH ?_
 clear hH
 intro w4 hH
 refine hK1 _ _ ?_
 (try clear hK1 K1)
 refine wp_seq_k ?_
 intro K5 hK5
 refine wrt [.p 0, .p 1, .p 2, .p 3, .p 4, .p 5, .p 6, .p 7, .p 8, .q 9, .p 10, .p 11, .p 12, .p 13, .p 14, .p 15, .p 16, .p 17] ?_
 refine pm ?_;simp only [nf]
 refine pp rfl rfl (pr_bin rfl rfl (by first | exact bin_eql_n (n := 254)  | exact bin_eql_i)) ?_;simp only [nf]
 refine plan_p (v := BV false) rfl rfl (pr_move_v (by show BV _ = _; rw [beq_eq_false_iff_ne.mpr (by omega)])) ?_
 (try simp only [nf])
 refine pp rfl rfl pr_move ?_;simp only [nf]
 refine pp rfl rfl (pr_bin rfl rfl (by first | exact bin_geq_n (n := 3)  | exact bin_geq_i)) ?_;simp only [nf]
 refine plan_p (v := BV false) rfl rfl (pr_move_v (by show BV _ = _; rw [decide_eq_false (by omega)])) ?_
 (try simp only [nf])
 refine plan_ps rfl rfl ?_
 (try simp only [nf])
 refine plan_ps rfl rfl ?_
 (try simp only [nf])
 refine plan_ps rfl rfl ?_
 (try simp only [nf])
 refine plan_qs rfl rfl ?_
 (try simp only [nf])
 refine plan_ps rfl rfl ?_
 (try simp only [nf])
 refine plan_ps rfl rfl ?_
 (try simp only [nf])
 refine plan_ps rfl rfl ?_
 (try simp only [nf])
 refine plan_ps rfl rfl ?_
 (try simp only [nf])
 refine plan_ps rfl rfl ?_
 (try simp only [nf])
 refine pp rfl rfl (pr_pick_f rfl) ?_;simp only [nf]
 refine pp rfl rfl (pr_pick_f rfl) ?_;simp only [nf]
 refine pa ?_;simp only [nf]
 refine plan_nil hH ?_
 clear hH
 intro w6 hH
 refine hK5 _ _ ?_
 (try clear hK5 K5)
 refine wp_ret ?_
 (try simp only [Exit.then, Exit.inBlock, ↓reduceIte, Nat.reduceEqDiff])
 refine BP.ret1 rfl rfl ?_
 refine ⟨?_, hH.chg⟩
 unfold bitN
 rw [decide_eq_false (show ¬ i = 254 by omega), decide_eq_false (show ¬ 3 ≤ i by omega), Bool.false_or, Bool.false_and]
 rfl
theorem cbit_calls (n : Nat → UInt8) (i : Nat) (w : World) (h : i < 255) : Ret Tryd.prog 50 #[.agg (arr8 32 n), I64 (i : Nat)] w fun v w' => v = BV (bitN n i) ∧ Chg [] w w' := by
  by_cases h1 : i = 254
  · exact cbit_top n i w h1
  · by_cases h2 : i < 3
    · exact cbit_low n i w h2
    · exact cbit_mid n i w ⟨by omega, by omega⟩
theorem cstep_calls (p q : Pt) (u : Five) (w : World) : Ret Tryd.prog 52 #[p.v, q.v, .agg (arr64 5 u)] w fun v w' => v = .tuple #[(stepP p).v, (stepQ p q u).v] ∧ Chg [] w w' := by
 refine Ret.enter Tryd.func52 rfl ?_
 simp only [Tryd.ntmps52, fe, Nat.reduceAdd, Nat.reduceSub]
 have hH := Hp.start [] w
 refine wp_seq_k ?_
 intro K1 hK1
 refine wrt [.x 0, .x 1, .x 2, .x 3, .x 4] ?_
 refine plan_box rfl rfl hH rfl ?_
 clear hH
 intro b2 w3 hH
 (try simp only [nf, nh, Value.cells, arrB_set] at hH ⊢)
 refine plan_box rfl rfl hH rfl ?_
 clear hH
 intro b4 w5 hH
 (try simp only [nf, nh, Value.cells, arrB_set] at hH ⊢)
 refine plan_box rfl rfl hH rfl ?_
 clear hH
 intro b6 w7 hH
 (try simp only [nf, nh, Value.cells, arrB_set] at hH ⊢)
 refine plan_alloc rfl rfl hH zc108 ?_
 clear hH
 intro b8 w9 hH
 (try simp only [nf, nh, Value.cells, arrB_set] at hH ⊢)
 refine plan_alloc rfl rfl hH zc108 ?_
 clear hH
 intro b10 w11 hH
 (try simp only [nf, nh, Value.cells, arrB_set] at hH ⊢)
 refine plan_nil hH ?_
 clear hH
 intro w12 hH
 refine hK1 _ _ ?_
 (try clear hK1 K1)
 refine wp_seq_k ?_
 intro K13 hK13
 refine wp_region_pend [12, 13] [] (Chg []) (by kernel_rfl) ?_
 refine Pend.plan (n := 4) Far.grown (by kernel_rfl) (fun _ _ _ _ _ h => by first | exact h | exact BP.panic _ _ _ _ _ h) [.p 0, .p 2, .p 5, .p 7, .q 1, .q 3, .q 4, .q 6, .q 8, .q 9] [] _ _ (by simp [AllR]) (by simp [effects]) (by simp [marked]) (by kernel_rfl) ?_
 refine pp rfl rfl (pr_fieldAddr 0 rfl Tryd.underlying108 rfl rfl sz104) ?_;simp only [nf]
 refine pp rfl rfl (pr_fieldAddr 5 rfl Tryd.underlying108 rfl rfl sz104) ?_;simp only [nf]
 refine pp rfl rfl (pr_fieldAddr 0 rfl Tryd.underlying108 rfl rfl sz104) ?_;simp only [nf]
 refine pp rfl rfl (pr_fieldAddr 5 rfl Tryd.underlying108 rfl rfl sz104) ?_;simp only [nf]
 refine pq rfl rfl (by first | exact qr_load5a rfl (hH.blk 0 rfl) Tryd.underlying104 rfl sz104 | exact qr_load5b rfl (hH.blk 0 rfl) Tryd.underlying104 rfl sz104) ?_;simp only [nf]
 refine pq rfl rfl (by first | exact qr_load5a rfl (hH.blk 0 rfl) Tryd.underlying104 rfl sz104 | exact qr_load5b rfl (hH.blk 0 rfl) Tryd.underlying104 rfl sz104) ?_;simp only [nf]
 refine pq rfl rfl (qr_call cf82 (fun w' hw => fadd_calls _ _ w') rfl) ?_;simp only [nf]
 refine pq rfl rfl (by first | exact qr_load5a rfl (hH.blk 0 rfl) Tryd.underlying104 rfl sz104 | exact qr_load5b rfl (hH.blk 0 rfl) Tryd.underlying104 rfl sz104) ?_;simp only [nf]
 refine pq rfl rfl (by first | exact qr_load5a rfl (hH.blk 0 rfl) Tryd.underlying104 rfl sz104 | exact qr_load5b rfl (hH.blk 0 rfl) Tryd.underlying104 rfl sz104) ?_;simp only [nf]
 refine pq rfl rfl (qr_call cf83 (fun w' hw => fsub_calls _ _ w') rfl) ?_;simp only [nf]
 refine plan_nil hH ?_
 clear hH
 intro w14 hH
 refine Pend.join2 (n := 2) Far.grown (by kernel_rfl) (fun _ _ _ _ _ h => by first | exact h | exact BP.panic _ _ _ _ _ h) 10 11 hH (by decide) (by kernel_rfl) (by kernel_rfl) (by kernel_rfl) (by kernel_rfl) (xs_alloc rfl rfl (fun _ => rfl) zc104) (xs_alloc rfl rfl (fun _ => rfl) zc104) ?_
 clear hH
 intro v15 es16 v17 es18 w19 hR20 hR21 hH
 obtain ⟨b22, rfl, rfl⟩ := hR20
 obtain ⟨b23, rfl, rfl⟩ := hR21
 (try simp only [nf] at hH ⊢)
 (try simp only [nf, nh, Value.cells, arrB_set] at hH ⊢)
 refine Pend.plan (n := 0) Far.grown (by kernel_rfl) (fun _ _ _ _ _ h => by first | exact h | exact BP.panic _ _ _ _ _ h) [.e 12, .e 13] [11, 10, 9, 8, 6, 4, 3, 1, 7, 5, 2, 0] _ _ (by simp [AllR]) (by simp [effects]) (by simp [marked]) (by kernel_rfl) ?_
 refine plan_storeW 5 rfl rfl hH rfl rfl rfl one_arr64 sz104 (by simp) (by simp) ?_
 clear hH
 intro w24 hH
 (try simp only [nf, nh, Value.cells, arrB_set] at hH ⊢)
 refine plan_storeW 6 rfl rfl hH rfl rfl rfl one_arr64 sz104 (by simp) (by simp) ?_
 clear hH
 intro w25 hH
 (try simp only [nf, nh, Value.cells, arrB_set] at hH ⊢)
 refine plan_nil hH ?_
 clear hH
 intro w26 hH
 refine Pend.done (by kernel_rfl) ?_
 intro w27 hw28
 replace hH := hH.call hw28; clear hw28
 refine hK13 _ _ ?_
 (try clear hK13 K13)
 refine wp_seq_k ?_
 intro K29 hK29
 refine wp_region_pend [16, 17] [] (Chg []) (by kernel_rfl) ?_
 refine Pend.plan (n := 4) Far.grown (by kernel_rfl) (fun _ _ _ _ _ h => by first | exact h | exact BP.panic _ _ _ _ _ h) [.p 0, .p 2, .p 7, .p 9, .q 1, .q 3, .q 4, .q 5, .q 6, .q 8, .q 10, .q 11, .q 12, .q 13] [] _ _ (by simp [AllR]) (by simp [effects]) (by simp [marked]) (by kernel_rfl) ?_
 refine pp rfl rfl (pr_fieldAddr 0 rfl Tryd.underlying108 rfl rfl sz104) ?_;simp only [nf]
 refine pp rfl rfl (pr_fieldAddr 5 rfl Tryd.underlying108 rfl rfl sz104) ?_;simp only [nf]
 refine pp rfl rfl (pr_fieldAddr 0 rfl Tryd.underlying108 rfl rfl sz104) ?_;simp only [nf]
 refine pp rfl rfl (pr_fieldAddr 5 rfl Tryd.underlying108 rfl rfl sz104) ?_;simp only [nf]
 refine pq rfl rfl (by first | exact qr_load5a rfl (hH.blk 1 rfl) Tryd.underlying104 rfl sz104 | exact qr_load5b rfl (hH.blk 1 rfl) Tryd.underlying104 rfl sz104) ?_;simp only [nf]
 refine pq rfl rfl (by first | exact qr_load5a rfl (hH.blk 1 rfl) Tryd.underlying104 rfl sz104 | exact qr_load5b rfl (hH.blk 1 rfl) Tryd.underlying104 rfl sz104) ?_;simp only [nf]
 refine pq rfl rfl (qr_call cf82 (fun w' hw => fadd_calls _ _ w') rfl) ?_;simp only [nf]
 refine pq rfl rfl (qr_loadW rfl (hH.blk 6 rfl) Tryd.underlying104 rfl sz104 (by simp)) ?_;simp only [nf]
 refine pq rfl rfl (qr_call cf53 (fun w' hw => fmul_calls _ _ w') rfl) ?_;simp only [nf]
 refine pq rfl rfl (by first | exact qr_load5a rfl (hH.blk 1 rfl) Tryd.underlying104 rfl sz104 | exact qr_load5b rfl (hH.blk 1 rfl) Tryd.underlying104 rfl sz104) ?_;simp only [nf]
 refine pq rfl rfl (by first | exact qr_load5a rfl (hH.blk 1 rfl) Tryd.underlying104 rfl sz104 | exact qr_load5b rfl (hH.blk 1 rfl) Tryd.underlying104 rfl sz104) ?_;simp only [nf]
 refine pq rfl rfl (qr_call cf83 (fun w' hw => fsub_calls _ _ w') rfl) ?_;simp only [nf]
 refine pq rfl rfl (qr_loadW rfl (hH.blk 5 rfl) Tryd.underlying104 rfl sz104 (by simp)) ?_;simp only [nf]
 refine pq rfl rfl (qr_call cf53 (fun w' hw => fmul_calls _ _ w') rfl) ?_;simp only [nf]
 refine plan_nil hH ?_
 clear hH
 intro w30 hH
 refine Pend.join2 (n := 2) Far.grown (by kernel_rfl) (fun _ _ _ _ _ h => by first | exact h | exact BP.panic _ _ _ _ _ h) 14 15 hH (by decide) (by kernel_rfl) (by kernel_rfl) (by kernel_rfl) (by kernel_rfl) (xs_alloc rfl rfl (fun _ => rfl) zc104) (xs_alloc rfl rfl (fun _ => rfl) zc104) ?_
 clear hH
 intro v31 es32 v33 es34 w35 hR36 hR37 hH
 obtain ⟨b38, rfl, rfl⟩ := hR36
 obtain ⟨b39, rfl, rfl⟩ := hR37
 (try simp only [nf] at hH ⊢)
 (try simp only [nf, nh, Value.cells, arrB_set] at hH ⊢)
 refine Pend.plan (n := 0) Far.grown (by kernel_rfl) (fun _ _ _ _ _ h => by first | exact h | exact BP.panic _ _ _ _ _ h) [.e 16, .e 17] [15, 14, 13, 12, 11, 10, 8, 6, 5, 4, 3, 1, 9, 7, 2, 0] _ _ (by simp [AllR]) (by simp [effects]) (by simp [marked]) (by kernel_rfl) ?_
 refine plan_storeW 7 rfl rfl hH rfl rfl rfl one_arr64 sz104 (by simp) (by simp) ?_
 clear hH
 intro w40 hH
 (try simp only [nf, nh, Value.cells, arrB_set] at hH ⊢)
 refine plan_storeW 8 rfl rfl hH rfl rfl rfl one_arr64 sz104 (by simp) (by simp) ?_
 clear hH
 intro w41 hH
 (try simp only [nf, nh, Value.cells, arrB_set] at hH ⊢)
 refine plan_nil hH ?_
 clear hH
 intro w42 hH
 refine Pend.done (by kernel_rfl) ?_
 intro w43 hw44
 replace hH := hH.call hw44; clear hw44
 refine hK29 _ _ ?_
 (try clear hK29 K29)
 refine wp_seq_k ?_
 intro K45 hK45
 refine wrp [.q 0, .q 1, .q 2, .q 3, .q 4, .q 5, .e 6, .e 7] ?_
 refine pq rfl rfl (qr_loadW rfl (hH.blk 5 rfl) Tryd.underlying104 rfl sz104 (by simp)) ?_;simp only [nf]
 refine pq rfl rfl (qr_loadW rfl (hH.blk 5 rfl) Tryd.underlying104 rfl sz104 (by simp)) ?_;simp only [nf]
 refine pq rfl rfl (qr_call cf53 (fun w' hw => fmul_calls _ _ w') rfl) ?_;simp only [nf]
 refine pq rfl rfl (qr_loadW rfl (hH.blk 6 rfl) Tryd.underlying104 rfl sz104 (by simp)) ?_;simp only [nf]
 refine pq rfl rfl (qr_loadW rfl (hH.blk 6 rfl) Tryd.underlying104 rfl sz104 (by simp)) ?_;simp only [nf]
 refine pq rfl rfl (qr_call cf53 (fun w' hw => fmul_calls _ _ w') rfl) ?_;simp only [nf]
 refine plan_storeW 5 rfl rfl hH rfl rfl rfl one_arr64 sz104 (by simp) (by simp) ?_
 clear hH
 intro w46 hH
 (try simp only [nf, nh, Value.cells, arrB_set] at hH ⊢)
 refine plan_storeW 6 rfl rfl hH rfl rfl rfl one_arr64 sz104 (by simp) (by simp) ?_
 clear hH
 intro w47 hH
 (try simp only [nf, nh, Value.cells, arrB_set] at hH ⊢)
 refine plan_nil hH ?_
 clear hH
 intro w48 hH
 refine hK45 _ _ ?_
 (try clear hK45 K45)
 refine wp_seq_k ?_
 intro K49 hK49
 refine wrt [.q 0, .q 1, .q 2, .x 3, .e 4] ?_
 refine pq rfl rfl (qr_loadW rfl (hH.blk 5 rfl) Tryd.underlying104 rfl sz104 (by simp)) ?_;simp only [nf]
 refine pq rfl rfl (qr_loadW rfl (hH.blk 6 rfl) Tryd.underlying104 rfl sz104 (by simp)) ?_;simp only [nf]
 refine pq rfl rfl (qr_call cf83 (fun w' hw => fsub_calls _ _ w') rfl) ?_;simp only [nf]
 refine plan_alloc rfl rfl hH zc104 ?_
 clear hH
 intro b50 w51 hH
 (try simp only [nf, nh, Value.cells, arrB_set] at hH ⊢)
 refine plan_storeW 9 rfl rfl hH rfl rfl rfl one_arr64 sz104 (by simp) (by simp) ?_
 clear hH
 intro w52 hH
 (try simp only [nf, nh, Value.cells, arrB_set] at hH ⊢)
 refine plan_nil hH ?_
 clear hH
 intro w53 hH
 refine hK49 _ _ ?_
 (try clear hK49 K49)
 refine wp_seq_k ?_
 intro K54 hK54
 refine wp_region_pend [8, 9] [] (Chg []) (by kernel_rfl) ?_
 refine Pend.plan (n := 4) Far.grown (by kernel_rfl) (fun _ _ _ _ _ h => by first | exact h | exact BP.panic _ _ _ _ _ h) [.q 0, .q 1, .q 2, .q 3, .q 4, .q 5] [] _ _ (by simp [AllR]) (by simp [effects]) (by simp [marked]) (by kernel_rfl) ?_
 refine pq rfl rfl (qr_loadW rfl (hH.blk 7 rfl) Tryd.underlying104 rfl sz104 (by simp)) ?_;simp only [nf]
 refine pq rfl rfl (qr_loadW rfl (hH.blk 8 rfl) Tryd.underlying104 rfl sz104 (by simp)) ?_;simp only [nf]
 refine pq rfl rfl (qr_call cf82 (fun w' hw => fadd_calls _ _ w') rfl) ?_;simp only [nf]
 refine pq rfl rfl (qr_loadW rfl (hH.blk 7 rfl) Tryd.underlying104 rfl sz104 (by simp)) ?_;simp only [nf]
 refine pq rfl rfl (qr_loadW rfl (hH.blk 8 rfl) Tryd.underlying104 rfl sz104 (by simp)) ?_;simp only [nf]
 refine pq rfl rfl (qr_call cf83 (fun w' hw => fsub_calls _ _ w') rfl) ?_;simp only [nf]
 refine plan_nil hH ?_
 clear hH
 intro w55 hH
 refine Pend.join2 (n := 2) Far.grown (by kernel_rfl) (fun _ _ _ _ _ h => by first | exact h | exact BP.panic _ _ _ _ _ h) 6 7 hH (by decide) (by kernel_rfl) (by kernel_rfl) (by kernel_rfl) (by kernel_rfl) (xs_alloc rfl rfl (fun _ => rfl) zc104) (xs_alloc rfl rfl (fun _ => rfl) zc104) ?_
 clear hH
 intro v56 es57 v58 es59 w60 hR61 hR62 hH
 obtain ⟨b63, rfl, rfl⟩ := hR61
 obtain ⟨b64, rfl, rfl⟩ := hR62
 (try simp only [nf] at hH ⊢)
 (try simp only [nf, nh, Value.cells, arrB_set] at hH ⊢)
 refine Pend.plan (n := 0) Far.grown (by kernel_rfl) (fun _ _ _ _ _ h => by first | exact h | exact BP.panic _ _ _ _ _ h) [.e 8, .e 9] [7, 6, 5, 4, 3, 2, 1, 0] _ _ (by simp [AllR]) (by simp [effects]) (by simp [marked]) (by kernel_rfl) ?_
 refine plan_storeW 10 rfl rfl hH rfl rfl rfl one_arr64 sz104 (by simp) (by simp) ?_
 clear hH
 intro w65 hH
 (try simp only [nf, nh, Value.cells, arrB_set] at hH ⊢)
 refine plan_storeW 11 rfl rfl hH rfl rfl rfl one_arr64 sz104 (by simp) (by simp) ?_
 clear hH
 intro w66 hH
 (try simp only [nf, nh, Value.cells, arrB_set] at hH ⊢)
 refine plan_nil hH ?_
 clear hH
 intro w67 hH
 refine Pend.done (by kernel_rfl) ?_
 intro w68 hw69
 replace hH := hH.call hw69; clear hw69
 refine hK54 _ _ ?_
 (try clear hK54 K54)
 refine wp_seq_k ?_
 intro K70 hK70
 refine wrt [.x 0, .q 1, .x 2, .e 3] ?_
 refine plan_buildSlice rfl rfl hH Tryd.underlying29 (by rfl) (bs3 65 219 1) ?_
 clear hH
 intro b71 w72 hH
 (try simp only [nf, nh, Value.cells, arrB_set] at hH ⊢)
 refine pq rfl rfl (qr_call cf49 (fun w' hw => csmall_calls _ _ w' ((OwnC.sl hH 12 rfl (OwnC.of_bytes rfl)).chg hw)) rfl) ?_;simp only [nf]
 refine plan_alloc rfl rfl hH zc104 ?_
 clear hH
 intro b73 w74 hH
 (try simp only [nf, nh, Value.cells, arrB_set] at hH ⊢)
 refine plan_storeW 13 rfl rfl hH rfl rfl rfl one_arr64 sz104 (by simp) (by simp) ?_
 clear hH
 intro w75 hH
 (try simp only [nf, nh, Value.cells, arrB_set] at hH ⊢)
 refine plan_nil hH ?_
 clear hH
 intro w76 hH
 refine hK70 _ _ ?_
 (try clear hK70 K70)
 refine wp_seq_k ?_
 intro K77 hK77
 refine wrp [.q 0, .q 1, .q 2, .q 3, .q 4, .q 5, .q 6, .q 7, .q 8, .q 9, .p 10, .q 11, .q 12, .q 13, .q 14, .q 15, .q 16, .q 17, .q 18, .p 19, .e 20, .e 21] ?_
 refine pq rfl rfl (qr_loadW rfl (hH.blk 5 rfl) Tryd.underlying104 rfl sz104 (by simp)) ?_;simp only [nf]
 refine pq rfl rfl (qr_loadW rfl (hH.blk 6 rfl) Tryd.underlying104 rfl sz104 (by simp)) ?_;simp only [nf]
 refine pq rfl rfl (qr_call cf53 (fun w' hw => fmul_calls _ _ w') rfl) ?_;simp only [nf]
 refine pq rfl rfl (qr_loadW rfl (hH.blk 9 rfl) Tryd.underlying104 rfl sz104 (by simp)) ?_;simp only [nf]
 refine pq rfl rfl (qr_loadW rfl (hH.blk 5 rfl) Tryd.underlying104 rfl sz104 (by simp)) ?_;simp only [nf]
 refine pq rfl rfl (qr_loadW rfl (hH.blk 13 rfl) Tryd.underlying104 rfl sz104 (by simp)) ?_;simp only [nf]
 refine pq rfl rfl (qr_loadW rfl (hH.blk 9 rfl) Tryd.underlying104 rfl sz104 (by simp)) ?_;simp only [nf]
 refine pq rfl rfl (qr_call cf53 (fun w' hw => fmul_calls _ _ w') rfl) ?_;simp only [nf]
 refine pq rfl rfl (qr_call cf82 (fun w' hw => fadd_calls _ _ w') rfl) ?_;simp only [nf]
 refine pq rfl rfl (qr_call cf53 (fun w' hw => fmul_calls _ _ w') rfl) ?_;simp only [nf]
 refine pp rfl rfl (pr_build (by rfl) (bd108_0_1 _ _)) ?_;simp only [nf]
 refine pq rfl rfl (qr_loadW rfl (hH.blk 10 rfl) Tryd.underlying104 rfl sz104 (by simp)) ?_;simp only [nf]
 refine pq rfl rfl (qr_loadW rfl (hH.blk 10 rfl) Tryd.underlying104 rfl sz104 (by simp)) ?_;simp only [nf]
 refine pq rfl rfl (qr_call cf53 (fun w' hw => fmul_calls _ _ w') rfl) ?_;simp only [nf]
 refine pq rfl rfl (qr_loadW rfl (hH.blk 2 rfl) Tryd.underlying104 rfl sz104 (by simp)) ?_;simp only [nf]
 refine pq rfl rfl (qr_loadW rfl (hH.blk 11 rfl) Tryd.underlying104 rfl sz104 (by simp)) ?_;simp only [nf]
 refine pq rfl rfl (qr_loadW rfl (hH.blk 11 rfl) Tryd.underlying104 rfl sz104 (by simp)) ?_;simp only [nf]
 refine pq rfl rfl (qr_call cf53 (fun w' hw => fmul_calls _ _ w') rfl) ?_;simp only [nf]
 refine pq rfl rfl (qr_call cf53 (fun w' hw => fmul_calls _ _ w') rfl) ?_;simp only [nf]
 refine pp rfl rfl (pr_build (by rfl) (bd108_0_1 _ _)) ?_;simp only [nf]
 refine plan_storeW 3 rfl rfl hH rfl rfl rfl one_arr64 sz108 (by simp) (by simp) ?_
 clear hH
 intro w78 hH
 (try simp only [nf, nh, Value.cells, arrB_set] at hH ⊢)
 refine plan_storeW 4 rfl rfl hH rfl rfl rfl one_arr64 sz108 (by simp) (by simp) ?_
 clear hH
 intro w79 hH
 (try simp only [nf, nh, Value.cells, arrB_set] at hH ⊢)
 refine plan_nil hH ?_
 clear hH
 intro w80 hH
 refine hK77 _ _ ?_
 (try clear hK77 K77)
 refine wp_ret ?_
 (try simp only [Exit.then, Exit.inBlock, ↓reduceIte, Nat.reduceEqDiff])
 refine BP.retcc rfl rfl rfl (hH.blk 3 rfl) (hH.blk 4 rfl) Tryd.underlying108 Tryd.underlying108 rfl rfl sz108 sz108 (by simp) (by simp) ?_
 exact ⟨rfl, hH.chg⟩
theorem timL_1 (n : Nat → UInt8) (u : Five) (k : Nat) : (timL n u (k + 1)).1 = stepP ⟨if bitN n (254 - k) != (timL n u k).2.2 then (timL n u k).2.1.x else (timL n u k).1.x, if bitN n (254 - k) != (timL n u k).2.2 then (timL n u k).2.1.z else (timL n u k).1.z⟩ := rfl
theorem timL_2 (n : Nat → UInt8) (u : Five) (k : Nat) : (timL n u (k + 1)).2.1 = stepQ ⟨if bitN n (254 - k) != (timL n u k).2.2 then (timL n u k).2.1.x else (timL n u k).1.x, if bitN n (254 - k) != (timL n u k).2.2 then (timL n u k).2.1.z else (timL n u k).1.z⟩ ⟨if bitN n (254 - k) != (timL n u k).2.2 then (timL n u k).1.x else (timL n u k).2.1.x, if bitN n (254 - k) != (timL n u k).2.2 then (timL n u k).1.z else (timL n u k).2.1.z⟩ u := rfl
theorem timL_3 (n : Nat → UInt8) (u : Five) (k : Nat) : (timL n u (k + 1)).2.2 = bitN n (254 - k) := rfl
theorem ctimes_calls (n a : Nat → UInt8) (w : World) : Ret Tryd.prog 20 #[.agg (arr8 32 n), .agg (arr8 32 a)] w fun v w' => v = .agg (arr8 32 (fTimes n a)) ∧ Chg [] w w' := by
 refine Ret.enter Tryd.func20 rfl ?_
 simp only [Tryd.ntmps20, fe, Nat.reduceAdd, Nat.reduceSub]
 have hH := Hp.start [] w
 refine wp_seq_k ?_
 intro K1 hK1
 refine wrt [.x 0, .x 1, .x 2] ?_
 refine plan_box rfl rfl hH rfl ?_
 clear hH
 intro b2 w3 hH
 (try simp only [nf, nh, Value.cells, arrB_set, spl5a, spl5b] at hH ⊢)
 refine plan_box rfl rfl hH rfl ?_
 clear hH
 intro b4 w5 hH
 (try simp only [nf, nh, Value.cells, arrB_set, spl5a, spl5b] at hH ⊢)
 refine plan_alloc rfl rfl hH zc22 ?_
 clear hH
 intro b6 w7 hH
 (try simp only [nf, nh, Value.cells, arrB_set, spl5a, spl5b] at hH ⊢)
 refine plan_nil hH ?_
 clear hH
 intro w8 hH
 refine hK1 _ _ ?_
 (try clear hK1 K1)
 refine wp_seq_k ?_
 intro K9 hK9
 refine wrt [.q 0, .q 1, .x 2, .e 3] ?_
 refine pq rfl rfl (qr_loadW rfl (hH.blk 1 rfl) Tryd.underlying22 rfl sz22 (by simp)) ?_;simp only [nf]
 refine pq rfl rfl (qr_call cf48 (fun w' hw => fof_calls _ w') rfl) ?_;simp only [nf]
 refine plan_alloc rfl rfl hH zc104 ?_
 clear hH
 intro b10 w11 hH
 (try simp only [nf, nh, Value.cells, arrB_set, spl5a, spl5b] at hH ⊢)
 refine plan_storeW 3 rfl rfl hH rfl rfl rfl one_arr64 sz104 (by simp) (by simp) ?_
 clear hH
 intro w12 hH
 (try simp only [nf, nh, Value.cells, arrB_set, spl5a, spl5b] at hH ⊢)
 refine plan_nil hH ?_
 clear hH
 intro w13 hH
 refine hK9 _ _ ?_
 (try clear hK9 K9)
 refine wp_seq_k ?_
 intro K14 hK14
 revert hH
 show Imp _ _
 apply rest4
 ·
  intro hrest15 hH
  obtain ⟨N16, hNw17, hNb18⟩ := hH.sizeN
  refine wp_region_pend [] [10, 11] (ChgN N16) (by kernel_rfl) ?_
  refine Pend.plan (n := 11) (Far.chgN N16) (by kernel_rfl) (fun _ _ _ _ _ h => by first | exact h | exact BP.panic _ _ _ _ _ h) [.r 4 (ChgN N16)] [] _ _ (by simp [AllR]) (by simp [effects]) (by simp [marked]) (by kernel_rfl) ?_
  refine plan_r rfl rfl (rr_loadNW (hH.blk 3 rfl) (hNb18 3 _ _ _ rfl) rfl Tryd.underlying104 rfl sz104 (by simp)) ?_
  (try simp only [nf])
  refine plan_nilN hNw17 hH ?_
  clear hH
  intro w19 hNw20 hH
  refine Pend.fork4 (Far.chgN N16) (n := 10) (.x 0) (.x 5) (.x 8) (.x 9) (by kernel_rfl) (by kernel_rfl) (by kernel_rfl) (by kernel_rfl) (by simp [AllR]) (by simp [AllR]) (by simp [AllR]) (by simp [AllR]) (by kernel_rfl) (by kernel_rfl) ?_ ?_ ?_ ?_
  ·
   refine plan_buildSliceN rfl rfl hNw20 hH Tryd.underlying29 (by rfl) (bs1 1) ?_
   clear hH
   intro b21 w22 hNw23 hNo24 hH
   (try simp only [nf, nh, Value.cells, arrB_set, spl5a, spl5b] at hH ⊢)
   refine plan_nilN hNw23 hH ?_
   clear hH
   intro w25 hNw26 hH
   refine Pend.plan (n := 7) (Far.chgN N16) (by kernel_rfl) (fun _ _ _ _ _ h => by first | exact h | exact BP.panic _ _ _ _ _ h) [.q 1, .q 2, .p 3] [0, 4] _ _ (by simp [AllR]) (by simp [effects]) (by simp [marked]) (by kernel_rfl) ?_
   refine pq rfl rfl (qr_call cf49 (fun w' hw => csmall_calls _ _ w' ((OwnC.sl hH 4 rfl (OwnC.of_bytes rfl)).chg hw)) rfl) ?_;simp only [nf]
   refine pq rfl rfl (qr_call cf49 (fun w' hw => csmall_calls _ _ w' (Sl.nil.chg hw)) rfl) ?_;simp only [nf]
   refine pp rfl rfl (pr_build (by rfl) (bd108_0_1 _ _)) ?_;simp only [nf]
   refine plan_nilN hNw26 hH ?_
   clear hH
   intro w27 hNw28 hH
   refine Pend.fork3 (Far.chgN N16) (n := 6) (.x 5) (.x 8) (.x 9) (by kernel_rfl) (by kernel_rfl) (by kernel_rfl) (by simp [AllR]) (by simp [AllR]) (by simp [AllR]) (by kernel_rfl) (by kernel_rfl) ?_ ?_ ?_
   ·
    refine plan_buildSliceN rfl rfl hNw28 hH Tryd.underlying29 (by rfl) (bs1 1) ?_
    clear hH
    intro b29 w30 hNw31 hNo32 hH
    (try simp only [nf, nh, Value.cells, arrB_set, spl5a, spl5b] at hH ⊢)
    refine plan_nilN hNw31 hH ?_
    clear hH
    intro w33 hNw34 hH
    refine Pend.plan (n := 4) (Far.chgN N16) (by kernel_rfl) (fun _ _ _ _ _ h => by first | exact h | exact BP.panic _ _ _ _ _ h) [.q 6, .p 7] [5, 3, 2, 1, 0, 4] _ _ (by simp [AllR]) (by simp [effects]) (by simp [marked]) (by kernel_rfl) ?_
    refine pq rfl rfl (qr_call cf49 (fun w' hw => csmall_calls _ _ w' ((OwnC.sl hH 5 rfl (OwnC.of_bytes rfl)).chg hw)) rfl) ?_;simp only [nf]
    refine pp rfl rfl (pr_build (by rfl) (bd108_0_1 _ _)) ?_;simp only [nf]
    refine plan_nilN hNw34 hH ?_
    clear hH
    intro w35 hNw36 hH
    refine Pend.fork2 (Far.chgN N16) (n := 3) (.x 8) (.x 9) (by kernel_rfl) (by kernel_rfl) (by simp [AllR]) (by simp [AllR]) (by kernel_rfl) (by kernel_rfl) ?_ ?_
    ·
     refine plan_allocN rfl rfl hNw36 hH zc108 ?_
     clear hH
     intro b37 w38 hNw39 hNo40 hH
     (try simp only [nf, nh, Value.cells, arrB_set, spl5a, spl5b] at hH ⊢)
     refine plan_nilN hNw39 hH ?_
     clear hH
     intro w41 hNw42 hH
     refine Pend.plan (n := 0) (Far.chgN N16) (by kernel_rfl) (fun _ _ _ _ _ h => by first | exact h | exact BP.panic _ _ _ _ _ h) [.x 9, .s 10 (ChgN N16), .s 11 (ChgN N16)] [8, 7, 6, 5, 3, 2, 1, 0, 4] _ _ (by simp [AllR]) (by simp [effects]) (by simp [marked]) (by kernel_rfl) ?_
     refine plan_allocN rfl rfl hNw42 hH zc108 ?_
     clear hH
     intro b43 w44 hNw45 hNo46 hH
     (try simp only [nf, nh, Value.cells, arrB_set, spl5a, spl5b] at hH ⊢)
     refine plan_storeWN 6 rfl rfl hNw45 hH rfl rfl rfl one_arr64 sz108 (by simp) (by simp) hNo40 ?_
     clear hH
     intro w47 hNw48 hH
     (try simp only [nf, nh, Value.cells, arrB_set, spl5a, spl5b] at hH ⊢)
     refine plan_storeWN 7 rfl rfl hNw48 hH rfl rfl rfl one_arr64 sz108 (by simp) (by simp) hNo46 ?_
     clear hH
     intro w49 hNw50 hH
     (try simp only [nf, nh, Value.cells, arrB_set, spl5a, spl5b] at hH ⊢)
     refine plan_nilN hNw50 hH ?_
     clear hH
     intro w51 hNw52 hH
     refine Pend.done (by kernel_rfl) ?_
     intro w53 hw54
     replace hH := hH.call hw54; clear hw54
     have hH2 := hH.idx [0, 1, 2, 3, 4, 5, 6, 7] 8 rfl (by decide) rfl
     simp only [List.filterMap_cons, List.filterMap_nil, List.getElem?_cons_zero, List.getElem?_cons_succ] at hH2
     exact hrest15 b21 b29 b37 b43 w53 hH2
    ·
     refine plan_allocN rfl rfl hNw36 hH zc108 ?_
     clear hH
     intro b55 w56 hNw57 hNo58 hH
     (try simp only [nf, nh, Value.cells, arrB_set, spl5a, spl5b] at hH ⊢)
     refine plan_nilN hNw57 hH ?_
     clear hH
     intro w59 hNw60 hH
     refine Pend.plan (n := 0) (Far.chgN N16) (by kernel_rfl) (fun _ _ _ _ _ h => by first | exact h | exact BP.panic _ _ _ _ _ h) [.x 8, .s 10 (ChgN N16), .s 11 (ChgN N16)] [9, 7, 6, 5, 3, 2, 1, 0, 4] _ _ (by simp [AllR]) (by simp [effects]) (by simp [marked]) (by kernel_rfl) ?_
     refine plan_allocN rfl rfl hNw60 hH zc108 ?_
     clear hH
     intro b61 w62 hNw63 hNo64 hH
     (try simp only [nf, nh, Value.cells, arrB_set, spl5a, spl5b] at hH ⊢)
     refine plan_storeWN 7 rfl rfl hNw63 hH rfl rfl rfl one_arr64 sz108 (by simp) (by simp) hNo64 ?_
     clear hH
     intro w65 hNw66 hH
     (try simp only [nf, nh, Value.cells, arrB_set, spl5a, spl5b] at hH ⊢)
     refine plan_storeWN 6 rfl rfl hNw66 hH rfl rfl rfl one_arr64 sz108 (by simp) (by simp) hNo58 ?_
     clear hH
     intro w67 hNw68 hH
     (try simp only [nf, nh, Value.cells, arrB_set, spl5a, spl5b] at hH ⊢)
     refine plan_nilN hNw68 hH ?_
     clear hH
     intro w69 hNw70 hH
     refine Pend.done (by kernel_rfl) ?_
     intro w71 hw72
     replace hH := hH.call hw72; clear hw72
     have hH2 := hH.idx [0, 1, 2, 3, 4, 5, 7, 6] 8 rfl (by decide) rfl
     simp only [List.filterMap_cons, List.filterMap_nil, List.getElem?_cons_zero, List.getElem?_cons_succ] at hH2
     exact hrest15 b21 b29 b61 b55 w71 hH2
   ·
    refine plan_allocN rfl rfl hNw28 hH zc108 ?_
    clear hH
    intro b73 w74 hNw75 hNo76 hH
    (try simp only [nf, nh, Value.cells, arrB_set, spl5a, spl5b] at hH ⊢)
    refine plan_nilN hNw75 hH ?_
    clear hH
    intro w77 hNw78 hH
    refine Pend.fork2 (Far.chgN N16) (n := 5) (.x 5) (.x 9) (by kernel_rfl) (by kernel_rfl) (by simp [AllR]) (by simp [AllR]) (by kernel_rfl) (by kernel_rfl) ?_ ?_
    ·
     refine plan_buildSliceN rfl rfl hNw78 hH Tryd.underlying29 (by rfl) (bs1 1) ?_
     clear hH
     intro b79 w80 hNw81 hNo82 hH
     (try simp only [nf, nh, Value.cells, arrB_set, spl5a, spl5b] at hH ⊢)
     refine plan_nilN hNw81 hH ?_
     clear hH
     intro w83 hNw84 hH
     refine Pend.plan (n := 0) (Far.chgN N16) (by kernel_rfl) (fun _ _ _ _ _ h => by first | exact h | exact BP.panic _ _ _ _ _ h) [.q 6, .p 7, .x 9, .s 10 (ChgN N16), .s 11 (ChgN N16)] [5, 8, 3, 2, 1, 0, 4] _ _ (by simp [AllR]) (by simp [effects]) (by simp [marked]) (by kernel_rfl) ?_
     refine pq rfl rfl (qr_call cf49 (fun w' hw => csmall_calls _ _ w' ((OwnC.sl hH 6 rfl (OwnC.of_bytes rfl)).chg hw)) rfl) ?_;simp only [nf]
     refine pp rfl rfl (pr_build (by rfl) (bd108_0_1 _ _)) ?_;simp only [nf]
     refine plan_allocN rfl rfl hNw84 hH zc108 ?_
     clear hH
     intro b85 w86 hNw87 hNo88 hH
     (try simp only [nf, nh, Value.cells, arrB_set, spl5a, spl5b] at hH ⊢)
     refine plan_storeWN 5 rfl rfl hNw87 hH rfl rfl rfl one_arr64 sz108 (by simp) (by simp) hNo76 ?_
     clear hH
     intro w89 hNw90 hH
     (try simp only [nf, nh, Value.cells, arrB_set, spl5a, spl5b] at hH ⊢)
     refine plan_storeWN 7 rfl rfl hNw90 hH rfl rfl rfl one_arr64 sz108 (by simp) (by simp) hNo88 ?_
     clear hH
     intro w91 hNw92 hH
     (try simp only [nf, nh, Value.cells, arrB_set, spl5a, spl5b] at hH ⊢)
     refine plan_nilN hNw92 hH ?_
     clear hH
     intro w93 hNw94 hH
     refine Pend.done (by kernel_rfl) ?_
     intro w95 hw96
     replace hH := hH.call hw96; clear hw96
     have hH2 := hH.idx [0, 1, 2, 3, 4, 6, 5, 7] 8 rfl (by decide) rfl
     simp only [List.filterMap_cons, List.filterMap_nil, List.getElem?_cons_zero, List.getElem?_cons_succ] at hH2
     exact hrest15 b21 b79 b73 b85 w95 hH2
    ·
     refine plan_allocN rfl rfl hNw78 hH zc108 ?_
     clear hH
     intro b97 w98 hNw99 hNo100 hH
     (try simp only [nf, nh, Value.cells, arrB_set, spl5a, spl5b] at hH ⊢)
     refine plan_nilN hNw99 hH ?_
     clear hH
     intro w101 hNw102 hH
     refine Pend.plan (n := 0) (Far.chgN N16) (by kernel_rfl) (fun _ _ _ _ _ h => by first | exact h | exact BP.panic _ _ _ _ _ h) [.x 5, .q 6, .p 7, .s 10 (ChgN N16), .s 11 (ChgN N16)] [9, 8, 3, 2, 1, 0, 4] _ _ (by simp [AllR]) (by simp [effects]) (by simp [marked]) (by kernel_rfl) ?_
     refine plan_buildSliceN rfl rfl hNw102 hH Tryd.underlying29 (by rfl) (bs1 1) ?_
     clear hH
     intro b103 w104 hNw105 hNo106 hH
     (try simp only [nf, nh, Value.cells, arrB_set, spl5a, spl5b] at hH ⊢)
     refine pq rfl rfl (qr_call cf49 (fun w' hw => csmall_calls _ _ w' ((OwnC.sl hH 7 rfl (OwnC.of_bytes rfl)).chg hw)) rfl) ?_;simp only [nf]
     refine pp rfl rfl (pr_build (by rfl) (bd108_0_1 _ _)) ?_;simp only [nf]
     refine plan_storeWN 5 rfl rfl hNw105 hH rfl rfl rfl one_arr64 sz108 (by simp) (by simp) hNo76 ?_
     clear hH
     intro w107 hNw108 hH
     (try simp only [nf, nh, Value.cells, arrB_set, spl5a, spl5b] at hH ⊢)
     refine plan_storeWN 6 rfl rfl hNw108 hH rfl rfl rfl one_arr64 sz108 (by simp) (by simp) hNo100 ?_
     clear hH
     intro w109 hNw110 hH
     (try simp only [nf, nh, Value.cells, arrB_set, spl5a, spl5b] at hH ⊢)
     refine plan_nilN hNw110 hH ?_
     clear hH
     intro w111 hNw112 hH
     refine Pend.done (by kernel_rfl) ?_
     intro w113 hw114
     replace hH := hH.call hw114; clear hw114
     have hH2 := hH.idx [0, 1, 2, 3, 4, 7, 5, 6] 8 rfl (by decide) rfl
     simp only [List.filterMap_cons, List.filterMap_nil, List.getElem?_cons_zero, List.getElem?_cons_succ] at hH2
     exact hrest15 b21 b103 b73 b97 w113 hH2
   ·
    refine plan_allocN rfl rfl hNw28 hH zc108 ?_
    clear hH
    intro b115 w116 hNw117 hNo118 hH
    (try simp only [nf, nh, Value.cells, arrB_set, spl5a, spl5b] at hH ⊢)
    refine plan_nilN hNw117 hH ?_
    clear hH
    intro w119 hNw120 hH
    refine Pend.fork2 (Far.chgN N16) (n := 5) (.x 5) (.x 8) (by kernel_rfl) (by kernel_rfl) (by simp [AllR]) (by simp [AllR]) (by kernel_rfl) (by kernel_rfl) ?_ ?_
    ·
     refine plan_buildSliceN rfl rfl hNw120 hH Tryd.underlying29 (by rfl) (bs1 1) ?_
     clear hH
     intro b121 w122 hNw123 hNo124 hH
     (try simp only [nf, nh, Value.cells, arrB_set, spl5a, spl5b] at hH ⊢)
     refine plan_nilN hNw123 hH ?_
     clear hH
     intro w125 hNw126 hH
     refine Pend.plan (n := 0) (Far.chgN N16) (by kernel_rfl) (fun _ _ _ _ _ h => by first | exact h | exact BP.panic _ _ _ _ _ h) [.q 6, .p 7, .x 8, .s 10 (ChgN N16), .s 11 (ChgN N16)] [5, 9, 3, 2, 1, 0, 4] _ _ (by simp [AllR]) (by simp [effects]) (by simp [marked]) (by kernel_rfl) ?_
     refine pq rfl rfl (qr_call cf49 (fun w' hw => csmall_calls _ _ w' ((OwnC.sl hH 6 rfl (OwnC.of_bytes rfl)).chg hw)) rfl) ?_;simp only [nf]
     refine pp rfl rfl (pr_build (by rfl) (bd108_0_1 _ _)) ?_;simp only [nf]
     refine plan_allocN rfl rfl hNw126 hH zc108 ?_
     clear hH
     intro b127 w128 hNw129 hNo130 hH
     (try simp only [nf, nh, Value.cells, arrB_set, spl5a, spl5b] at hH ⊢)
     refine plan_storeWN 7 rfl rfl hNw129 hH rfl rfl rfl one_arr64 sz108 (by simp) (by simp) hNo130 ?_
     clear hH
     intro w131 hNw132 hH
     (try simp only [nf, nh, Value.cells, arrB_set, spl5a, spl5b] at hH ⊢)
     refine plan_storeWN 5 rfl rfl hNw132 hH rfl rfl rfl one_arr64 sz108 (by simp) (by simp) hNo118 ?_
     clear hH
     intro w133 hNw134 hH
     (try simp only [nf, nh, Value.cells, arrB_set, spl5a, spl5b] at hH ⊢)
     refine plan_nilN hNw134 hH ?_
     clear hH
     intro w135 hNw136 hH
     refine Pend.done (by kernel_rfl) ?_
     intro w137 hw138
     replace hH := hH.call hw138; clear hw138
     have hH2 := hH.idx [0, 1, 2, 3, 4, 6, 7, 5] 8 rfl (by decide) rfl
     simp only [List.filterMap_cons, List.filterMap_nil, List.getElem?_cons_zero, List.getElem?_cons_succ] at hH2
     exact hrest15 b21 b121 b127 b115 w137 hH2
    ·
     refine plan_allocN rfl rfl hNw120 hH zc108 ?_
     clear hH
     intro b139 w140 hNw141 hNo142 hH
     (try simp only [nf, nh, Value.cells, arrB_set, spl5a, spl5b] at hH ⊢)
     refine plan_nilN hNw141 hH ?_
     clear hH
     intro w143 hNw144 hH
     refine Pend.plan (n := 0) (Far.chgN N16) (by kernel_rfl) (fun _ _ _ _ _ h => by first | exact h | exact BP.panic _ _ _ _ _ h) [.x 5, .q 6, .p 7, .s 10 (ChgN N16), .s 11 (ChgN N16)] [8, 9, 3, 2, 1, 0, 4] _ _ (by simp [AllR]) (by simp [effects]) (by simp [marked]) (by kernel_rfl) ?_
     refine plan_buildSliceN rfl rfl hNw144 hH Tryd.underlying29 (by rfl) (bs1 1) ?_
     clear hH
     intro b145 w146 hNw147 hNo148 hH
     (try simp only [nf, nh, Value.cells, arrB_set, spl5a, spl5b] at hH ⊢)
     refine pq rfl rfl (qr_call cf49 (fun w' hw => csmall_calls _ _ w' ((OwnC.sl hH 7 rfl (OwnC.of_bytes rfl)).chg hw)) rfl) ?_;simp only [nf]
     refine pp rfl rfl (pr_build (by rfl) (bd108_0_1 _ _)) ?_;simp only [nf]
     refine plan_storeWN 6 rfl rfl hNw147 hH rfl rfl rfl one_arr64 sz108 (by simp) (by simp) hNo142 ?_
     clear hH
     intro w149 hNw150 hH
     (try simp only [nf, nh, Value.cells, arrB_set, spl5a, spl5b] at hH ⊢)
     refine plan_storeWN 5 rfl rfl hNw150 hH rfl rfl rfl one_arr64 sz108 (by simp) (by simp) hNo118 ?_
     clear hH
     intro w151 hNw152 hH
     (try simp only [nf, nh, Value.cells, arrB_set, spl5a, spl5b] at hH ⊢)
     refine plan_nilN hNw152 hH ?_
     clear hH
     intro w153 hNw154 hH
     refine Pend.done (by kernel_rfl) ?_
     intro w155 hw156
     replace hH := hH.call hw156; clear hw156
     have hH2 := hH.idx [0, 1, 2, 3, 4, 7, 6, 5] 8 rfl (by decide) rfl
     simp only [List.filterMap_cons, List.filterMap_nil, List.getElem?_cons_zero, List.getElem?_cons_succ] at hH2
     exact hrest15 b21 b145 b139 b115 w155 hH2
  ·
   refine plan_buildSliceN rfl rfl hNw20 hH Tryd.underlying29 (by rfl) (bs1 1) ?_
   clear hH
   intro b157 w158 hNw159 hNo160 hH
   (try simp only [nf, nh, Value.cells, arrB_set, spl5a, spl5b] at hH ⊢)
   refine plan_nilN hNw159 hH ?_
   clear hH
   intro w161 hNw162 hH
   refine Pend.fork3 (Far.chgN N16) (n := 9) (.x 0) (.x 8) (.x 9) (by kernel_rfl) (by kernel_rfl) (by kernel_rfl) (by simp [AllR]) (by simp [AllR]) (by simp [AllR]) (by kernel_rfl) (by kernel_rfl) ?_ ?_ ?_
   ·
    refine plan_buildSliceN rfl rfl hNw162 hH Tryd.underlying29 (by rfl) (bs1 1) ?_
    clear hH
    intro b163 w164 hNw165 hNo166 hH
    (try simp only [nf, nh, Value.cells, arrB_set, spl5a, spl5b] at hH ⊢)
    refine plan_nilN hNw165 hH ?_
    clear hH
    intro w167 hNw168 hH
    refine Pend.plan (n := 4) (Far.chgN N16) (by kernel_rfl) (fun _ _ _ _ _ h => by first | exact h | exact BP.panic _ _ _ _ _ h) [.q 1, .q 2, .p 3, .q 6, .p 7] [0, 5, 4] _ _ (by simp [AllR]) (by simp [effects]) (by simp [marked]) (by kernel_rfl) ?_
    refine pq rfl rfl (qr_call cf49 (fun w' hw => csmall_calls _ _ w' ((OwnC.sl hH 5 rfl (OwnC.of_bytes rfl)).chg hw)) rfl) ?_;simp only [nf]
    refine pq rfl rfl (qr_call cf49 (fun w' hw => csmall_calls _ _ w' (Sl.nil.chg hw)) rfl) ?_;simp only [nf]
    refine pp rfl rfl (pr_build (by rfl) (bd108_0_1 _ _)) ?_;simp only [nf]
    refine pq rfl rfl (qr_call cf49 (fun w' hw => csmall_calls _ _ w' ((OwnC.sl hH 4 rfl (OwnC.of_bytes rfl)).chg hw)) rfl) ?_;simp only [nf]
    refine pp rfl rfl (pr_build (by rfl) (bd108_0_1 _ _)) ?_;simp only [nf]
    refine plan_nilN hNw168 hH ?_
    clear hH
    intro w169 hNw170 hH
    refine Pend.fork2 (Far.chgN N16) (n := 3) (.x 8) (.x 9) (by kernel_rfl) (by kernel_rfl) (by simp [AllR]) (by simp [AllR]) (by kernel_rfl) (by kernel_rfl) ?_ ?_
    ·
     refine plan_allocN rfl rfl hNw170 hH zc108 ?_
     clear hH
     intro b171 w172 hNw173 hNo174 hH
     (try simp only [nf, nh, Value.cells, arrB_set, spl5a, spl5b] at hH ⊢)
     refine plan_nilN hNw173 hH ?_
     clear hH
     intro w175 hNw176 hH
     refine Pend.plan (n := 0) (Far.chgN N16) (by kernel_rfl) (fun _ _ _ _ _ h => by first | exact h | exact BP.panic _ _ _ _ _ h) [.x 9, .s 10 (ChgN N16), .s 11 (ChgN N16)] [8, 7, 6, 3, 2, 1, 0, 5, 4] _ _ (by simp [AllR]) (by simp [effects]) (by simp [marked]) (by kernel_rfl) ?_
     refine plan_allocN rfl rfl hNw176 hH zc108 ?_
     clear hH
     intro b177 w178 hNw179 hNo180 hH
     (try simp only [nf, nh, Value.cells, arrB_set, spl5a, spl5b] at hH ⊢)
     refine plan_storeWN 6 rfl rfl hNw179 hH rfl rfl rfl one_arr64 sz108 (by simp) (by simp) hNo174 ?_
     clear hH
     intro w181 hNw182 hH
     (try simp only [nf, nh, Value.cells, arrB_set, spl5a, spl5b] at hH ⊢)
     refine plan_storeWN 7 rfl rfl hNw182 hH rfl rfl rfl one_arr64 sz108 (by simp) (by simp) hNo180 ?_
     clear hH
     intro w183 hNw184 hH
     (try simp only [nf, nh, Value.cells, arrB_set, spl5a, spl5b] at hH ⊢)
     refine plan_nilN hNw184 hH ?_
     clear hH
     intro w185 hNw186 hH
     refine Pend.done (by kernel_rfl) ?_
     intro w187 hw188
     replace hH := hH.call hw188; clear hw188
     have hH2 := hH.idx [0, 1, 2, 3, 5, 4, 6, 7] 8 rfl (by decide) rfl
     simp only [List.filterMap_cons, List.filterMap_nil, List.getElem?_cons_zero, List.getElem?_cons_succ] at hH2
     exact hrest15 b163 b157 b171 b177 w187 hH2
    ·
     refine plan_allocN rfl rfl hNw170 hH zc108 ?_
     clear hH
     intro b189 w190 hNw191 hNo192 hH
     (try simp only [nf, nh, Value.cells, arrB_set, spl5a, spl5b] at hH ⊢)
     refine plan_nilN hNw191 hH ?_
     clear hH
     intro w193 hNw194 hH
     refine Pend.plan (n := 0) (Far.chgN N16) (by kernel_rfl) (fun _ _ _ _ _ h => by first | exact h | exact BP.panic _ _ _ _ _ h) [.x 8, .s 10 (ChgN N16), .s 11 (ChgN N16)] [9, 7, 6, 3, 2, 1, 0, 5, 4] _ _ (by simp [AllR]) (by simp [effects]) (by simp [marked]) (by kernel_rfl) ?_
     refine plan_allocN rfl rfl hNw194 hH zc108 ?_
     clear hH
     intro b195 w196 hNw197 hNo198 hH
     (try simp only [nf, nh, Value.cells, arrB_set, spl5a, spl5b] at hH ⊢)
     refine plan_storeWN 7 rfl rfl hNw197 hH rfl rfl rfl one_arr64 sz108 (by simp) (by simp) hNo198 ?_
     clear hH
     intro w199 hNw200 hH
     (try simp only [nf, nh, Value.cells, arrB_set, spl5a, spl5b] at hH ⊢)
     refine plan_storeWN 6 rfl rfl hNw200 hH rfl rfl rfl one_arr64 sz108 (by simp) (by simp) hNo192 ?_
     clear hH
     intro w201 hNw202 hH
     (try simp only [nf, nh, Value.cells, arrB_set, spl5a, spl5b] at hH ⊢)
     refine plan_nilN hNw202 hH ?_
     clear hH
     intro w203 hNw204 hH
     refine Pend.done (by kernel_rfl) ?_
     intro w205 hw206
     replace hH := hH.call hw206; clear hw206
     have hH2 := hH.idx [0, 1, 2, 3, 5, 4, 7, 6] 8 rfl (by decide) rfl
     simp only [List.filterMap_cons, List.filterMap_nil, List.getElem?_cons_zero, List.getElem?_cons_succ] at hH2
     exact hrest15 b163 b157 b195 b189 w205 hH2
   ·
    refine plan_allocN rfl rfl hNw162 hH zc108 ?_
    clear hH
    intro b207 w208 hNw209 hNo210 hH
    (try simp only [nf, nh, Value.cells, arrB_set, spl5a, spl5b] at hH ⊢)
    refine plan_nilN hNw209 hH ?_
    clear hH
    intro w211 hNw212 hH
    refine Pend.fork2 (Far.chgN N16) (n := 8) (.x 0) (.x 9) (by kernel_rfl) (by kernel_rfl) (by simp [AllR]) (by simp [AllR]) (by kernel_rfl) (by kernel_rfl) ?_ ?_
    ·
     refine plan_buildSliceN rfl rfl hNw212 hH Tryd.underlying29 (by rfl) (bs1 1) ?_
     clear hH
     intro b213 w214 hNw215 hNo216 hH
     (try simp only [nf, nh, Value.cells, arrB_set, spl5a, spl5b] at hH ⊢)
     refine plan_nilN hNw215 hH ?_
     clear hH
     intro w217 hNw218 hH
     refine Pend.plan (n := 0) (Far.chgN N16) (by kernel_rfl) (fun _ _ _ _ _ h => by first | exact h | exact BP.panic _ _ _ _ _ h) [.q 1, .q 2, .p 3, .q 6, .p 7, .x 9, .s 10 (ChgN N16), .s 11 (ChgN N16)] [0, 8, 5, 4] _ _ (by simp [AllR]) (by simp [effects]) (by simp [marked]) (by kernel_rfl) ?_
     refine pq rfl rfl (qr_call cf49 (fun w' hw => csmall_calls _ _ w' ((OwnC.sl hH 6 rfl (OwnC.of_bytes rfl)).chg hw)) rfl) ?_;simp only [nf]
     refine pq rfl rfl (qr_call cf49 (fun w' hw => csmall_calls _ _ w' (Sl.nil.chg hw)) rfl) ?_;simp only [nf]
     refine pp rfl rfl (pr_build (by rfl) (bd108_0_1 _ _)) ?_;simp only [nf]
     refine pq rfl rfl (qr_call cf49 (fun w' hw => csmall_calls _ _ w' ((OwnC.sl hH 4 rfl (OwnC.of_bytes rfl)).chg hw)) rfl) ?_;simp only [nf]
     refine pp rfl rfl (pr_build (by rfl) (bd108_0_1 _ _)) ?_;simp only [nf]
     refine plan_allocN rfl rfl hNw218 hH zc108 ?_
     clear hH
     intro b219 w220 hNw221 hNo222 hH
     (try simp only [nf, nh, Value.cells, arrB_set, spl5a, spl5b] at hH ⊢)
     refine plan_storeWN 5 rfl rfl hNw221 hH rfl rfl rfl one_arr64 sz108 (by simp) (by simp) hNo210 ?_
     clear hH
     intro w223 hNw224 hH
     (try simp only [nf, nh, Value.cells, arrB_set, spl5a, spl5b] at hH ⊢)
     refine plan_storeWN 7 rfl rfl hNw224 hH rfl rfl rfl one_arr64 sz108 (by simp) (by simp) hNo222 ?_
     clear hH
     intro w225 hNw226 hH
     (try simp only [nf, nh, Value.cells, arrB_set, spl5a, spl5b] at hH ⊢)
     refine plan_nilN hNw226 hH ?_
     clear hH
     intro w227 hNw228 hH
     refine Pend.done (by kernel_rfl) ?_
     intro w229 hw230
     replace hH := hH.call hw230; clear hw230
     have hH2 := hH.idx [0, 1, 2, 3, 6, 4, 5, 7] 8 rfl (by decide) rfl
     simp only [List.filterMap_cons, List.filterMap_nil, List.getElem?_cons_zero, List.getElem?_cons_succ] at hH2
     exact hrest15 b213 b157 b207 b219 w229 hH2
    ·
     refine plan_allocN rfl rfl hNw212 hH zc108 ?_
     clear hH
     intro b231 w232 hNw233 hNo234 hH
     (try simp only [nf, nh, Value.cells, arrB_set, spl5a, spl5b] at hH ⊢)
     refine plan_nilN hNw233 hH ?_
     clear hH
     intro w235 hNw236 hH
     refine Pend.plan (n := 0) (Far.chgN N16) (by kernel_rfl) (fun _ _ _ _ _ h => by first | exact h | exact BP.panic _ _ _ _ _ h) [.x 0, .q 1, .q 2, .p 3, .q 6, .p 7, .s 10 (ChgN N16), .s 11 (ChgN N16)] [9, 8, 5, 4] _ _ (by simp [AllR]) (by simp [effects]) (by simp [marked]) (by kernel_rfl) ?_
     refine plan_buildSliceN rfl rfl hNw236 hH Tryd.underlying29 (by rfl) (bs1 1) ?_
     clear hH
     intro b237 w238 hNw239 hNo240 hH
     (try simp only [nf, nh, Value.cells, arrB_set, spl5a, spl5b] at hH ⊢)
     refine pq rfl rfl (qr_call cf49 (fun w' hw => csmall_calls _ _ w' ((OwnC.sl hH 7 rfl (OwnC.of_bytes rfl)).chg hw)) rfl) ?_;simp only [nf]
     refine pq rfl rfl (qr_call cf49 (fun w' hw => csmall_calls _ _ w' (Sl.nil.chg hw)) rfl) ?_;simp only [nf]
     refine pp rfl rfl (pr_build (by rfl) (bd108_0_1 _ _)) ?_;simp only [nf]
     refine pq rfl rfl (qr_call cf49 (fun w' hw => csmall_calls _ _ w' ((OwnC.sl hH 4 rfl (OwnC.of_bytes rfl)).chg hw)) rfl) ?_;simp only [nf]
     refine pp rfl rfl (pr_build (by rfl) (bd108_0_1 _ _)) ?_;simp only [nf]
     refine plan_storeWN 5 rfl rfl hNw239 hH rfl rfl rfl one_arr64 sz108 (by simp) (by simp) hNo210 ?_
     clear hH
     intro w241 hNw242 hH
     (try simp only [nf, nh, Value.cells, arrB_set, spl5a, spl5b] at hH ⊢)
     refine plan_storeWN 6 rfl rfl hNw242 hH rfl rfl rfl one_arr64 sz108 (by simp) (by simp) hNo234 ?_
     clear hH
     intro w243 hNw244 hH
     (try simp only [nf, nh, Value.cells, arrB_set, spl5a, spl5b] at hH ⊢)
     refine plan_nilN hNw244 hH ?_
     clear hH
     intro w245 hNw246 hH
     refine Pend.done (by kernel_rfl) ?_
     intro w247 hw248
     replace hH := hH.call hw248; clear hw248
     have hH2 := hH.idx [0, 1, 2, 3, 7, 4, 5, 6] 8 rfl (by decide) rfl
     simp only [List.filterMap_cons, List.filterMap_nil, List.getElem?_cons_zero, List.getElem?_cons_succ] at hH2
     exact hrest15 b237 b157 b207 b231 w247 hH2
   ·
    refine plan_allocN rfl rfl hNw162 hH zc108 ?_
    clear hH
    intro b249 w250 hNw251 hNo252 hH
    (try simp only [nf, nh, Value.cells, arrB_set, spl5a, spl5b] at hH ⊢)
    refine plan_nilN hNw251 hH ?_
    clear hH
    intro w253 hNw254 hH
    refine Pend.fork2 (Far.chgN N16) (n := 8) (.x 0) (.x 8) (by kernel_rfl) (by kernel_rfl) (by simp [AllR]) (by simp [AllR]) (by kernel_rfl) (by kernel_rfl) ?_ ?_
    ·
     refine plan_buildSliceN rfl rfl hNw254 hH Tryd.underlying29 (by rfl) (bs1 1) ?_
     clear hH
     intro b255 w256 hNw257 hNo258 hH
     (try simp only [nf, nh, Value.cells, arrB_set, spl5a, spl5b] at hH ⊢)
     refine plan_nilN hNw257 hH ?_
     clear hH
     intro w259 hNw260 hH
     refine Pend.plan (n := 0) (Far.chgN N16) (by kernel_rfl) (fun _ _ _ _ _ h => by first | exact h | exact BP.panic _ _ _ _ _ h) [.q 1, .q 2, .p 3, .q 6, .p 7, .x 8, .s 10 (ChgN N16), .s 11 (ChgN N16)] [0, 9, 5, 4] _ _ (by simp [AllR]) (by simp [effects]) (by simp [marked]) (by kernel_rfl) ?_
     refine pq rfl rfl (qr_call cf49 (fun w' hw => csmall_calls _ _ w' ((OwnC.sl hH 6 rfl (OwnC.of_bytes rfl)).chg hw)) rfl) ?_;simp only [nf]
     refine pq rfl rfl (qr_call cf49 (fun w' hw => csmall_calls _ _ w' (Sl.nil.chg hw)) rfl) ?_;simp only [nf]
     refine pp rfl rfl (pr_build (by rfl) (bd108_0_1 _ _)) ?_;simp only [nf]
     refine pq rfl rfl (qr_call cf49 (fun w' hw => csmall_calls _ _ w' ((OwnC.sl hH 4 rfl (OwnC.of_bytes rfl)).chg hw)) rfl) ?_;simp only [nf]
     refine pp rfl rfl (pr_build (by rfl) (bd108_0_1 _ _)) ?_;simp only [nf]
     refine plan_allocN rfl rfl hNw260 hH zc108 ?_
     clear hH
     intro b261 w262 hNw263 hNo264 hH
     (try simp only [nf, nh, Value.cells, arrB_set, spl5a, spl5b] at hH ⊢)
     refine plan_storeWN 7 rfl rfl hNw263 hH rfl rfl rfl one_arr64 sz108 (by simp) (by simp) hNo264 ?_
     clear hH
     intro w265 hNw266 hH
     (try simp only [nf, nh, Value.cells, arrB_set, spl5a, spl5b] at hH ⊢)
     refine plan_storeWN 5 rfl rfl hNw266 hH rfl rfl rfl one_arr64 sz108 (by simp) (by simp) hNo252 ?_
     clear hH
     intro w267 hNw268 hH
     (try simp only [nf, nh, Value.cells, arrB_set, spl5a, spl5b] at hH ⊢)
     refine plan_nilN hNw268 hH ?_
     clear hH
     intro w269 hNw270 hH
     refine Pend.done (by kernel_rfl) ?_
     intro w271 hw272
     replace hH := hH.call hw272; clear hw272
     have hH2 := hH.idx [0, 1, 2, 3, 6, 4, 7, 5] 8 rfl (by decide) rfl
     simp only [List.filterMap_cons, List.filterMap_nil, List.getElem?_cons_zero, List.getElem?_cons_succ] at hH2
     exact hrest15 b255 b157 b261 b249 w271 hH2
    ·
     refine plan_allocN rfl rfl hNw254 hH zc108 ?_
     clear hH
     intro b273 w274 hNw275 hNo276 hH
     (try simp only [nf, nh, Value.cells, arrB_set, spl5a, spl5b] at hH ⊢)
     refine plan_nilN hNw275 hH ?_
     clear hH
     intro w277 hNw278 hH
     refine Pend.plan (n := 0) (Far.chgN N16) (by kernel_rfl) (fun _ _ _ _ _ h => by first | exact h | exact BP.panic _ _ _ _ _ h) [.x 0, .q 1, .q 2, .p 3, .q 6, .p 7, .s 10 (ChgN N16), .s 11 (ChgN N16)] [8, 9, 5, 4] _ _ (by simp [AllR]) (by simp [effects]) (by simp [marked]) (by kernel_rfl) ?_
     refine plan_buildSliceN rfl rfl hNw278 hH Tryd.underlying29 (by rfl) (bs1 1) ?_
     clear hH
     intro b279 w280 hNw281 hNo282 hH
     (try simp only [nf, nh, Value.cells, arrB_set, spl5a, spl5b] at hH ⊢)
     refine pq rfl rfl (qr_call cf49 (fun w' hw => csmall_calls _ _ w' ((OwnC.sl hH 7 rfl (OwnC.of_bytes rfl)).chg hw)) rfl) ?_;simp only [nf]
     refine pq rfl rfl (qr_call cf49 (fun w' hw => csmall_calls _ _ w' (Sl.nil.chg hw)) rfl) ?_;simp only [nf]
     refine pp rfl rfl (pr_build (by rfl) (bd108_0_1 _ _)) ?_;simp only [nf]
     refine pq rfl rfl (qr_call cf49 (fun w' hw => csmall_calls _ _ w' ((OwnC.sl hH 4 rfl (OwnC.of_bytes rfl)).chg hw)) rfl) ?_;simp only [nf]
     refine pp rfl rfl (pr_build (by rfl) (bd108_0_1 _ _)) ?_;simp only [nf]
     refine plan_storeWN 6 rfl rfl hNw281 hH rfl rfl rfl one_arr64 sz108 (by simp) (by simp) hNo276 ?_
     clear hH
     intro w283 hNw284 hH
     (try simp only [nf, nh, Value.cells, arrB_set, spl5a, spl5b] at hH ⊢)
     refine plan_storeWN 5 rfl rfl hNw284 hH rfl rfl rfl one_arr64 sz108 (by simp) (by simp) hNo252 ?_
     clear hH
     intro w285 hNw286 hH
     (try simp only [nf, nh, Value.cells, arrB_set, spl5a, spl5b] at hH ⊢)
     refine plan_nilN hNw286 hH ?_
     clear hH
     intro w287 hNw288 hH
     refine Pend.done (by kernel_rfl) ?_
     intro w289 hw290
     replace hH := hH.call hw290; clear hw290
     have hH2 := hH.idx [0, 1, 2, 3, 7, 4, 6, 5] 8 rfl (by decide) rfl
     simp only [List.filterMap_cons, List.filterMap_nil, List.getElem?_cons_zero, List.getElem?_cons_succ] at hH2
     exact hrest15 b279 b157 b273 b249 w289 hH2
  ·
   refine plan_allocN rfl rfl hNw20 hH zc108 ?_
   clear hH
   intro b291 w292 hNw293 hNo294 hH
   (try simp only [nf, nh, Value.cells, arrB_set, spl5a, spl5b] at hH ⊢)
   refine plan_nilN hNw293 hH ?_
   clear hH
   intro w295 hNw296 hH
   refine Pend.fork3 (Far.chgN N16) (n := 9) (.x 0) (.x 5) (.x 9) (by kernel_rfl) (by kernel_rfl) (by kernel_rfl) (by simp [AllR]) (by simp [AllR]) (by simp [AllR]) (by kernel_rfl) (by kernel_rfl) ?_ ?_ ?_
   ·
    refine plan_buildSliceN rfl rfl hNw296 hH Tryd.underlying29 (by rfl) (bs1 1) ?_
    clear hH
    intro b297 w298 hNw299 hNo300 hH
    (try simp only [nf, nh, Value.cells, arrB_set, spl5a, spl5b] at hH ⊢)
    refine plan_nilN hNw299 hH ?_
    clear hH
    intro w301 hNw302 hH
    refine Pend.plan (n := 6) (Far.chgN N16) (by kernel_rfl) (fun _ _ _ _ _ h => by first | exact h | exact BP.panic _ _ _ _ _ h) [.q 1, .q 2, .p 3] [0, 8, 4] _ _ (by simp [AllR]) (by simp [effects]) (by simp [marked]) (by kernel_rfl) ?_
    refine pq rfl rfl (qr_call cf49 (fun w' hw => csmall_calls _ _ w' ((OwnC.sl hH 5 rfl (OwnC.of_bytes rfl)).chg hw)) rfl) ?_;simp only [nf]
    refine pq rfl rfl (qr_call cf49 (fun w' hw => csmall_calls _ _ w' (Sl.nil.chg hw)) rfl) ?_;simp only [nf]
    refine pp rfl rfl (pr_build (by rfl) (bd108_0_1 _ _)) ?_;simp only [nf]
    refine plan_nilN hNw302 hH ?_
    clear hH
    intro w303 hNw304 hH
    refine Pend.fork2 (Far.chgN N16) (n := 5) (.x 5) (.x 9) (by kernel_rfl) (by kernel_rfl) (by simp [AllR]) (by simp [AllR]) (by kernel_rfl) (by kernel_rfl) ?_ ?_
    ·
     refine plan_buildSliceN rfl rfl hNw304 hH Tryd.underlying29 (by rfl) (bs1 1) ?_
     clear hH
     intro b305 w306 hNw307 hNo308 hH
     (try simp only [nf, nh, Value.cells, arrB_set, spl5a, spl5b] at hH ⊢)
     refine plan_nilN hNw307 hH ?_
     clear hH
     intro w309 hNw310 hH
     refine Pend.plan (n := 0) (Far.chgN N16) (by kernel_rfl) (fun _ _ _ _ _ h => by first | exact h | exact BP.panic _ _ _ _ _ h) [.q 6, .p 7, .x 9, .s 10 (ChgN N16), .s 11 (ChgN N16)] [5, 3, 2, 1, 0, 8, 4] _ _ (by simp [AllR]) (by simp [effects]) (by simp [marked]) (by kernel_rfl) ?_
     refine pq rfl rfl (qr_call cf49 (fun w' hw => csmall_calls _ _ w' ((OwnC.sl hH 6 rfl (OwnC.of_bytes rfl)).chg hw)) rfl) ?_;simp only [nf]
     refine pp rfl rfl (pr_build (by rfl) (bd108_0_1 _ _)) ?_;simp only [nf]
     refine plan_allocN rfl rfl hNw310 hH zc108 ?_
     clear hH
     intro b311 w312 hNw313 hNo314 hH
     (try simp only [nf, nh, Value.cells, arrB_set, spl5a, spl5b] at hH ⊢)
     refine plan_storeWN 4 rfl rfl hNw313 hH rfl rfl rfl one_arr64 sz108 (by simp) (by simp) hNo294 ?_
     clear hH
     intro w315 hNw316 hH
     (try simp only [nf, nh, Value.cells, arrB_set, spl5a, spl5b] at hH ⊢)
     refine plan_storeWN 7 rfl rfl hNw316 hH rfl rfl rfl one_arr64 sz108 (by simp) (by simp) hNo314 ?_
     clear hH
     intro w317 hNw318 hH
     (try simp only [nf, nh, Value.cells, arrB_set, spl5a, spl5b] at hH ⊢)
     refine plan_nilN hNw318 hH ?_
     clear hH
     intro w319 hNw320 hH
     refine Pend.done (by kernel_rfl) ?_
     intro w321 hw322
     replace hH := hH.call hw322; clear hw322
     have hH2 := hH.idx [0, 1, 2, 3, 5, 6, 4, 7] 8 rfl (by decide) rfl
     simp only [List.filterMap_cons, List.filterMap_nil, List.getElem?_cons_zero, List.getElem?_cons_succ] at hH2
     exact hrest15 b297 b305 b291 b311 w321 hH2
    ·
     refine plan_allocN rfl rfl hNw304 hH zc108 ?_
     clear hH
     intro b323 w324 hNw325 hNo326 hH
     (try simp only [nf, nh, Value.cells, arrB_set, spl5a, spl5b] at hH ⊢)
     refine plan_nilN hNw325 hH ?_
     clear hH
     intro w327 hNw328 hH
     refine Pend.plan (n := 0) (Far.chgN N16) (by kernel_rfl) (fun _ _ _ _ _ h => by first | exact h | exact BP.panic _ _ _ _ _ h) [.x 5, .q 6, .p 7, .s 10 (ChgN N16), .s 11 (ChgN N16)] [9, 3, 2, 1, 0, 8, 4] _ _ (by simp [AllR]) (by simp [effects]) (by simp [marked]) (by kernel_rfl) ?_
     refine plan_buildSliceN rfl rfl hNw328 hH Tryd.underlying29 (by rfl) (bs1 1) ?_
     clear hH
     intro b329 w330 hNw331 hNo332 hH
     (try simp only [nf, nh, Value.cells, arrB_set, spl5a, spl5b] at hH ⊢)
     refine pq rfl rfl (qr_call cf49 (fun w' hw => csmall_calls _ _ w' ((OwnC.sl hH 7 rfl (OwnC.of_bytes rfl)).chg hw)) rfl) ?_;simp only [nf]
     refine pp rfl rfl (pr_build (by rfl) (bd108_0_1 _ _)) ?_;simp only [nf]
     refine plan_storeWN 4 rfl rfl hNw331 hH rfl rfl rfl one_arr64 sz108 (by simp) (by simp) hNo294 ?_
     clear hH
     intro w333 hNw334 hH
     (try simp only [nf, nh, Value.cells, arrB_set, spl5a, spl5b] at hH ⊢)
     refine plan_storeWN 6 rfl rfl hNw334 hH rfl rfl rfl one_arr64 sz108 (by simp) (by simp) hNo326 ?_
     clear hH
     intro w335 hNw336 hH
     (try simp only [nf, nh, Value.cells, arrB_set, spl5a, spl5b] at hH ⊢)
     refine plan_nilN hNw336 hH ?_
     clear hH
     intro w337 hNw338 hH
     refine Pend.done (by kernel_rfl) ?_
     intro w339 hw340
     replace hH := hH.call hw340; clear hw340
     have hH2 := hH.idx [0, 1, 2, 3, 5, 7, 4, 6] 8 rfl (by decide) rfl
     simp only [List.filterMap_cons, List.filterMap_nil, List.getElem?_cons_zero, List.getElem?_cons_succ] at hH2
     exact hrest15 b297 b329 b291 b323 w339 hH2
   ·
    refine plan_buildSliceN rfl rfl hNw296 hH Tryd.underlying29 (by rfl) (bs1 1) ?_
    clear hH
    intro b341 w342 hNw343 hNo344 hH
    (try simp only [nf, nh, Value.cells, arrB_set, spl5a, spl5b] at hH ⊢)
    refine plan_nilN hNw343 hH ?_
    clear hH
    intro w345 hNw346 hH
    refine Pend.fork2 (Far.chgN N16) (n := 8) (.x 0) (.x 9) (by kernel_rfl) (by kernel_rfl) (by simp [AllR]) (by simp [AllR]) (by kernel_rfl) (by kernel_rfl) ?_ ?_
    ·
     refine plan_buildSliceN rfl rfl hNw346 hH Tryd.underlying29 (by rfl) (bs1 1) ?_
     clear hH
     intro b347 w348 hNw349 hNo350 hH
     (try simp only [nf, nh, Value.cells, arrB_set, spl5a, spl5b] at hH ⊢)
     refine plan_nilN hNw349 hH ?_
     clear hH
     intro w351 hNw352 hH
     refine Pend.plan (n := 0) (Far.chgN N16) (by kernel_rfl) (fun _ _ _ _ _ h => by first | exact h | exact BP.panic _ _ _ _ _ h) [.q 1, .q 2, .p 3, .q 6, .p 7, .x 9, .s 10 (ChgN N16), .s 11 (ChgN N16)] [0, 5, 8, 4] _ _ (by simp [AllR]) (by simp [effects]) (by simp [marked]) (by kernel_rfl) ?_
     refine pq rfl rfl (qr_call cf49 (fun w' hw => csmall_calls _ _ w' ((OwnC.sl hH 6 rfl (OwnC.of_bytes rfl)).chg hw)) rfl) ?_;simp only [nf]
     refine pq rfl rfl (qr_call cf49 (fun w' hw => csmall_calls _ _ w' (Sl.nil.chg hw)) rfl) ?_;simp only [nf]
     refine pp rfl rfl (pr_build (by rfl) (bd108_0_1 _ _)) ?_;simp only [nf]
     refine pq rfl rfl (qr_call cf49 (fun w' hw => csmall_calls _ _ w' ((OwnC.sl hH 5 rfl (OwnC.of_bytes rfl)).chg hw)) rfl) ?_;simp only [nf]
     refine pp rfl rfl (pr_build (by rfl) (bd108_0_1 _ _)) ?_;simp only [nf]
     refine plan_allocN rfl rfl hNw352 hH zc108 ?_
     clear hH
     intro b353 w354 hNw355 hNo356 hH
     (try simp only [nf, nh, Value.cells, arrB_set, spl5a, spl5b] at hH ⊢)
     refine plan_storeWN 4 rfl rfl hNw355 hH rfl rfl rfl one_arr64 sz108 (by simp) (by simp) hNo294 ?_
     clear hH
     intro w357 hNw358 hH
     (try simp only [nf, nh, Value.cells, arrB_set, spl5a, spl5b] at hH ⊢)
     refine plan_storeWN 7 rfl rfl hNw358 hH rfl rfl rfl one_arr64 sz108 (by simp) (by simp) hNo356 ?_
     clear hH
     intro w359 hNw360 hH
     (try simp only [nf, nh, Value.cells, arrB_set, spl5a, spl5b] at hH ⊢)
     refine plan_nilN hNw360 hH ?_
     clear hH
     intro w361 hNw362 hH
     refine Pend.done (by kernel_rfl) ?_
     intro w363 hw364
     replace hH := hH.call hw364; clear hw364
     have hH2 := hH.idx [0, 1, 2, 3, 6, 5, 4, 7] 8 rfl (by decide) rfl
     simp only [List.filterMap_cons, List.filterMap_nil, List.getElem?_cons_zero, List.getElem?_cons_succ] at hH2
     exact hrest15 b347 b341 b291 b353 w363 hH2
    ·
     refine plan_allocN rfl rfl hNw346 hH zc108 ?_
     clear hH
     intro b365 w366 hNw367 hNo368 hH
     (try simp only [nf, nh, Value.cells, arrB_set, spl5a, spl5b] at hH ⊢)
     refine plan_nilN hNw367 hH ?_
     clear hH
     intro w369 hNw370 hH
     refine Pend.plan (n := 0) (Far.chgN N16) (by kernel_rfl) (fun _ _ _ _ _ h => by first | exact h | exact BP.panic _ _ _ _ _ h) [.x 0, .q 1, .q 2, .p 3, .q 6, .p 7, .s 10 (ChgN N16), .s 11 (ChgN N16)] [9, 5, 8, 4] _ _ (by simp [AllR]) (by simp [effects]) (by simp [marked]) (by kernel_rfl) ?_
     refine plan_buildSliceN rfl rfl hNw370 hH Tryd.underlying29 (by rfl) (bs1 1) ?_
     clear hH
     intro b371 w372 hNw373 hNo374 hH
     (try simp only [nf, nh, Value.cells, arrB_set, spl5a, spl5b] at hH ⊢)
     refine pq rfl rfl (qr_call cf49 (fun w' hw => csmall_calls _ _ w' ((OwnC.sl hH 7 rfl (OwnC.of_bytes rfl)).chg hw)) rfl) ?_;simp only [nf]
     refine pq rfl rfl (qr_call cf49 (fun w' hw => csmall_calls _ _ w' (Sl.nil.chg hw)) rfl) ?_;simp only [nf]
     refine pp rfl rfl (pr_build (by rfl) (bd108_0_1 _ _)) ?_;simp only [nf]
     refine pq rfl rfl (qr_call cf49 (fun w' hw => csmall_calls _ _ w' ((OwnC.sl hH 5 rfl (OwnC.of_bytes rfl)).chg hw)) rfl) ?_;simp only [nf]
     refine pp rfl rfl (pr_build (by rfl) (bd108_0_1 _ _)) ?_;simp only [nf]
     refine plan_storeWN 4 rfl rfl hNw373 hH rfl rfl rfl one_arr64 sz108 (by simp) (by simp) hNo294 ?_
     clear hH
     intro w375 hNw376 hH
     (try simp only [nf, nh, Value.cells, arrB_set, spl5a, spl5b] at hH ⊢)
     refine plan_storeWN 6 rfl rfl hNw376 hH rfl rfl rfl one_arr64 sz108 (by simp) (by simp) hNo368 ?_
     clear hH
     intro w377 hNw378 hH
     (try simp only [nf, nh, Value.cells, arrB_set, spl5a, spl5b] at hH ⊢)
     refine plan_nilN hNw378 hH ?_
     clear hH
     intro w379 hNw380 hH
     refine Pend.done (by kernel_rfl) ?_
     intro w381 hw382
     replace hH := hH.call hw382; clear hw382
     have hH2 := hH.idx [0, 1, 2, 3, 7, 5, 4, 6] 8 rfl (by decide) rfl
     simp only [List.filterMap_cons, List.filterMap_nil, List.getElem?_cons_zero, List.getElem?_cons_succ] at hH2
     exact hrest15 b371 b341 b291 b365 w381 hH2
   ·
    refine plan_allocN rfl rfl hNw296 hH zc108 ?_
    clear hH
    intro b383 w384 hNw385 hNo386 hH
    (try simp only [nf, nh, Value.cells, arrB_set, spl5a, spl5b] at hH ⊢)
    refine plan_nilN hNw385 hH ?_
    clear hH
    intro w387 hNw388 hH
    refine Pend.fork2 (Far.chgN N16) (n := 8) (.x 0) (.x 5) (by kernel_rfl) (by kernel_rfl) (by simp [AllR]) (by simp [AllR]) (by kernel_rfl) (by kernel_rfl) ?_ ?_
    ·
     refine plan_buildSliceN rfl rfl hNw388 hH Tryd.underlying29 (by rfl) (bs1 1) ?_
     clear hH
     intro b389 w390 hNw391 hNo392 hH
     (try simp only [nf, nh, Value.cells, arrB_set, spl5a, spl5b] at hH ⊢)
     refine plan_nilN hNw391 hH ?_
     clear hH
     intro w393 hNw394 hH
     refine Pend.plan (n := 0) (Far.chgN N16) (by kernel_rfl) (fun _ _ _ _ _ h => by first | exact h | exact BP.panic _ _ _ _ _ h) [.q 1, .q 2, .p 3, .x 5, .q 6, .p 7, .s 10 (ChgN N16), .s 11 (ChgN N16)] [0, 9, 8, 4] _ _ (by simp [AllR]) (by simp [effects]) (by simp [marked]) (by kernel_rfl) ?_
     refine pq rfl rfl (qr_call cf49 (fun w' hw => csmall_calls _ _ w' ((OwnC.sl hH 6 rfl (OwnC.of_bytes rfl)).chg hw)) rfl) ?_;simp only [nf]
     refine pq rfl rfl (qr_call cf49 (fun w' hw => csmall_calls _ _ w' (Sl.nil.chg hw)) rfl) ?_;simp only [nf]
     refine pp rfl rfl (pr_build (by rfl) (bd108_0_1 _ _)) ?_;simp only [nf]
     refine plan_buildSliceN rfl rfl hNw394 hH Tryd.underlying29 (by rfl) (bs1 1) ?_
     clear hH
     intro b395 w396 hNw397 hNo398 hH
     (try simp only [nf, nh, Value.cells, arrB_set, spl5a, spl5b] at hH ⊢)
     refine pq rfl rfl (qr_call cf49 (fun w' hw => csmall_calls _ _ w' ((OwnC.sl hH 7 rfl (OwnC.of_bytes rfl)).chg hw)) rfl) ?_;simp only [nf]
     refine pp rfl rfl (pr_build (by rfl) (bd108_0_1 _ _)) ?_;simp only [nf]
     refine plan_storeWN 4 rfl rfl hNw397 hH rfl rfl rfl one_arr64 sz108 (by simp) (by simp) hNo294 ?_
     clear hH
     intro w399 hNw400 hH
     (try simp only [nf, nh, Value.cells, arrB_set, spl5a, spl5b] at hH ⊢)
     refine plan_storeWN 5 rfl rfl hNw400 hH rfl rfl rfl one_arr64 sz108 (by simp) (by simp) hNo386 ?_
     clear hH
     intro w401 hNw402 hH
     (try simp only [nf, nh, Value.cells, arrB_set, spl5a, spl5b] at hH ⊢)
     refine plan_nilN hNw402 hH ?_
     clear hH
     intro w403 hNw404 hH
     refine Pend.done (by kernel_rfl) ?_
     intro w405 hw406
     replace hH := hH.call hw406; clear hw406
     have hH2 := hH.idx [0, 1, 2, 3, 6, 7, 4, 5] 8 rfl (by decide) rfl
     simp only [List.filterMap_cons, List.filterMap_nil, List.getElem?_cons_zero, List.getElem?_cons_succ] at hH2
     exact hrest15 b389 b395 b291 b383 w405 hH2
    ·
     refine plan_buildSliceN rfl rfl hNw388 hH Tryd.underlying29 (by rfl) (bs1 1) ?_
     clear hH
     intro b407 w408 hNw409 hNo410 hH
     (try simp only [nf, nh, Value.cells, arrB_set, spl5a, spl5b] at hH ⊢)
     refine plan_nilN hNw409 hH ?_
     clear hH
     intro w411 hNw412 hH
     refine Pend.plan (n := 0) (Far.chgN N16) (by kernel_rfl) (fun _ _ _ _ _ h => by first | exact h | exact BP.panic _ _ _ _ _ h) [.x 0, .q 1, .q 2, .p 3, .q 6, .p 7, .s 10 (ChgN N16), .s 11 (ChgN N16)] [5, 9, 8, 4] _ _ (by simp [AllR]) (by simp [effects]) (by simp [marked]) (by kernel_rfl) ?_
     refine plan_buildSliceN rfl rfl hNw412 hH Tryd.underlying29 (by rfl) (bs1 1) ?_
     clear hH
     intro b413 w414 hNw415 hNo416 hH
     (try simp only [nf, nh, Value.cells, arrB_set, spl5a, spl5b] at hH ⊢)
     refine pq rfl rfl (qr_call cf49 (fun w' hw => csmall_calls _ _ w' ((OwnC.sl hH 7 rfl (OwnC.of_bytes rfl)).chg hw)) rfl) ?_;simp only [nf]
     refine pq rfl rfl (qr_call cf49 (fun w' hw => csmall_calls _ _ w' (Sl.nil.chg hw)) rfl) ?_;simp only [nf]
     refine pp rfl rfl (pr_build (by rfl) (bd108_0_1 _ _)) ?_;simp only [nf]
     refine pq rfl rfl (qr_call cf49 (fun w' hw => csmall_calls _ _ w' ((OwnC.sl hH 6 rfl (OwnC.of_bytes rfl)).chg hw)) rfl) ?_;simp only [nf]
     refine pp rfl rfl (pr_build (by rfl) (bd108_0_1 _ _)) ?_;simp only [nf]
     refine plan_storeWN 4 rfl rfl hNw415 hH rfl rfl rfl one_arr64 sz108 (by simp) (by simp) hNo294 ?_
     clear hH
     intro w417 hNw418 hH
     (try simp only [nf, nh, Value.cells, arrB_set, spl5a, spl5b] at hH ⊢)
     refine plan_storeWN 5 rfl rfl hNw418 hH rfl rfl rfl one_arr64 sz108 (by simp) (by simp) hNo386 ?_
     clear hH
     intro w419 hNw420 hH
     (try simp only [nf, nh, Value.cells, arrB_set, spl5a, spl5b] at hH ⊢)
     refine plan_nilN hNw420 hH ?_
     clear hH
     intro w421 hNw422 hH
     refine Pend.done (by kernel_rfl) ?_
     intro w423 hw424
     replace hH := hH.call hw424; clear hw424
     have hH2 := hH.idx [0, 1, 2, 3, 7, 6, 4, 5] 8 rfl (by decide) rfl
     simp only [List.filterMap_cons, List.filterMap_nil, List.getElem?_cons_zero, List.getElem?_cons_succ] at hH2
     exact hrest15 b413 b407 b291 b383 w423 hH2
  ·
   refine plan_allocN rfl rfl hNw20 hH zc108 ?_
   clear hH
   intro b425 w426 hNw427 hNo428 hH
   (try simp only [nf, nh, Value.cells, arrB_set, spl5a, spl5b] at hH ⊢)
   refine plan_nilN hNw427 hH ?_
   clear hH
   intro w429 hNw430 hH
   refine Pend.fork3 (Far.chgN N16) (n := 9) (.x 0) (.x 5) (.x 8) (by kernel_rfl) (by kernel_rfl) (by kernel_rfl) (by simp [AllR]) (by simp [AllR]) (by simp [AllR]) (by kernel_rfl) (by kernel_rfl) ?_ ?_ ?_
   ·
    refine plan_buildSliceN rfl rfl hNw430 hH Tryd.underlying29 (by rfl) (bs1 1) ?_
    clear hH
    intro b431 w432 hNw433 hNo434 hH
    (try simp only [nf, nh, Value.cells, arrB_set, spl5a, spl5b] at hH ⊢)
    refine plan_nilN hNw433 hH ?_
    clear hH
    intro w435 hNw436 hH
    refine Pend.plan (n := 6) (Far.chgN N16) (by kernel_rfl) (fun _ _ _ _ _ h => by first | exact h | exact BP.panic _ _ _ _ _ h) [.q 1, .q 2, .p 3] [0, 9, 4] _ _ (by simp [AllR]) (by simp [effects]) (by simp [marked]) (by kernel_rfl) ?_
    refine pq rfl rfl (qr_call cf49 (fun w' hw => csmall_calls _ _ w' ((OwnC.sl hH 5 rfl (OwnC.of_bytes rfl)).chg hw)) rfl) ?_;simp only [nf]
    refine pq rfl rfl (qr_call cf49 (fun w' hw => csmall_calls _ _ w' (Sl.nil.chg hw)) rfl) ?_;simp only [nf]
    refine pp rfl rfl (pr_build (by rfl) (bd108_0_1 _ _)) ?_;simp only [nf]
    refine plan_nilN hNw436 hH ?_
    clear hH
    intro w437 hNw438 hH
    refine Pend.fork2 (Far.chgN N16) (n := 5) (.x 5) (.x 8) (by kernel_rfl) (by kernel_rfl) (by simp [AllR]) (by simp [AllR]) (by kernel_rfl) (by kernel_rfl) ?_ ?_
    ·
     refine plan_buildSliceN rfl rfl hNw438 hH Tryd.underlying29 (by rfl) (bs1 1) ?_
     clear hH
     intro b439 w440 hNw441 hNo442 hH
     (try simp only [nf, nh, Value.cells, arrB_set, spl5a, spl5b] at hH ⊢)
     refine plan_nilN hNw441 hH ?_
     clear hH
     intro w443 hNw444 hH
     refine Pend.plan (n := 0) (Far.chgN N16) (by kernel_rfl) (fun _ _ _ _ _ h => by first | exact h | exact BP.panic _ _ _ _ _ h) [.q 6, .p 7, .x 8, .s 10 (ChgN N16), .s 11 (ChgN N16)] [5, 3, 2, 1, 0, 9, 4] _ _ (by simp [AllR]) (by simp [effects]) (by simp [marked]) (by kernel_rfl) ?_
     refine pq rfl rfl (qr_call cf49 (fun w' hw => csmall_calls _ _ w' ((OwnC.sl hH 6 rfl (OwnC.of_bytes rfl)).chg hw)) rfl) ?_;simp only [nf]
     refine pp rfl rfl (pr_build (by rfl) (bd108_0_1 _ _)) ?_;simp only [nf]
     refine plan_allocN rfl rfl hNw444 hH zc108 ?_
     clear hH
     intro b445 w446 hNw447 hNo448 hH
     (try simp only [nf, nh, Value.cells, arrB_set, spl5a, spl5b] at hH ⊢)
     refine plan_storeWN 7 rfl rfl hNw447 hH rfl rfl rfl one_arr64 sz108 (by simp) (by simp) hNo448 ?_
     clear hH
     intro w449 hNw450 hH
     (try simp only [nf, nh, Value.cells, arrB_set, spl5a, spl5b] at hH ⊢)
     refine plan_storeWN 4 rfl rfl hNw450 hH rfl rfl rfl one_arr64 sz108 (by simp) (by simp) hNo428 ?_
     clear hH
     intro w451 hNw452 hH
     (try simp only [nf, nh, Value.cells, arrB_set, spl5a, spl5b] at hH ⊢)
     refine plan_nilN hNw452 hH ?_
     clear hH
     intro w453 hNw454 hH
     refine Pend.done (by kernel_rfl) ?_
     intro w455 hw456
     replace hH := hH.call hw456; clear hw456
     have hH2 := hH.idx [0, 1, 2, 3, 5, 6, 7, 4] 8 rfl (by decide) rfl
     simp only [List.filterMap_cons, List.filterMap_nil, List.getElem?_cons_zero, List.getElem?_cons_succ] at hH2
     exact hrest15 b431 b439 b445 b425 w455 hH2
    ·
     refine plan_allocN rfl rfl hNw438 hH zc108 ?_
     clear hH
     intro b457 w458 hNw459 hNo460 hH
     (try simp only [nf, nh, Value.cells, arrB_set, spl5a, spl5b] at hH ⊢)
     refine plan_nilN hNw459 hH ?_
     clear hH
     intro w461 hNw462 hH
     refine Pend.plan (n := 0) (Far.chgN N16) (by kernel_rfl) (fun _ _ _ _ _ h => by first | exact h | exact BP.panic _ _ _ _ _ h) [.x 5, .q 6, .p 7, .s 10 (ChgN N16), .s 11 (ChgN N16)] [8, 3, 2, 1, 0, 9, 4] _ _ (by simp [AllR]) (by simp [effects]) (by simp [marked]) (by kernel_rfl) ?_
     refine plan_buildSliceN rfl rfl hNw462 hH Tryd.underlying29 (by rfl) (bs1 1) ?_
     clear hH
     intro b463 w464 hNw465 hNo466 hH
     (try simp only [nf, nh, Value.cells, arrB_set, spl5a, spl5b] at hH ⊢)
     refine pq rfl rfl (qr_call cf49 (fun w' hw => csmall_calls _ _ w' ((OwnC.sl hH 7 rfl (OwnC.of_bytes rfl)).chg hw)) rfl) ?_;simp only [nf]
     refine pp rfl rfl (pr_build (by rfl) (bd108_0_1 _ _)) ?_;simp only [nf]
     refine plan_storeWN 6 rfl rfl hNw465 hH rfl rfl rfl one_arr64 sz108 (by simp) (by simp) hNo460 ?_
     clear hH
     intro w467 hNw468 hH
     (try simp only [nf, nh, Value.cells, arrB_set, spl5a, spl5b] at hH ⊢)
     refine plan_storeWN 4 rfl rfl hNw468 hH rfl rfl rfl one_arr64 sz108 (by simp) (by simp) hNo428 ?_
     clear hH
     intro w469 hNw470 hH
     (try simp only [nf, nh, Value.cells, arrB_set, spl5a, spl5b] at hH ⊢)
     refine plan_nilN hNw470 hH ?_
     clear hH
     intro w471 hNw472 hH
     refine Pend.done (by kernel_rfl) ?_
     intro w473 hw474
     replace hH := hH.call hw474; clear hw474
     have hH2 := hH.idx [0, 1, 2, 3, 5, 7, 6, 4] 8 rfl (by decide) rfl
     simp only [List.filterMap_cons, List.filterMap_nil, List.getElem?_cons_zero, List.getElem?_cons_succ] at hH2
     exact hrest15 b431 b463 b457 b425 w473 hH2
   ·
    refine plan_buildSliceN rfl rfl hNw430 hH Tryd.underlying29 (by rfl) (bs1 1) ?_
    clear hH
    intro b475 w476 hNw477 hNo478 hH
    (try simp only [nf, nh, Value.cells, arrB_set, spl5a, spl5b] at hH ⊢)
    refine plan_nilN hNw477 hH ?_
    clear hH
    intro w479 hNw480 hH
    refine Pend.fork2 (Far.chgN N16) (n := 8) (.x 0) (.x 8) (by kernel_rfl) (by kernel_rfl) (by simp [AllR]) (by simp [AllR]) (by kernel_rfl) (by kernel_rfl) ?_ ?_
    ·
     refine plan_buildSliceN rfl rfl hNw480 hH Tryd.underlying29 (by rfl) (bs1 1) ?_
     clear hH
     intro b481 w482 hNw483 hNo484 hH
     (try simp only [nf, nh, Value.cells, arrB_set, spl5a, spl5b] at hH ⊢)
     refine plan_nilN hNw483 hH ?_
     clear hH
     intro w485 hNw486 hH
     refine Pend.plan (n := 0) (Far.chgN N16) (by kernel_rfl) (fun _ _ _ _ _ h => by first | exact h | exact BP.panic _ _ _ _ _ h) [.q 1, .q 2, .p 3, .q 6, .p 7, .x 8, .s 10 (ChgN N16), .s 11 (ChgN N16)] [0, 5, 9, 4] _ _ (by simp [AllR]) (by simp [effects]) (by simp [marked]) (by kernel_rfl) ?_
     refine pq rfl rfl (qr_call cf49 (fun w' hw => csmall_calls _ _ w' ((OwnC.sl hH 6 rfl (OwnC.of_bytes rfl)).chg hw)) rfl) ?_;simp only [nf]
     refine pq rfl rfl (qr_call cf49 (fun w' hw => csmall_calls _ _ w' (Sl.nil.chg hw)) rfl) ?_;simp only [nf]
     refine pp rfl rfl (pr_build (by rfl) (bd108_0_1 _ _)) ?_;simp only [nf]
     refine pq rfl rfl (qr_call cf49 (fun w' hw => csmall_calls _ _ w' ((OwnC.sl hH 5 rfl (OwnC.of_bytes rfl)).chg hw)) rfl) ?_;simp only [nf]
     refine pp rfl rfl (pr_build (by rfl) (bd108_0_1 _ _)) ?_;simp only [nf]
     refine plan_allocN rfl rfl hNw486 hH zc108 ?_
     clear hH
     intro b487 w488 hNw489 hNo490 hH
     (try simp only [nf, nh, Value.cells, arrB_set, spl5a, spl5b] at hH ⊢)
     refine plan_storeWN 7 rfl rfl hNw489 hH rfl rfl rfl one_arr64 sz108 (by simp) (by simp) hNo490 ?_
     clear hH
     intro w491 hNw492 hH
     (try simp only [nf, nh, Value.cells, arrB_set, spl5a, spl5b] at hH ⊢)
     refine plan_storeWN 4 rfl rfl hNw492 hH rfl rfl rfl one_arr64 sz108 (by simp) (by simp) hNo428 ?_
     clear hH
     intro w493 hNw494 hH
     (try simp only [nf, nh, Value.cells, arrB_set, spl5a, spl5b] at hH ⊢)
     refine plan_nilN hNw494 hH ?_
     clear hH
     intro w495 hNw496 hH
     refine Pend.done (by kernel_rfl) ?_
     intro w497 hw498
     replace hH := hH.call hw498; clear hw498
     have hH2 := hH.idx [0, 1, 2, 3, 6, 5, 7, 4] 8 rfl (by decide) rfl
     simp only [List.filterMap_cons, List.filterMap_nil, List.getElem?_cons_zero, List.getElem?_cons_succ] at hH2
     exact hrest15 b481 b475 b487 b425 w497 hH2
    ·
     refine plan_allocN rfl rfl hNw480 hH zc108 ?_
     clear hH
     intro b499 w500 hNw501 hNo502 hH
     (try simp only [nf, nh, Value.cells, arrB_set, spl5a, spl5b] at hH ⊢)
     refine plan_nilN hNw501 hH ?_
     clear hH
     intro w503 hNw504 hH
     refine Pend.plan (n := 0) (Far.chgN N16) (by kernel_rfl) (fun _ _ _ _ _ h => by first | exact h | exact BP.panic _ _ _ _ _ h) [.x 0, .q 1, .q 2, .p 3, .q 6, .p 7, .s 10 (ChgN N16), .s 11 (ChgN N16)] [8, 5, 9, 4] _ _ (by simp [AllR]) (by simp [effects]) (by simp [marked]) (by kernel_rfl) ?_
     refine plan_buildSliceN rfl rfl hNw504 hH Tryd.underlying29 (by rfl) (bs1 1) ?_
     clear hH
     intro b505 w506 hNw507 hNo508 hH
     (try simp only [nf, nh, Value.cells, arrB_set, spl5a, spl5b] at hH ⊢)
     refine pq rfl rfl (qr_call cf49 (fun w' hw => csmall_calls _ _ w' ((OwnC.sl hH 7 rfl (OwnC.of_bytes rfl)).chg hw)) rfl) ?_;simp only [nf]
     refine pq rfl rfl (qr_call cf49 (fun w' hw => csmall_calls _ _ w' (Sl.nil.chg hw)) rfl) ?_;simp only [nf]
     refine pp rfl rfl (pr_build (by rfl) (bd108_0_1 _ _)) ?_;simp only [nf]
     refine pq rfl rfl (qr_call cf49 (fun w' hw => csmall_calls _ _ w' ((OwnC.sl hH 5 rfl (OwnC.of_bytes rfl)).chg hw)) rfl) ?_;simp only [nf]
     refine pp rfl rfl (pr_build (by rfl) (bd108_0_1 _ _)) ?_;simp only [nf]
     refine plan_storeWN 6 rfl rfl hNw507 hH rfl rfl rfl one_arr64 sz108 (by simp) (by simp) hNo502 ?_
     clear hH
     intro w509 hNw510 hH
     (try simp only [nf, nh, Value.cells, arrB_set, spl5a, spl5b] at hH ⊢)
     refine plan_storeWN 4 rfl rfl hNw510 hH rfl rfl rfl one_arr64 sz108 (by simp) (by simp) hNo428 ?_
     clear hH
     intro w511 hNw512 hH
     (try simp only [nf, nh, Value.cells, arrB_set, spl5a, spl5b] at hH ⊢)
     refine plan_nilN hNw512 hH ?_
     clear hH
     intro w513 hNw514 hH
     refine Pend.done (by kernel_rfl) ?_
     intro w515 hw516
     replace hH := hH.call hw516; clear hw516
     have hH2 := hH.idx [0, 1, 2, 3, 7, 5, 6, 4] 8 rfl (by decide) rfl
     simp only [List.filterMap_cons, List.filterMap_nil, List.getElem?_cons_zero, List.getElem?_cons_succ] at hH2
     exact hrest15 b505 b475 b499 b425 w515 hH2
   ·
    refine plan_allocN rfl rfl hNw430 hH zc108 ?_
    clear hH
    intro b517 w518 hNw519 hNo520 hH
    (try simp only [nf, nh, Value.cells, arrB_set, spl5a, spl5b] at hH ⊢)
    refine plan_nilN hNw519 hH ?_
    clear hH
    intro w521 hNw522 hH
    refine Pend.fork2 (Far.chgN N16) (n := 8) (.x 0) (.x 5) (by kernel_rfl) (by kernel_rfl) (by simp [AllR]) (by simp [AllR]) (by kernel_rfl) (by kernel_rfl) ?_ ?_
    ·
     refine plan_buildSliceN rfl rfl hNw522 hH Tryd.underlying29 (by rfl) (bs1 1) ?_
     clear hH
     intro b523 w524 hNw525 hNo526 hH
     (try simp only [nf, nh, Value.cells, arrB_set, spl5a, spl5b] at hH ⊢)
     refine plan_nilN hNw525 hH ?_
     clear hH
     intro w527 hNw528 hH
     refine Pend.plan (n := 0) (Far.chgN N16) (by kernel_rfl) (fun _ _ _ _ _ h => by first | exact h | exact BP.panic _ _ _ _ _ h) [.q 1, .q 2, .p 3, .x 5, .q 6, .p 7, .s 10 (ChgN N16), .s 11 (ChgN N16)] [0, 8, 9, 4] _ _ (by simp [AllR]) (by simp [effects]) (by simp [marked]) (by kernel_rfl) ?_
     refine pq rfl rfl (qr_call cf49 (fun w' hw => csmall_calls _ _ w' ((OwnC.sl hH 6 rfl (OwnC.of_bytes rfl)).chg hw)) rfl) ?_;simp only [nf]
     refine pq rfl rfl (qr_call cf49 (fun w' hw => csmall_calls _ _ w' (Sl.nil.chg hw)) rfl) ?_;simp only [nf]
     refine pp rfl rfl (pr_build (by rfl) (bd108_0_1 _ _)) ?_;simp only [nf]
     refine plan_buildSliceN rfl rfl hNw528 hH Tryd.underlying29 (by rfl) (bs1 1) ?_
     clear hH
     intro b529 w530 hNw531 hNo532 hH
     (try simp only [nf, nh, Value.cells, arrB_set, spl5a, spl5b] at hH ⊢)
     refine pq rfl rfl (qr_call cf49 (fun w' hw => csmall_calls _ _ w' ((OwnC.sl hH 7 rfl (OwnC.of_bytes rfl)).chg hw)) rfl) ?_;simp only [nf]
     refine pp rfl rfl (pr_build (by rfl) (bd108_0_1 _ _)) ?_;simp only [nf]
     refine plan_storeWN 5 rfl rfl hNw531 hH rfl rfl rfl one_arr64 sz108 (by simp) (by simp) hNo520 ?_
     clear hH
     intro w533 hNw534 hH
     (try simp only [nf, nh, Value.cells, arrB_set, spl5a, spl5b] at hH ⊢)
     refine plan_storeWN 4 rfl rfl hNw534 hH rfl rfl rfl one_arr64 sz108 (by simp) (by simp) hNo428 ?_
     clear hH
     intro w535 hNw536 hH
     (try simp only [nf, nh, Value.cells, arrB_set, spl5a, spl5b] at hH ⊢)
     refine plan_nilN hNw536 hH ?_
     clear hH
     intro w537 hNw538 hH
     refine Pend.done (by kernel_rfl) ?_
     intro w539 hw540
     replace hH := hH.call hw540; clear hw540
     have hH2 := hH.idx [0, 1, 2, 3, 6, 7, 5, 4] 8 rfl (by decide) rfl
     simp only [List.filterMap_cons, List.filterMap_nil, List.getElem?_cons_zero, List.getElem?_cons_succ] at hH2
     exact hrest15 b523 b529 b517 b425 w539 hH2
    ·
     refine plan_buildSliceN rfl rfl hNw522 hH Tryd.underlying29 (by rfl) (bs1 1) ?_
     clear hH
     intro b541 w542 hNw543 hNo544 hH
     (try simp only [nf, nh, Value.cells, arrB_set, spl5a, spl5b] at hH ⊢)
     refine plan_nilN hNw543 hH ?_
     clear hH
     intro w545 hNw546 hH
     refine Pend.plan (n := 0) (Far.chgN N16) (by kernel_rfl) (fun _ _ _ _ _ h => by first | exact h | exact BP.panic _ _ _ _ _ h) [.x 0, .q 1, .q 2, .p 3, .q 6, .p 7, .s 10 (ChgN N16), .s 11 (ChgN N16)] [5, 8, 9, 4] _ _ (by simp [AllR]) (by simp [effects]) (by simp [marked]) (by kernel_rfl) ?_
     refine plan_buildSliceN rfl rfl hNw546 hH Tryd.underlying29 (by rfl) (bs1 1) ?_
     clear hH
     intro b547 w548 hNw549 hNo550 hH
     (try simp only [nf, nh, Value.cells, arrB_set, spl5a, spl5b] at hH ⊢)
     refine pq rfl rfl (qr_call cf49 (fun w' hw => csmall_calls _ _ w' ((OwnC.sl hH 7 rfl (OwnC.of_bytes rfl)).chg hw)) rfl) ?_;simp only [nf]
     refine pq rfl rfl (qr_call cf49 (fun w' hw => csmall_calls _ _ w' (Sl.nil.chg hw)) rfl) ?_;simp only [nf]
     refine pp rfl rfl (pr_build (by rfl) (bd108_0_1 _ _)) ?_;simp only [nf]
     refine pq rfl rfl (qr_call cf49 (fun w' hw => csmall_calls _ _ w' ((OwnC.sl hH 6 rfl (OwnC.of_bytes rfl)).chg hw)) rfl) ?_;simp only [nf]
     refine pp rfl rfl (pr_build (by rfl) (bd108_0_1 _ _)) ?_;simp only [nf]
     refine plan_storeWN 5 rfl rfl hNw549 hH rfl rfl rfl one_arr64 sz108 (by simp) (by simp) hNo520 ?_
     clear hH
     intro w551 hNw552 hH
     (try simp only [nf, nh, Value.cells, arrB_set, spl5a, spl5b] at hH ⊢)
     refine plan_storeWN 4 rfl rfl hNw552 hH rfl rfl rfl one_arr64 sz108 (by simp) (by simp) hNo428 ?_
     clear hH
     intro w553 hNw554 hH
     (try simp only [nf, nh, Value.cells, arrB_set, spl5a, spl5b] at hH ⊢)
     refine plan_nilN hNw554 hH ?_
     clear hH
     intro w555 hNw556 hH
     refine Pend.done (by kernel_rfl) ?_
     intro w557 hw558
     replace hH := hH.call hw558; clear hw558
     have hH2 := hH.idx [0, 1, 2, 3, 7, 6, 5, 4] 8 rfl (by decide) rfl
     simp only [List.filterMap_cons, List.filterMap_nil, List.getElem?_cons_zero, List.getElem?_cons_succ] at hH2
     exact hrest15 b547 b541 b517 b425 w557 hH2
 ·
  intro b559 b560 b561 b562 w563 hH
  refine hK14 _ _ ?_
  (try clear hK14 K14)
  refine wp_seq_k ?_
  intro K564 hK564
  refine wrt [.p 0] ?_
  refine pa ?_;simp only [nf]
  refine plan_nil hH ?_
  clear hH
  intro w565 hH
  refine hK564 _ _ ?_
  (try clear hK564 K564)
  refine wp_seq_k ?_
  intro K566 hK566
  refine wp_seq_k ?_
  intro K567 hK567
  refine wrt [.p 0] ?_
  refine pka 254 ?_;simp only [nf]
  refine plan_nil hH ?_
  clear hH
  intro w568 hH
  refine hK567 _ _ ?_
  (try clear hK567 K567)
  refine wp_block ?_
  obtain ⟨kc569, hkc570, hN⟩ := hH.name 0 rfl
  replace hH := hN; clear hN; simp only [List.set_cons_zero, List.set_cons_succ] at hH
  obtain ⟨kc571, hkc572, hN⟩ := hH.name 1 rfl
  replace hH := hN; clear hN; simp only [List.set_cons_zero, List.set_cons_succ] at hH
  obtain ⟨kc573, hkc574, hN⟩ := hH.name 2 rfl
  replace hH := hN; clear hN; simp only [List.set_cons_zero, List.set_cons_succ] at hH
  obtain ⟨kc575, hkc576, hN⟩ := hH.name 3 rfl
  replace hH := hN; clear hN; simp only [List.set_cons_zero, List.set_cons_succ] at hH
  obtain ⟨kc577, hkc578, hN⟩ := hH.name 4 rfl
  replace hH := hN; clear hN; simp only [List.set_cons_zero, List.set_cons_succ] at hH
  obtain ⟨kc579, hkc580, hN⟩ := hH.name 5 rfl
  replace hH := hN; clear hN; simp only [List.set_cons_zero, List.set_cons_succ] at hH
  refine wp_loopT [8, 9] [10, 21, 22, 23, 24, 25, 26, 27, 28, 29, 30, 31, 32, 33, 34, 35, 36, 37, 38, 39, 40, 41, 42, 43, 44, 45, 46, 47, 48, 49, 50, 51, 52, 53, 54, 55, 56, 57, 58, 59, 60, 61] (fun (n581 : Nat) (vs : List Value) (w' : World) => ∃ (m : Nat), vs = [BV (timL n (fOf a) (255 - m)).2.2, I64 ((m : Int) - 1)] ∧ Hp [] w w' [(some b2, 22, kc569), (some b4, 22, kc571), (some b6, 22, kc573), (some b10, 104, kc575), (some b559, 5, kc577), (some b560, 5, kc579), (some b561, 108, arr64 10 (cat5 (timL n (fOf a) (255 - m)).1.x (timL n (fOf a) (255 - m)).1.z)), (some b562, 108, arr64 10 (cat5 (timL n (fOf a) (255 - m)).2.1.x (timL n (fOf a) (255 - m)).2.1.z))] ∧ n581 = m ∧ m ≤ 255) (255) (by kernel_rfl) ?_ ?_
  ·
   simp only [ga]
   refine ⟨255, rfl, ?_, rfl, ?_⟩
   ·
    exact hH
   · first | omega | (omega)
  clear hH
  intro n581 vs582 w583 hR584 d0
  obtain ⟨m, rfl, hH, hn585, hf586⟩ := hR584
  simp only [putAll, putD, List.set_cons_zero, List.set_cons_succ, Nat.zero_add, Nat.reduceAdd]
  subst hkc570 hkc572 hkc574 hkc576 hkc578 hkc580
  refine wp_seq_k ?_
  intro K587 hK587
  refine wp_seq_k ?_
  intro K588 hK588
  refine wrt [.p 0, .p 1] ?_
  refine pm ?_;simp only [nf]
  refine pp rfl rfl (pr_bin rfl rfl (by first | exact bin_geq_n (n := 0)  | exact bin_geq_i)) ?_;simp only [nf]
  refine plan_nil hH ?_
  clear hH
  intro w589 hH
  refine hK588 _ _ ?_
  (try clear hK588 K588)
  refine wp_cond_split rfl (fun hc590 => ?_) (fun hc590 => ?_)
  ·
   (try simp only [cnd] at hc590)
   obtain ⟨i, rfl⟩ : ∃ i, m = i + 1 := ⟨m - 1, by omega⟩
   rw [show (((i + 1 : Nat) : Int) - 1) = (i : Int) by omega]
   have e : 255 - i = (255 - (i + 1)) + 1 := by omega
   have e2 : 254 - (255 - (i + 1)) = i := by omega
   refine wp_skip ?_
   refine hK587 _ _ ?_
   (try clear hK587 K587)
   refine wp_seq_k ?_
   intro K591 hK591
   refine wp_block ?_
   refine wp_seq_k ?_
   intro K592 hK592
   refine wrt [.q 0, .p 1, .q 2, .p 3] ?_
   refine pq rfl rfl (qr_loadW rfl (hH.blk 0 rfl) Tryd.underlying22 rfl sz22 (by simp)) ?_;simp only [nf]
   refine pm ?_;simp only [nf]
   refine pq rfl rfl (qr_call cf50 (fun w' hw => cbit_calls _ _ w' (by omega)) rfl) ?_;simp only [nf]
   refine pa ?_;simp only [nf]
   refine plan_nil hH ?_
   clear hH
   intro w593 hH
   refine hK592 _ _ ?_
   (try clear hK592 K592)
   refine wp_seq_k ?_
   intro K594 hK594
   refine wrt [.p 0, .p 1, .p 2, .p 3, .q 4, .p 5, .q 6, .q 7, .p 8, .p 9, .p 10, .p 11, .e 12, .p 13, .e 14] ?_
   refine pm (pm ?_);simp only [nf]
   refine pp rfl rfl (pr_bin rfl rfl (bin_neq_b Tryd.underlying4)) ?_;simp only [nf]
   refine pp rfl rfl (pr_fieldAddr 0 rfl Tryd.underlying108 rfl rfl sz104) ?_;simp only [nf]
   refine pq rfl rfl (by first | exact qr_load5a rfl (hH.blk 6 rfl) Tryd.underlying104 rfl sz104 | exact qr_load5b rfl (hH.blk 6 rfl) Tryd.underlying104 rfl sz104) ?_;simp only [nf]
   refine pp rfl rfl (pr_fieldAddr 0 rfl Tryd.underlying108 rfl rfl sz104) ?_;simp only [nf]
   refine pq rfl rfl (by first | exact qr_load5a rfl (hH.blk 7 rfl) Tryd.underlying104 rfl sz104 | exact qr_load5b rfl (hH.blk 7 rfl) Tryd.underlying104 rfl sz104) ?_;simp only [nf]
   refine pq rfl rfl (qr_call cf51 (fun w' hw => fswap_calls _ _ _ w') rfl) ?_;simp only [nf]
   refine pm ?_;simp only [nf]
   refine pp rfl rfl (pr_extract rfl rfl) ?_;simp only [nf]
   refine pp rfl rfl (pr_extract rfl rfl) ?_;simp only [nf]
   refine pp rfl rfl (pr_fieldAddr 0 rfl Tryd.underlying108 rfl rfl sz104) ?_;simp only [nf]
   refine plan_storeN 6 rfl rfl hH rfl rfl rfl one_arr64 sz104 (by simp) (by simp <;> omega) ?_
   clear hH
   intro w595 hH
   (try simp only [nf, nh, Value.cells, arrB_set, spl5a, spl5b] at hH ⊢)
   refine pp rfl rfl (pr_fieldAddr 0 rfl Tryd.underlying108 rfl rfl sz104) ?_;simp only [nf]
   refine plan_storeN 7 rfl rfl hH rfl rfl rfl one_arr64 sz104 (by simp) (by simp <;> omega) ?_
   clear hH
   intro w596 hH
   (try simp only [nf, nh, Value.cells, arrB_set, spl5a, spl5b] at hH ⊢)
   refine plan_nil hH ?_
   clear hH
   intro w597 hH
   refine hK594 _ _ ?_
   (try clear hK594 K594)
   refine wp_seq_k ?_
   intro K598 hK598
   refine wrt [.p 0, .p 1, .p 2, .p 3, .q 4, .p 5, .q 6, .q 7, .p 8, .p 9, .p 10, .p 11, .e 12, .p 13, .e 14] ?_
   refine pm (pm ?_);simp only [nf]
   refine pp rfl rfl (pr_bin rfl rfl (bin_neq_b Tryd.underlying4)) ?_;simp only [nf]
   refine pp rfl rfl (pr_fieldAddr 5 rfl Tryd.underlying108 rfl rfl sz104) ?_;simp only [nf]
   refine pq rfl rfl (by first | exact qr_load5a rfl (hH.blk 6 rfl) Tryd.underlying104 rfl sz104 | exact qr_load5b rfl (hH.blk 6 rfl) Tryd.underlying104 rfl sz104) ?_;simp only [nf]
   refine pp rfl rfl (pr_fieldAddr 5 rfl Tryd.underlying108 rfl rfl sz104) ?_;simp only [nf]
   refine pq rfl rfl (by first | exact qr_load5a rfl (hH.blk 7 rfl) Tryd.underlying104 rfl sz104 | exact qr_load5b rfl (hH.blk 7 rfl) Tryd.underlying104 rfl sz104) ?_;simp only [nf]
   refine pq rfl rfl (qr_call cf51 (fun w' hw => fswap_calls _ _ _ w') rfl) ?_;simp only [nf]
   refine pm ?_;simp only [nf]
   refine pp rfl rfl (pr_extract rfl rfl) ?_;simp only [nf]
   refine pp rfl rfl (pr_extract rfl rfl) ?_;simp only [nf]
   refine pp rfl rfl (pr_fieldAddr 5 rfl Tryd.underlying108 rfl rfl sz104) ?_;simp only [nf]
   refine plan_storeN 6 rfl rfl hH rfl rfl rfl one_arr64 sz104 (by simp) (by simp <;> omega) ?_
   clear hH
   intro w599 hH
   (try simp only [nf, nh, Value.cells, arrB_set, spl5a, spl5b] at hH ⊢)
   refine pp rfl rfl (pr_fieldAddr 5 rfl Tryd.underlying108 rfl rfl sz104) ?_;simp only [nf]
   refine plan_storeN 7 rfl rfl hH rfl rfl rfl one_arr64 sz104 (by simp) (by simp <;> omega) ?_
   clear hH
   intro w600 hH
   (try simp only [nf, nh, Value.cells, arrB_set, spl5a, spl5b] at hH ⊢)
   refine plan_nil hH ?_
   clear hH
   intro w601 hH
   refine hK598 _ _ ?_
   (try clear hK598 K598)
   refine wp_seq_k ?_
   intro K602 hK602
   refine wrt [.q 0, .q 1, .q 2, .q 3, .p 4, .p 5, .p 6, .e 7, .e 8] ?_
   refine pq rfl rfl (qr_loadW rfl (hH.blk 6 rfl) Tryd.underlying108 rfl sz108 (by simp)) ?_;simp only [nf]
   refine pq rfl rfl (qr_loadW rfl (hH.blk 7 rfl) Tryd.underlying108 rfl sz108 (by simp)) ?_;simp only [nf]
   refine pq rfl rfl (qr_loadW rfl (hH.blk 3 rfl) Tryd.underlying104 rfl sz104 (by simp)) ?_;simp only [nf]
   refine pq rfl rfl (qr_call cf52 (fun w' hw => cstep_calls ⟨_, _⟩ ⟨_, _⟩ _ w') rfl) ?_;simp only [nf]
   refine pm ?_;simp only [nf]
   refine pp rfl rfl (pr_extract rfl rfl) ?_;simp only [nf]
   refine pp rfl rfl (pr_extract rfl rfl) ?_;simp only [nf]
   refine plan_storeW 6 rfl rfl hH rfl rfl rfl one_arr64 sz108 (by simp) (by simp) ?_
   clear hH
   intro w603 hH
   (try simp only [nf, nh, Value.cells, arrB_set, spl5a, spl5b] at hH ⊢)
   refine plan_storeW 7 rfl rfl hH rfl rfl rfl one_arr64 sz108 (by simp) (by simp) ?_
   clear hH
   intro w604 hH
   (try simp only [nf, nh, Value.cells, arrB_set, spl5a, spl5b] at hH ⊢)
   refine plan_nil hH ?_
   clear hH
   intro w605 hH
   refine hK602 _ _ ?_
   (try clear hK602 K602)
   refine wrt [.p 0, .p 1] ?_
   refine pm (pa ?_);simp only [nf]
   refine plan_nil hH ?_
   clear hH
   intro w606 hH
   refine hK591 _ _ ?_
   (try clear hK591 K591)
   refine wrt [.p 0, .p 1, .p 2] ?_
   refine pm ?_;simp only [nf]
   refine pp rfl rfl (pr_bin rfl rfl (by first | exact bin_sub_n (n := 1) (by omega) (by omega) | exact bin_sub_i (by omega) (by omega))) ?_;simp only [nf]
   refine pa ?_;simp only [nf]
   refine plan_nil hH ?_
   clear hH
   intro w607 hH
   (try simp only [Exit.then, Exit.inBlock, ↓reduceIte, Nat.reduceEqDiff])
   try rw [show (((i - 1 : Nat) : Int)) = (i : Int) - 1 by omega]
   rw [show bitN n i = (timL n (fOf a) (255 - i)).2.2 by rw [e, timL_3, e2]]
   refine ⟨i, ?_, _, rfl, by kernel_rfl, ?_⟩
   · first | omega | (omega)
   simp only [ga]
   refine ⟨i, rfl, ?_, rfl, ?_⟩
   ·
    rw [e, timL_1, timL_2, e2]
    exact hH
   · first | omega | (omega)
  ·
   (try simp only [cnd] at hc590)
   refine wp_exit ?_
   (try simp only [Exit.then, Exit.inBlock, ↓reduceIte, Nat.reduceEqDiff])
   refine hK566 _ _ ?_
   (try clear hK566 K566)
   refine wp_seq_k ?_
   intro K608 hK608
   refine wrt [.p 0, .p 1, .q 2, .p 3, .q 4, .q 5, .p 6, .p 7, .p 8, .p 9, .e 10] ?_
   refine pm ?_;simp only [nf]
   refine pp rfl rfl (pr_fieldAddr 0 rfl Tryd.underlying108 rfl rfl sz104) ?_;simp only [nf]
   refine pq rfl rfl (by first | exact qr_load5a rfl (hH.blk 6 rfl) Tryd.underlying104 rfl sz104 | exact qr_load5b rfl (hH.blk 6 rfl) Tryd.underlying104 rfl sz104) ?_;simp only [nf]
   refine pp rfl rfl (pr_fieldAddr 0 rfl Tryd.underlying108 rfl rfl sz104) ?_;simp only [nf]
   refine pq rfl rfl (by first | exact qr_load5a rfl (hH.blk 7 rfl) Tryd.underlying104 rfl sz104 | exact qr_load5b rfl (hH.blk 7 rfl) Tryd.underlying104 rfl sz104) ?_;simp only [nf]
   refine pq rfl rfl (qr_call cf51 (fun w' hw => fswap_calls _ _ _ w') rfl) ?_;simp only [nf]
   refine pm ?_;simp only [nf]
   refine pp rfl rfl (pr_extract rfl rfl) ?_;simp only [nf]
   refine pp rfl rfl (pr_extract rfl rfl) ?_;simp only [nf]
   refine pp rfl rfl (pr_fieldAddr 0 rfl Tryd.underlying108 rfl rfl sz104) ?_;simp only [nf]
   refine plan_storeN 6 rfl rfl hH rfl rfl rfl one_arr64 sz104 (by simp) (by simp <;> omega) ?_
   clear hH
   intro w609 hH
   (try simp only [nf, nh, Value.cells, arrB_set, spl5a, spl5b] at hH ⊢)
   refine plan_nil hH ?_
   clear hH
   intro w610 hH
   refine hK608 _ _ ?_
   (try clear hK608 K608)
   refine wp_seq_k ?_
   intro K611 hK611
   refine wrt [.p 0, .p 1, .q 2, .p 3, .q 4, .q 5, .p 6, .p 7, .p 8, .p 9, .e 10] ?_
   refine pm ?_;simp only [nf]
   refine pp rfl rfl (pr_fieldAddr 5 rfl Tryd.underlying108 rfl rfl sz104) ?_;simp only [nf]
   refine pq rfl rfl (by first | exact qr_load5a rfl (hH.blk 6 rfl) Tryd.underlying104 rfl sz104 | exact qr_load5b rfl (hH.blk 6 rfl) Tryd.underlying104 rfl sz104) ?_;simp only [nf]
   refine pp rfl rfl (pr_fieldAddr 5 rfl Tryd.underlying108 rfl rfl sz104) ?_;simp only [nf]
   refine pq rfl rfl (by first | exact qr_load5a rfl (hH.blk 7 rfl) Tryd.underlying104 rfl sz104 | exact qr_load5b rfl (hH.blk 7 rfl) Tryd.underlying104 rfl sz104) ?_;simp only [nf]
   refine pq rfl rfl (qr_call cf51 (fun w' hw => fswap_calls _ _ _ w') rfl) ?_;simp only [nf]
   refine pm ?_;simp only [nf]
   refine pp rfl rfl (pr_extract rfl rfl) ?_;simp only [nf]
   refine pp rfl rfl (pr_extract rfl rfl) ?_;simp only [nf]
   refine pp rfl rfl (pr_fieldAddr 5 rfl Tryd.underlying108 rfl rfl sz104) ?_;simp only [nf]
   refine plan_storeN 6 rfl rfl hH rfl rfl rfl one_arr64 sz104 (by simp) (by simp <;> omega) ?_
   clear hH
   intro w612 hH
   (try simp only [nf, nh, Value.cells, arrB_set, spl5a, spl5b] at hH ⊢)
   refine plan_nil hH ?_
   clear hH
   intro w613 hH
   refine hK611 _ _ ?_
   (try clear hK611 K611)
   refine wp_seq_k ?_
   intro K614 hK614
   refine wrp [.p 0, .p 2, .q 1, .q 3, .q 4, .q 5, .q 6, .e 7] ?_
   refine pp rfl rfl (pr_fieldAddr 0 rfl Tryd.underlying108 rfl rfl sz104) ?_;simp only [nf]
   refine pp rfl rfl (pr_fieldAddr 5 rfl Tryd.underlying108 rfl rfl sz104) ?_;simp only [nf]
   refine pq rfl rfl (by first | exact qr_load5a rfl (hH.blk 6 rfl) Tryd.underlying104 rfl sz104 | exact qr_load5b rfl (hH.blk 6 rfl) Tryd.underlying104 rfl sz104) ?_;simp only [nf]
   refine pq rfl rfl (by first | exact qr_load5a rfl (hH.blk 6 rfl) Tryd.underlying104 rfl sz104 | exact qr_load5b rfl (hH.blk 6 rfl) Tryd.underlying104 rfl sz104) ?_;simp only [nf]
   refine pq rfl rfl (qr_call cf54 (fun w' hw => finv_calls _ w') rfl) ?_;simp only [nf]
   refine pq rfl rfl (qr_call cf53 (fun w' hw => fmul_calls _ _ w') rfl) ?_;simp only [nf]
   refine pq rfl rfl (qr_call cf55 (fun w' hw => fbytes_calls _ w') rfl) ?_;simp only [nf]
   refine plan_storeW 2 rfl rfl hH rfl rfl rfl one_arr8 sz22 (by simp) (by simp) ?_
   clear hH
   intro w615 hH
   (try simp only [nf, nh, Value.cells, arrB_set, spl5a, spl5b] at hH ⊢)
   refine plan_nil hH ?_
   clear hH
   intro w616 hH
   refine hK614 _ _ ?_
   (try clear hK614 K614)
   refine wp_ret ?_
   (try simp only [Exit.then, Exit.inBlock, ↓reduceIte, Nat.reduceEqDiff])
   refine BP.retc rfl rfl (hH.blk 2 rfl) Tryd.underlying22 rfl sz22 (by simp) ?_
   obtain rfl : m = 0 := by omega
   exact ⟨rfl, hH.chg⟩
def base9 : Nat → UInt8 := fun i => if i = 0 then 9 else 0
theorem cpublic_calls (k : Nat → UInt8) (w : World) : Ret Tryd.prog 6 #[.agg (arr8 32 k)] w fun v w' => v = .agg (arr8 32 (fTimes k base9)) ∧ Chg [] w w' := by
 refine Ret.enter Tryd.func6 rfl ?_
 simp only [Tryd.ntmps6, fe, Nat.reduceAdd, Nat.reduceSub]
 have hH := Hp.start [] w
 refine wp_seq_k ?_
 intro K1 hK1
 refine wrt [.x 0, .x 1] ?_
 refine plan_box rfl rfl hH rfl ?_
 clear hH
 intro b2 w3 hH
 (try simp only [nf, nh, Value.cells, arrB_set] at hH ⊢)
 refine plan_alloc rfl rfl hH zc22 ?_
 clear hH
 intro b4 w5 hH
 (try simp only [nf, nh, Value.cells, arrB_set] at hH ⊢)
 refine plan_nil hH ?_
 clear hH
 intro w6 hH
 refine hK1 _ _ ?_
 (try clear hK1 K1)
 refine wp_seq_k ?_
 intro K7 hK7
 refine wrt [.q 0, .p 1, .q 2, .e 3] ?_
 refine pq rfl rfl (qr_loadW rfl (hH.blk 0 rfl) Tryd.underlying22 rfl sz22 (by simp)) ?_;simp only [nf]
 refine pp rfl rfl (pr_build (by rfl) (bp22_1 9)) ?_;simp only [nf]
 refine pq rfl rfl (qr_call cf20 (fun w' hw => ctimes_calls _ _ w') rfl) ?_;simp only [nf]
 refine plan_storeW 1 rfl rfl hH rfl rfl rfl one_arr8 sz22 (by simp) (by simp) ?_
 clear hH
 intro w8 hH
 (try simp only [nf, nh, Value.cells, arrB_set] at hH ⊢)
 refine plan_nil hH ?_
 clear hH
 intro w9 hH
 refine hK7 _ _ ?_
 (try clear hK7 K7)
 refine wp_ret ?_
 (try simp only [Exit.then, Exit.inBlock, ↓reduceIte, Nat.reduceEqDiff])
 refine BP.retc rfl rfl (hH.blk 1 rfl) Tryd.underlying22 rfl sz22 (by simp) ?_
 exact ⟨rfl, hH.chg⟩
theorem cshared_calls (k p : Nat → UInt8) (w : World) (hz : ((List.range 32).all fun i => fTimes k p i == 0) = false) : Ret Tryd.prog 5 #[.agg (arr8 32 k), .agg (arr8 32 p)] w fun v w' => v = .tuple #[.agg (arr8 32 (fTimes k p)), I64 (0 : Nat)] ∧ Chg [] w w' := by
 refine Ret.enter Tryd.func5 rfl ?_
 simp only [Tryd.ntmps5, fe, Nat.reduceAdd, Nat.reduceSub]
 have hH := Hp.start [] w
 refine wp_seq_k ?_
 intro K1 hK1
 refine wrt [.x 0, .x 1, .x 2, .p 3] ?_
 refine plan_box rfl rfl hH rfl ?_
 clear hH
 intro b2 w3 hH
 (try simp only [nf, nh, Value.cells, arrB_set] at hH ⊢)
 refine plan_box rfl rfl hH rfl ?_
 clear hH
 intro b4 w5 hH
 (try simp only [nf, nh, Value.cells, arrB_set] at hH ⊢)
 refine plan_alloc rfl rfl hH zc22 ?_
 clear hH
 intro b6 w7 hH
 (try simp only [nf, nh, Value.cells, arrB_set] at hH ⊢)
 refine pka 0 ?_;simp only [nf]
 refine plan_nil hH ?_
 clear hH
 intro w8 hH
 refine hK1 _ _ ?_
 (try clear hK1 K1)
 refine wp_seq_k ?_
 intro K9 hK9
 refine wrt [.q 0, .q 1, .q 2, .x 3, .e 4] ?_
 refine pq rfl rfl (qr_loadW rfl (hH.blk 0 rfl) Tryd.underlying22 rfl sz22 (by simp)) ?_;simp only [nf]
 refine pq rfl rfl (qr_loadW rfl (hH.blk 1 rfl) Tryd.underlying22 rfl sz22 (by simp)) ?_;simp only [nf]
 refine pq rfl rfl (qr_call cf20 (fun w' hw => ctimes_calls _ _ w') rfl) ?_;simp only [nf]
 refine plan_alloc rfl rfl hH zc22 ?_
 clear hH
 intro b10 w11 hH
 (try simp only [nf, nh, Value.cells, arrB_set] at hH ⊢)
 refine plan_storeW 3 rfl rfl hH rfl rfl rfl one_arr8 sz22 (by simp) (by simp) ?_
 clear hH
 intro w12 hH
 (try simp only [nf, nh, Value.cells, arrB_set] at hH ⊢)
 refine plan_nil hH ?_
 clear hH
 intro w13 hH
 refine hK9 _ _ ?_
 (try clear hK9 K9)
 refine wp_seq_k ?_
 intro K14 hK14
 refine wp_seq_k ?_
 intro K15 hK15
 refine wrt [.q 0, .p 1, .p 2] ?_
 refine pq rfl rfl (qr_loadW rfl (hH.blk 3 rfl) Tryd.underlying22 rfl sz22 (by simp)) ?_;simp only [nf]
 refine pp rfl rfl (pr_build (by rfl) (bp22_0 )) ?_;simp only [nf]
 refine pp rfl rfl (pr_bin rfl rfl (bin_eql_arr8 Tryd.underlying22 Tryd.underlying5 sz5 Tryd.eqGuardType22)) ?_;simp only [nf]
 refine plan_nil hH ?_
 clear hH
 intro w16 hH
 refine hK15 _ _ ?_
 (try clear hK15 K15)
 refine wp_cond_false (by show BV _ = _; rw [hz]) ?_
 refine wp_skip ?_
 refine hK14 _ _ ?_
 (try clear hK14 K14)
 refine wp_seq_k ?_
 intro K17 hK17
 refine wrt [.q 0, .e 1, .p 2] ?_
 refine pq rfl rfl (qr_loadW rfl (hH.blk 3 rfl) Tryd.underlying22 rfl sz22 (by simp)) ?_;simp only [nf]
 refine plan_storeW 2 rfl rfl hH rfl rfl rfl one_arr8 sz22 (by simp) (by simp) ?_
 clear hH
 intro w18 hH
 (try simp only [nf, nh, Value.cells, arrB_set] at hH ⊢)
 refine pka 0 ?_;simp only [nf]
 refine plan_nil hH ?_
 clear hH
 intro w19 hH
 refine hK17 _ _ ?_
 (try clear hK17 K17)
 refine wp_ret ?_
 (try simp only [Exit.then, Exit.inBlock, ↓reduceIte, Nat.reduceEqDiff])
 refine BP.retct rfl rfl rfl (hH.blk 2 rfl) Tryd.underlying22 rfl sz22 (by simp) ?_
 exact ⟨rfl, hH.chg⟩
end Go.Proofs.YtdkjdioccpoacaaDoor
set_option linter.unusedSimpArgs false
set_option linter.unusedVariables false
set_option maxHeartbeats 4000000
set_option maxRecDepth 100000
namespace Go.Proofs.YtdkjdioccpoacaaDoor
def Pr (n : Nat) : Prop := 2 ≤ n ∧ ∀ m, m ∣ n → m = 1 ∨ m = n
theorem Pr.coprime {q m : Nat} (h : Pr q) (hd : ¬ q ∣ m) : Nat.Coprime q m := by
  rcases h.2 (Nat.gcd q m) (Nat.gcd_dvd_left q m) with h1 | h1
  · exact h1
  · exact absurd (h1 ▸ Nat.gcd_dvd_right q m) hd
theorem Pr.dvd_mul {q a b : Nat} (h : Pr q) (hd : q ∣ a * b) : q ∣ a ∨ q ∣ b := by
  by_cases ha : q ∣ a
  · exact .inl ha
  · exact .inr ((h.coprime ha).dvd_of_dvd_mul_left hd)
def ch : Nat → Nat → Nat
  | _, 0 => 1
  | 0, _ + 1 => 0
  | n + 1, k + 1 => ch n k + ch n (k + 1)
theorem ch_gt : ∀ n k, n < k → ch n k = 0
  | 0, _ + 1, _ => rfl
  | n + 1, k + 1, h => by
    show ch n k + ch n (k + 1) = 0
    rw [ch_gt n k (by omega), ch_gt n (k + 1) (by omega)]
theorem ch_self : ∀ n, ch n n = 1
  | 0 => rfl
  | n + 1 => by
    show ch n n + ch n (n + 1) = 1
    rw [ch_self n, ch_gt n (n + 1) (by omega)]
theorem ch_mul : ∀ n k, (k + 1) * ch (n + 1) (k + 1) = (n + 1) * ch n k
  | 0, 0 => rfl
  | 0, k + 1 => by
    show (k + 1 + 1) * (ch 0 (k + 1) + ch 0 (k + 2)) = _
    simp [ch]
  | n + 1, 0 => by
    have ih := ch_mul n 0
    show 1 * (ch (n + 1) 0 + ch (n + 1) 1) = _
    simp only [ch, Nat.zero_add, Nat.one_mul, Nat.mul_one] at *
    omega
  | n + 1, k + 1 => by
    have h1 := ch_mul n k
    have h2 := ch_mul n (k + 1)
    have e1 : ch (n + 2) (k + 2) = ch (n + 1) (k + 1) + ch (n + 1) (k + 2) := rfl
    have e2 : ch (n + 1) (k + 1) = ch n k + ch n (k + 1) := rfl
    show (k + 2) * ch (n + 2) (k + 2) = (n + 2) * ch (n + 1) (k + 1)
    rw [e1, Nat.mul_add, show (k + 2) * ch (n + 1) (k + 2) = (n + 1) * ch n (k + 1) from h2]
    rw [show (k + 2) * ch (n + 1) (k + 1) = (k + 1) * ch (n + 1) (k + 1) + ch (n + 1) (k + 1) by rw [← Nat.succ_mul], h1]
    rw [show (n + 2) * ch (n + 1) (k + 1) = (n + 1) * ch (n + 1) (k + 1) + ch (n + 1) (k + 1) by rw [← Nat.succ_mul], e2, Nat.mul_add]
    omega
theorem ch_dvd {q : Nat} (h : Pr q) {k : Nat} (h0 : 0 < k) (hk : k < q) : q ∣ ch q k := by
  obtain ⟨n, rfl⟩ : ∃ n, q = n + 1 := ⟨q - 1, by omega⟩
  obtain ⟨j, rfl⟩ : ∃ j, k = j + 1 := ⟨k - 1, by omega⟩
  have e := ch_mul n j
  have hd : (n + 1) ∣ (j + 1) * ch (n + 1) (j + 1) := ⟨_, e⟩
  rcases h.dvd_mul hd with h1 | h1
  · exact absurd (Nat.le_of_dvd (by omega) h1) (by omega)
  · exact h1
def bs (n x : Nat) : Nat → Nat
  | 0 => 0
  | m + 1 => bs n x m + ch n m * x ^ m
theorem bs_step (n x : Nat) : ∀ m, bs (n + 1) x (m + 1) = bs n x (m + 1) + x * bs n x m
  | 0 => by simp [bs, ch]
  | m + 1 => by
    have ih := bs_step n x m
    show bs (n + 1) x (m + 1) + ch (n + 1) (m + 1) * x ^ (m + 1) = bs n x (m + 1) + ch n (m + 1) * x ^ (m + 1) + x * (bs n x m + ch n m * x ^ m)
    rw [ih, show ch (n + 1) (m + 1) = ch n m + ch n (m + 1) from rfl, Nat.add_mul, Nat.mul_add, show x * (ch n m * x ^ m) = ch n m * x ^ (m + 1) by rw [Nat.pow_succ, Nat.mul_left_comm, Nat.mul_comm x]]
    omega
theorem bs_top (n x : Nat) : bs n x (n + 2) = bs n x (n + 1) := by
  show bs n x (n + 1) + ch n (n + 1) * x ^ (n + 1) = _
  rw [ch_gt n (n + 1) (by omega), Nat.zero_mul, Nat.add_zero]
theorem binom (x : Nat) : ∀ n, (x + 1) ^ n = bs n x (n + 1)
  | 0 => by simp [bs, ch]
  | n + 1 => by
    rw [bs_step, bs_top, Nat.pow_succ, binom x n, Nat.mul_add, Nat.mul_one, Nat.mul_comm]; omega
theorem bs_mod {q : Nat} (h : Pr q) (x : Nat) : ∀ m, m + 1 ≤ q → bs q x (m + 1) % q = 1 % q
  | 0, _ => by simp [bs, ch]
  | m + 1, hm => by
    show (bs q x (m + 1) + ch q (m + 1) * x ^ (m + 1)) % q = _
    obtain ⟨c, hc⟩ := ch_dvd h (show 0 < m + 1 by omega) (show m + 1 < q by omega)
    rw [hc, Nat.mul_assoc, Nat.add_mul_mod_self_left]
    exact bs_mod h x m (by omega)
theorem frob {q : Nat} (h : Pr q) (x : Nat) : (x + 1) ^ q % q = (x ^ q + 1) % q := by
  have h2 := h.1
  obtain ⟨n, rfl⟩ : ∃ n, q = n + 1 := ⟨q - 1, by omega⟩
  rw [binom]
  show (bs (n + 1) x (n + 1) + ch (n + 1) (n + 1) * x ^ (n + 1)) % (n + 1) = _
  rw [ch_self, Nat.one_mul, Nat.add_mod, bs_mod h x n (Nat.le_refl _), ← Nat.add_mod, Nat.add_comm]
theorem fermat {q : Nat} (h : Pr q) : ∀ x : Nat, x ^ q % q = x % q
  | 0 => by
    have := h.1
    rw [Nat.zero_pow (by omega)]
  | x + 1 => by rw [frob h x, Nat.add_mod, fermat h x, ← Nat.add_mod]
theorem fermat1 {q : Nat} (h : Pr q) {x : Nat} (hx : ¬ q ∣ x) : x ^ (q - 1) % q = 1 := by
  have h2 := h.1
  have e := fermat h x
  have hpos : 1 ≤ x ^ (q - 1) := Nat.one_le_iff_ne_zero.2 fun h0 => by
    have : x = 0 := by
      rcases Nat.eq_zero_or_pos x with h | h
      · exact h
      · exact absurd h0 (Nat.pos_iff_ne_zero.1 (Nat.pow_pos h))
    exact hx (this ▸ Nat.dvd_zero q)
  have e1 : x ^ q = x ^ (q - 1) * x := by rw [← Nat.pow_succ]; congr 1; omega
  have hd : q ∣ (x ^ (q - 1) - 1) * x := by
    rw [Nat.sub_mul, Nat.one_mul, ← e1]
    exact Nat.dvd_of_mod_eq_zero (Nat.sub_mod_eq_zero_of_mod_eq e)
  rcases h.dvd_mul hd with h3 | h3
  · obtain ⟨c, hc⟩ := h3
    rw [show x ^ (q - 1) = 1 + q * c by omega, Nat.add_mul_mod_self_left, Nat.mod_eq_of_lt (by omega)]
  · exact absurd h3 hx
theorem mul_one_mod {r a b : Nat} (ha : a % r = 1 % r) : (a * b) % r = b % r := by
  rw [Nat.mul_mod, ha, ← Nat.mul_mod, Nat.one_mul]
theorem pow_one_mod {r a : Nat} (ha : a % r = 1 % r) : ∀ n, a ^ n % r = 1 % r
  | 0 => by rw [Nat.pow_zero]
  | n + 1 => by rw [Nat.pow_succ, Nat.mul_comm, mul_one_mod ha, pow_one_mod ha n]
theorem pow_gcd {r x : Nat} (m n : Nat) : x ^ m % r = 1 % r → x ^ n % r = 1 % r → x ^ (Nat.gcd m n) % r = 1 % r := by
  induction m, n using Nat.gcd.induction with
  | H0 n => intro _ h; rw [Nat.gcd_zero_left]; exact h
  | H1 m n hm ih =>
    intro h1 h2
    rw [Nat.gcd_rec]
    refine ih ?_ h1
    have e : x ^ n = (x ^ m) ^ (n / m) * x ^ (n % m) := by rw [← Nat.pow_mul, ← Nat.pow_add, Nat.div_add_mod]
    rw [e, mul_one_mod (pow_one_mod h1 _)] at h2
    exact h2
theorem pr_factor : ∀ n, 2 ≤ n → ∃ r, Pr r ∧ r ∣ n ∧ (r = n ∨ r * r ≤ n) := by
  intro n
  induction n using Nat.strongRecOn with
  | _ n ih =>
    intro h2
    by_cases hp : Pr n
    · exact ⟨n, hp, Nat.dvd_refl n, .inl rfl⟩
    · have : ∃ m, m ∣ n ∧ m ≠ 1 ∧ m ≠ n := by
        apply Classical.byContradiction
        intro hno
        exact hp ⟨h2, fun m hm => Classical.byContradiction fun h => hno ⟨m, hm, fun e => h (.inl e), fun e => h (.inr e)⟩⟩
      obtain ⟨m, hm, h1, hn⟩ := this
      obtain ⟨c, hc⟩ := hm
      have hm0 : m ≠ 0 := by rintro rfl; omega
      have hc0 : c ≠ 0 := by rintro rfl; omega
      have hc1 : c ≠ 1 := by rintro rfl; omega
      have key : ∀ a b, a * b = n → 2 ≤ a → a ≤ b → a < n → ∃ r, Pr r ∧ r ∣ n ∧ (r = n ∨ r * r ≤ n) := by
        intro a b hab ha hle hlt
        obtain ⟨r, hr, hd, _⟩ := ih a hlt ha
        refine ⟨r, hr, Nat.dvd_trans hd ⟨b, hab.symm⟩, .inr ?_⟩
        have : r ≤ a := Nat.le_of_dvd (by omega) hd
        calc r * r ≤ a * b := Nat.mul_le_mul this (Nat.le_trans this hle)
          _ = n := hab
      have hmn : m < n := Nat.lt_of_le_of_ne (Nat.le_of_dvd (by omega) ⟨c, hc⟩) hn
      have hcn : c < n := by
        rw [hc]
        have : 1 * c < m * c := Nat.mul_lt_mul_of_pos_right (by omega) (by omega)
        omega
      rcases Nat.le_total m c with h | h
      · exact key m c hc.symm (by omega) h hmn
      · exact key c m (by rw [Nat.mul_comm]; exact hc.symm) (by omega) h hcn
theorem pock1 {n q a r : Nat} (hq : Pr q) (hqn : q ∣ n - 1) (h1 : a ^ (n - 1) % n = 1 % n) (hg : Nat.gcd (a ^ ((n - 1) / q) + (n - 1)) n = 1) (hr : Pr r) (hrn : r ∣ n) (hn : 2 ≤ n) : q ∣ r - 1 := by
  have hr2 := hr.1
  have down : ∀ {x y : Nat}, x % n = y % n → x % r = y % r := fun {x y} h => by
    have := congrArg (· % r) h
    simpa [Nat.mod_mod_of_dvd _ hrn] using this
  have h1r := down h1
  have hra : ¬ r ∣ a := fun hd => by
    have : a ^ (n - 1) % r = 0 := Nat.mod_eq_zero_of_dvd (Nat.dvd_trans hd (by obtain ⟨k, hk⟩ : ∃ k, n - 1 = k + 1 := ⟨n - 2, by omega⟩; rw [hk, Nat.pow_succ]; exact Nat.dvd_mul_left _ _))
    rw [this, Nat.mod_eq_of_lt (by omega)] at h1r; omega
  apply Classical.byContradiction
  intro hno
  have hf := fermat1 hr hra
  have hb1 : (a ^ ((n - 1) / q)) ^ q % r = 1 % r := by rw [← Nat.pow_mul, Nat.div_mul_cancel hqn]; exact h1r
  have hb2 : (a ^ ((n - 1) / q)) ^ (r - 1) % r = 1 % r := by
    rw [← Nat.pow_mul, Nat.mul_comm, Nat.pow_mul]
    exact pow_one_mod (by rw [hf, Nat.mod_eq_of_lt (by omega)]) _
  have hb := pow_gcd q (r - 1) hb1 hb2
  rw [show Nat.gcd q (r - 1) = 1 from hq.coprime hno, Nat.pow_one] at hb
  have hd : r ∣ a ^ ((n - 1) / q) + (n - 1) := by
    apply Nat.dvd_of_mod_eq_zero
    rw [Nat.add_mod, hb, ← Nat.add_mod, show 1 + (n - 1) = n by omega]
    exact Nat.mod_eq_zero_of_dvd hrn
  have := Nat.dvd_gcd hd hrn
  rw [hg] at this
  exact absurd (Nat.le_of_dvd (by decide) this) (by omega)
theorem pr_of {n F : Nat} (hn : 2 ≤ n) (hF : n < (F + 1) * (F + 1)) (h : ∀ r, Pr r → r ∣ n → F ∣ r - 1) : Pr n := by
  obtain ⟨r, hr, hd, rfl | hle⟩ := pr_factor n hn
  · exact hr
  · exfalso
    have h1 := h r hr hd
    have h2 := hr.1
    have h3 : F ≤ r - 1 := Nat.le_of_dvd (by omega) h1
    have : (F + 1) * (F + 1) ≤ r * r := Nat.mul_le_mul (by omega) (by omega)
    omega
def ofBits (l : List Bool) : Nat := l.foldl (fun e b => 2 * e + b.toNat) 0
def pmod (n a : Nat) (l : List Bool) : Nat := l.foldl (fun x b => if b then x * x % n * a % n else x * x % n) (1 % n)
theorem pmod_is (n a : Nat) (l : List Bool) : pmod n a l = a ^ ofBits l % n := by
  have key : ∀ (l : List Bool) (e x : Nat), x = a ^ e % n → l.foldl (fun x b => if b then x * x % n * a % n else x * x % n) x = a ^ l.foldl (fun e b => 2 * e + b.toNat) e % n := by
    intro l
    induction l with
    | nil => intro e x h; exact h
    | cons b l ih =>
      intro e x h
      refine ih _ _ ?_
      subst h
      cases b with
      | true =>
        show a ^ e % n * (a ^ e % n) % n * a % n = _
        show _ = a ^ (2 * e + 1) % n
        rw [← Nat.mul_mod, show 2 * e + 1 = e + e + 1 by omega, Nat.pow_succ, Nat.pow_add, ← Nat.mul_mod_mod, Nat.mod_mul_mod, Nat.mul_mod_mod]
      | false =>
        show a ^ e % n * (a ^ e % n) % n = _
        show _ = a ^ (2 * e + 0) % n
        rw [← Nat.mul_mod, show 2 * e + 0 = e + e by omega, Nat.pow_add]
  exact key l 0 _ (by rw [Nat.pow_zero])
def bitsF : Nat → Nat → List Bool
  | 0, _ => []
  | k + 1, n => bitsF k (n / 2) ++ [n % 2 == 1]
theorem ofBits_app (l : List Bool) (b : Bool) : ofBits (l ++ [b]) = 2 * ofBits l + b.toNat := by
  unfold ofBits; rw [List.foldl_append]; rfl
theorem ofBits_bits : ∀ k n, n < 2 ^ k → ofBits (bitsF k n) = n
  | 0, n, h => by
    have : n = 0 := by simpa using h
    subst this; rfl
  | k + 1, n, h => by
    show ofBits (bitsF k (n / 2) ++ [n % 2 == 1]) = n
    rw [ofBits_app, ofBits_bits k (n / 2) (by rw [Nat.pow_succ] at h; omega)]
    have hb : (n % 2 == 1).toNat = n % 2 := by
      rcases Nat.mod_two_eq_zero_or_one n with h | h <;> rw [h] <;> rfl
    rw [hb]; omega
theorem pow_of {n a k e b : Nat} (hk : e < 2 ^ k) (h : pmod n a (bitsF k e) = b) : a ^ e % n = b := by
  rw [pmod_is, ofBits_bits k e hk] at h; exact h
theorem pock2 {n q a e b k1 k2 : Nat} (hn : 2 ≤ n) (hq : Pr q) (he : n - 1 = e * q) (hk1 : e < 2 ^ k1) (hk2 : q < 2 ^ k2) (hb : pmod n a (bitsF k1 e) = b) (h1 : pmod n b (bitsF k2 q) = 1 % n) (hg : Nat.gcd (b + (n - 1)) n = 1) : ∀ r, Pr r → r ∣ n → q ∣ r - 1 := by
  intro r hr hrn
  have hb := pow_of hk1 hb
  have h1 := pow_of hk2 h1
  have hq0 : 0 < q := by have := hq.1; omega
  have hdiv : (n - 1) / q = e := by rw [he]; exact Nat.mul_div_cancel _ hq0
  refine pock1 (a := a) hq ⟨e, by rw [he, Nat.mul_comm]⟩ ?_ ?_ hr hrn hn
  · rw [he, Nat.pow_mul, ← h1, ← hb]
    exact (Nat.pow_mod _ _ _)
  · rw [hdiv]
    have hd := hg
    have hdn : Nat.gcd (a ^ e + (n - 1)) n ∣ n := Nat.gcd_dvd_right _ _
    have h3 : Nat.gcd (a ^ e + (n - 1)) n ∣ a ^ e + (n - 1) := Nat.gcd_dvd_left _ _
    have h4 : a ^ e = n * (a ^ e / n) + b := by rw [← hb]; exact (Nat.div_add_mod _ _).symm
    have h5 : Nat.gcd (a ^ e + (n - 1)) n ∣ b + (n - 1) := by
      have e5 : a ^ e + (n - 1) = n * (a ^ e / n) + (b + (n - 1)) := by omega
      have h7 : Nat.gcd (a ^ e + (n - 1)) n ∣ n * (a ^ e / n) := Nat.dvd_trans hdn (Nat.dvd_mul_right n _)
      generalize Nat.gcd (a ^ e + (n - 1)) n = g at *
      rw [e5] at h3
      exact (Nat.dvd_add_right h7).1 h3
    have h6 := Nat.dvd_gcd h5 hdn
    rw [hg] at h6
    exact Nat.dvd_one.1 h6
theorem pr_trial {n : Nat} (k : Nat) (hn : 2 ≤ n) (hk : n < (k + 2) * (k + 2)) (h : ((List.range k).all fun i => n % (i + 2) != 0) = true) : Pr n := by
  obtain ⟨r, hr, hd, rfl | hle⟩ := pr_factor n hn
  · exact hr
  · exfalso
    have h2 := hr.1
    have hlt : r < k + 2 := by
      rcases Nat.lt_or_ge r (k + 2) with h | h
      · exact h
      · have := Nat.mul_le_mul h h; omega
    have h3 := List.all_eq_true.1 h (r - 2) (List.mem_range.2 (by omega))
    rw [show r - 2 + 2 = r by omega, Nat.mod_eq_zero_of_dvd hd] at h3
    cases h3
theorem pr_one {n q a e b k1 k2 : Nat} (hn : 2 ≤ n) (hF : n < (q + 1) * (q + 1)) (hq : Pr q) (he : n - 1 = e * q) (hk1 : e < 2 ^ k1) (hk2 : q < 2 ^ k2) (hb : pmod n a (bitsF k1 e) = b) (h1 : pmod n b (bitsF k2 q) = 1 % n) (hg : Nat.gcd (b + (n - 1)) n = 1) : Pr n :=
  pr_of hn hF (pock2 hn hq he hk1 hk2 hb h1 hg)
theorem pr_two {n q q' : Nat} (hn : 2 ≤ n) (hF : n < (q * q' + 1) * (q * q' + 1)) (hc : Nat.gcd q q' = 1) (h : ∀ r, Pr r → r ∣ n → q ∣ r - 1) (h' : ∀ r, Pr r → r ∣ n → q' ∣ r - 1) : Pr n :=
  pr_of hn hF fun r hr hd => Nat.Coprime.mul_dvd_of_dvd_of_dvd hc (h r hr hd) (h' r hr hd)
theorem pr_991 : Pr 991 := pr_trial 31 (by decide) (by decide) (by kernel_rfl)
theorem pr_103 : Pr 103 := pr_trial 10 (by decide) (by decide) (by kernel_rfl)
theorem pr_8574133 : Pr 8574133 := pr_two (q := 991) (q' := 103) (by decide) (of_decide_eq_true (by kernel_rfl)) (by kernel_rfl) (pock2 (a := 2) (b := 3435729) (e := 8652) (k1 := 14) (k2 := 10) (by decide) pr_991 (by kernel_rfl) (of_decide_eq_true (by kernel_rfl)) (of_decide_eq_true (by kernel_rfl)) (by kernel_rfl) (by kernel_rfl) (by kernel_rfl)) (pock2 (a := 2) (b := 4321357) (e := 83244) (k1 := 17) (k2 := 7) (by decide) pr_103 (by kernel_rfl) (of_decide_eq_true (by kernel_rfl)) (of_decide_eq_true (by kernel_rfl)) (by kernel_rfl) (by kernel_rfl) (by kernel_rfl))
theorem pr_127 : Pr 127 := pr_trial 11 (by decide) (by decide) (by kernel_rfl)
theorem pr_1919519569386763 : Pr 1919519569386763 := pr_two (q := 8574133) (q' := 127) (by decide) (of_decide_eq_true (by kernel_rfl)) (by kernel_rfl) (pock2 (a := 2) (b := 1059928654987441) (e := 223873314) (k1 := 28) (k2 := 24) (by decide) pr_8574133 (by kernel_rfl) (of_decide_eq_true (by kernel_rfl)) (of_decide_eq_true (by kernel_rfl)) (by kernel_rfl) (by kernel_rfl) (by kernel_rfl)) (pock2 (a := 2) (b := 576774792492622) (e := 15114327318006) (k1 := 44) (k2 := 7) (by decide) pr_127 (by kernel_rfl) (of_decide_eq_true (by kernel_rfl)) (of_decide_eq_true (by kernel_rfl)) (by kernel_rfl) (by kernel_rfl) (by kernel_rfl))
theorem pr_569003 : Pr 569003 := pr_trial 754 (by decide) (by decide) (by kernel_rfl)
theorem pr_2773320623 : Pr 2773320623 := pr_one (q := 569003) (a := 2) (b := 2039232613) (e := 4874) (k1 := 13) (k2 := 20) (by decide) (of_decide_eq_true (by kernel_rfl)) pr_569003 (by kernel_rfl) (of_decide_eq_true (by kernel_rfl)) (of_decide_eq_true (by kernel_rfl)) (by kernel_rfl) (by kernel_rfl) (by kernel_rfl)
theorem pr_72106336199 : Pr 72106336199 := pr_one (q := 2773320623) (a := 2) (b := 67108864) (e := 26) (k1 := 5) (k2 := 32) (by decide) (of_decide_eq_true (by kernel_rfl)) pr_2773320623 (by kernel_rfl) (of_decide_eq_true (by kernel_rfl)) (of_decide_eq_true (by kernel_rfl)) (by kernel_rfl) (by kernel_rfl) (by kernel_rfl)
theorem pr_75445702479781427272750846543864801 : Pr 75445702479781427272750846543864801 := pr_two (q := 1919519569386763) (q' := 72106336199) (by decide) (of_decide_eq_true (by kernel_rfl)) (by kernel_rfl) (pock2 (a := 2) (b := 56747016255153332959347766392083459) (e := 39304471641247389600) (k1 := 66) (k2 := 51) (by decide) pr_1919519569386763 (by kernel_rfl) (of_decide_eq_true (by kernel_rfl)) (of_decide_eq_true (by kernel_rfl)) (by kernel_rfl) (by kernel_rfl) (by kernel_rfl)) (pock2 (a := 2) (b := 71619851993489548214160924360205394) (e := 1046311689884858398375200) (k1 := 80) (k2 := 37) (by decide) pr_72106336199 (by kernel_rfl) (of_decide_eq_true (by kernel_rfl)) (of_decide_eq_true (by kernel_rfl)) (by kernel_rfl) (by kernel_rfl) (by kernel_rfl))
theorem pr_430751 : Pr 430751 := pr_trial 656 (by decide) (by decide) (by kernel_rfl)
theorem pr_4153 : Pr 4153 := pr_trial 64 (by decide) (by decide) (by kernel_rfl)
theorem pr_31757755568855353 : Pr 31757755568855353 := pr_two (q := 430751) (q' := 4153) (by decide) (of_decide_eq_true (by kernel_rfl)) (by kernel_rfl) (pock2 (a := 2) (b := 15280470251845350) (e := 73726481352) (k1 := 37) (k2 := 19) (by decide) pr_430751 (by kernel_rfl) (of_decide_eq_true (by kernel_rfl)) (of_decide_eq_true (by kernel_rfl)) (by kernel_rfl) (by kernel_rfl) (by kernel_rfl)) (pock2 (a := 2) (b := 28256283979054930) (e := 7646943310584) (k1 := 43) (k2 := 13) (by decide) pr_4153 (by kernel_rfl) (of_decide_eq_true (by kernel_rfl)) (of_decide_eq_true (by kernel_rfl)) (by kernel_rfl) (by kernel_rfl) (by kernel_rfl))
theorem pr_74058212732561358302231226437062788676166966415465897661863160754340907 : Pr 74058212732561358302231226437062788676166966415465897661863160754340907 := pr_two (q := 75445702479781427272750846543864801) (q' := 31757755568855353) (by decide) (of_decide_eq_true (by kernel_rfl)) (by kernel_rfl) (pock2 (a := 2) (b := 69490809710348678725736597923071784769591275419387514694139338586948360) (e := 981609426360740691344999861639072106) (k1 := 120) (k2 := 116) (by decide) pr_75445702479781427272750846543864801 (by kernel_rfl) (of_decide_eq_true (by kernel_rfl)) (of_decide_eq_true (by kernel_rfl)) (by kernel_rfl) (by kernel_rfl) (by kernel_rfl)) (pock2 (a := 2) (b := 50366660687963342066214195241331738400016478712605795091965648721912165) (e := 2331972502653487852620185443007392165117953542933313402) (k1 := 181) (k2 := 55) (by decide) pr_31757755568855353 (by kernel_rfl) (of_decide_eq_true (by kernel_rfl)) (of_decide_eq_true (by kernel_rfl)) (by kernel_rfl) (by kernel_rfl) (by kernel_rfl))
theorem pr_57896044618658097711785492504343953926634992332820282019728792003956564819949 : Pr 57896044618658097711785492504343953926634992332820282019728792003956564819949 := pr_one (q := 74058212732561358302231226437062788676166966415465897661863160754340907) (a := 2) (b := 427094198651976259540344842774561673889945192655078505504941250475370961481) (e := 781764) (k1 := 20) (k2 := 236) (by decide) (of_decide_eq_true (by kernel_rfl)) pr_74058212732561358302231226437062788676166966415465897661863160754340907 (by kernel_rfl) (of_decide_eq_true (by kernel_rfl)) (of_decide_eq_true (by kernel_rfl)) (by kernel_rfl) (by kernel_rfl) (by kernel_rfl)
theorem pr_1224481 : Pr 1224481 := pr_trial 1106 (by decide) (by decide) (by kernel_rfl)
theorem pr_531581 : Pr 531581 := pr_trial 729 (by decide) (by decide) (by kernel_rfl)
theorem pr_1257559732178653 : Pr 1257559732178653 := pr_two (q := 1224481) (q' := 531581) (by decide) (of_decide_eq_true (by kernel_rfl)) (by kernel_rfl) (pock2 (a := 2) (b := 1252739704402215) (e := 1027014492) (k1 := 30) (k2 := 21) (by decide) pr_1224481 (by kernel_rfl) (of_decide_eq_true (by kernel_rfl)) (of_decide_eq_true (by kernel_rfl)) (by kernel_rfl) (by kernel_rfl) (by kernel_rfl)) (pock2 (a := 2) (b := 1139842034583224) (e := 2365697292) (k1 := 32) (k2 := 20) (by decide) pr_531581 (by kernel_rfl) (of_decide_eq_true (by kernel_rfl)) (of_decide_eq_true (by kernel_rfl)) (by kernel_rfl) (by kernel_rfl) (by kernel_rfl))
theorem pr_4434155615661930479 : Pr 4434155615661930479 := pr_one (q := 1257559732178653) (a := 2) (b := 415787812636281767) (e := 3526) (k1 := 12) (k2 := 51) (by decide) (of_decide_eq_true (by kernel_rfl)) pr_1257559732178653 (by kernel_rfl) (of_decide_eq_true (by kernel_rfl)) (of_decide_eq_true (by kernel_rfl)) (by kernel_rfl) (by kernel_rfl) (by kernel_rfl)
theorem pr_172054593956031949258510691 : Pr 172054593956031949258510691 := pr_one (q := 4434155615661930479) (a := 2) (b := 81982237619807054769897707) (e := 38802110) (k1 := 26) (k2 := 62) (by decide) (of_decide_eq_true (by kernel_rfl)) pr_4434155615661930479 (by kernel_rfl) (of_decide_eq_true (by kernel_rfl)) (of_decide_eq_true (by kernel_rfl)) (by kernel_rfl) (by kernel_rfl) (by kernel_rfl)
theorem pr_19757330305831588566944191468367130476339 : Pr 19757330305831588566944191468367130476339 := pr_one (q := 172054593956031949258510691) (a := 2) (b := 9148758478138211201771971577098600188172) (e := 114831751082918) (k1 := 47) (k2 := 88) (by decide) (of_decide_eq_true (by kernel_rfl)) pr_172054593956031949258510691 (by kernel_rfl) (of_decide_eq_true (by kernel_rfl)) (of_decide_eq_true (by kernel_rfl)) (by kernel_rfl) (by kernel_rfl) (by kernel_rfl)
theorem pr_276602624281642239937218680557139826668747 : Pr 276602624281642239937218680557139826668747 := pr_one (q := 19757330305831588566944191468367130476339) (a := 2) (b := 16384) (e := 14) (k1 := 4) (k2 := 134) (by decide) (of_decide_eq_true (by kernel_rfl)) pr_19757330305831588566944191468367130476339 (by kernel_rfl) (of_decide_eq_true (by kernel_rfl)) (of_decide_eq_true (by kernel_rfl)) (by kernel_rfl) (by kernel_rfl) (by kernel_rfl)
theorem pr_7237005577332262213973186563042994240857116359379907606001950938285454250989 : Pr 7237005577332262213973186563042994240857116359379907606001950938285454250989 := pr_one (q := 276602624281642239937218680557139826668747) (a := 2) (b := 2975531125133123119648879457563281269120703404158613135195788908093573672641) (e := 26163907866482859529727157400808004) (k1 := 115) (k2 := 138) (by decide) (of_decide_eq_true (by kernel_rfl)) pr_276602624281642239937218680557139826668747 (by kernel_rfl) (of_decide_eq_true (by kernel_rfl)) (of_decide_eq_true (by kernel_rfl)) (by kernel_rfl) (by kernel_rfl) (by kernel_rfl)
end Go.Proofs.YtdkjdioccpoacaaDoor
set_option linter.unusedSimpArgs false
set_option linter.unusedVariables false
set_option maxHeartbeats 4000000
set_option maxRecDepth 100000
namespace Go.Proofs.YtdkjdioccpoacaaDoor
abbrev q255 : Nat := 57896044618658097711785492504343953926634992332820282019728792003956564819949
instance : NeZero q255 := ⟨by decide⟩
abbrev F := Fin q255
theorem F.pr : Pr q255 := pr_57896044618658097711785492504343953926634992332820282019728792003956564819949
def fpow (x : F) : Nat → F
  | 0 => 1
  | n + 1 => fpow x n * x
theorem fpow_succ (x : F) (n : Nat) : fpow x (n + 1) = fpow x n * x := rfl
theorem fpow_val (x : F) : ∀ n, (fpow x n).val = x.val ^ n % q255
  | 0 => by
    show (1 : F).val = _
    rw [Nat.pow_zero]; rfl
  | n + 1 => by
    show (fpow x n * x).val = _
    rw [Fin.val_mul, fpow_val x n, Nat.pow_succ, Nat.mod_mul_mod]
theorem fpow_mul (x y : F) : ∀ n, fpow (x * y) n = fpow x n * fpow y n
  | 0 => by
    show (1 : F) = 1 * 1
    grind
  | n + 1 => by
    show fpow (x * y) n * (x * y) = fpow x n * x * (fpow y n * y)
    rw [fpow_mul x y n]; grind
theorem fpow_add (x : F) (m : Nat) : ∀ n, fpow x (m + n) = fpow x m * fpow x n
  | 0 => by
    show fpow x m = fpow x m * 1
    grind
  | n + 1 => by
    show fpow x (m + n) * x = fpow x m * (fpow x n * x)
    rw [fpow_add x m n]; grind
theorem fzero {a b : F} (h : a * b = 0) : a = 0 ∨ b = 0 := by
  have h1 := congrArg Fin.val h
  rw [Fin.val_mul] at h1
  have h2 : q255 ∣ a.val * b.val := Nat.dvd_of_mod_eq_zero h1
  have small : ∀ c : F, q255 ∣ c.val → c = 0 := fun c hc => Fin.ext (Nat.eq_zero_of_dvd_of_lt hc c.isLt)
  rcases F.pr.dvd_mul h2 with h3 | h3
  · exact .inl (small a h3)
  · exact .inr (small b h3)
theorem fcancel {a b c : F} (hc : c ≠ 0) (h : a * c = b * c) : a = b := by
  have : (a - b) * c = 0 := by grind
  rcases fzero this with h1 | h1
  · grind
  · exact absurd h1 hc
theorem fpow_of {x y : F} {n : Nat} (h : x.val ^ n % q255 = y.val) : fpow x n = y := Fin.ext ((fpow_val x n).trans h)
theorem fermatG {x : F} (hx : x ≠ 0) {n : Nat} (hn : q255 - 1 = n) : fpow x n = 1 := by
  subst hn
  exact fpow_of (fermat1 F.pr (x := x.val) fun hd => hx (Fin.ext (Nat.eq_zero_of_dvd_of_lt hd x.isLt)))
theorem fermatF {x : F} (hx : x ≠ 0) : fpow x 57896044618658097711785492504343953926634992332820282019728792003956564819948 = 1 := fermatG hx (of_decide_eq_true (by kernel_rfl))
theorem fpow_inv {x : F} (hx : x ≠ 0) : fpow x 57896044618658097711785492504343953926634992332820282019728792003956564819947 * x = 1 := by
  have e : fpow x (57896044618658097711785492504343953926634992332820282019728792003956564819947 + 1) = 1 := fermatF hx
  rw [fpow_succ] at e; exact e
theorem fpow_inv0 : fpow 0 57896044618658097711785492504343953926634992332820282019728792003956564819947 = 0 := by
  have e := fpow_succ 0 57896044618658097711785492504343953926634992332820282019728792003956564819946
  have h : fpow 0 57896044618658097711785492504343953926634992332820282019728792003956564819947 = fpow 0 57896044618658097711785492504343953926634992332820282019728792003956564819946 * 0 := e
  rw [h]; grind
theorem finv_ex (x : F) : ∃ y : F, (x ≠ 0 → y * x = 1) ∧ (x = 0 → y = 0) := ⟨_, fun h => fpow_inv h, fun h => by rw [h]; exact fpow_inv0⟩
noncomputable def finv (x : F) : F := Classical.choose (finv_ex x)
theorem finv_mul {x : F} (hx : x ≠ 0) : finv x * x = 1 := (Classical.choose_spec (finv_ex x)).1 hx
theorem finv_zero : finv 0 = 0 := (Classical.choose_spec (finv_ex 0)).2 rfl
theorem finv_uniq {x y : F} (hx : x ≠ 0) (h : y * x = 1) : finv x = y := fcancel hx (by rw [finv_mul hx, h])
theorem finv_pow (x : F) : finv x = fpow x 57896044618658097711785492504343953926634992332820282019728792003956564819947 := by
  by_cases h : x = 0
  · subst h; rw [finv_zero, fpow_inv0]
  · exact finv_uniq h (fpow_inv h)
theorem finv_mulF (x y : F) : finv (x * y) = finv x * finv y := by rw [finv_pow, finv_pow, finv_pow, fpow_mul]
theorem two_ne : (2 : F) ≠ 0 := by decide
def dE : F := 20800338683988658368647408995589388737092878452977063003340006470870624536394
theorem dE_is : dE * 121666 = 121665 := by kernel_rfl
theorem fpow_bits {x y : F} {n : Nat} (k : Nat) (hk : n < 2 ^ k) (h : pmod q255 x.val (bitsF k n) = y.val) : fpow x n = y := fpow_of (pow_of hk h)
theorem dE_half : fpow dE 28948022309329048855892746252171976963317496166410141009864396001978282409974 = -1 := fpow_bits 255 (of_decide_eq_true (by kernel_rfl)) (by kernel_rfl)
theorem dE_ne : dE ≠ 0 := by decide
theorem nonsq {u v : F} (h : dE * u * u = v * v) : u = 0 := by
  apply Classical.byContradiction
  intro hu
  have hi := finv_mul hu
  have hw : (v * finv u) * (v * finv u) = dE := by grind
  have hw0 : v * finv u ≠ 0 := fun h0 => dE_ne (by rw [← hw, h0]; grind)
  have h1 := fermatF hw0
  have e : fpow (v * finv u) (28948022309329048855892746252171976963317496166410141009864396001978282409974 + 28948022309329048855892746252171976963317496166410141009864396001978282409974) = 1 := h1
  rw [fpow_add, ← fpow_mul, hw, dE_half] at e
  exact absurd e (by decide)
end Go.Proofs.YtdkjdioccpoacaaDoor
set_option linter.unusedSimpArgs false
set_option linter.unusedVariables false
set_option maxHeartbeats 4000000
set_option maxRecDepth 100000
namespace Go.Proofs.YtdkjdioccpoacaaDoor
theorem ed_close_id (d x1 y1 x2 y2 : F) : (x1*y2 + y1*x2)*(x1*y2 + y1*x2)*(1 - d*x1*x2*y1*y2)*(1 - d*x1*x2*y1*y2) + (y1*y2 - x1*x2)*(y1*y2 - x1*x2)*(1 + d*x1*x2*y1*y2)*(1 + d*x1*x2*y1*y2) = (1 + d*x1*x2*y1*y2)*(1 + d*x1*x2*y1*y2)*(1 - d*x1*x2*y1*y2)*(1 - d*x1*x2*y1*y2) + d*(x1*y2 + y1*x2)*(x1*y2 + y1*x2)*(y1*y2 - x1*x2)*(y1*y2 - x1*x2) + (- d*d*d*x1*x1*y1*y1*x2*x2*x2*x2*y2*y2*y2*y2 - d*d*x1*x1*x2*x2*x2*x2*y2*y2*y2*y2 - d*d*y1*y1*x2*x2*x2*x2*y2*y2*y2*y2 + d*d*x2*x2*x2*x2*y2*y2*y2*y2 + d*x1*x1*x2*x2*x2*x2*y2*y2 + d*x1*x1*x2*x2*y2*y2*y2*y2 + d*y1*y1*x2*x2*x2*x2*y2*y2 + d*y1*y1*x2*x2*y2*y2*y2*y2 - 2*d*x2*x2*x2*x2*y2*y2*y2*y2 + 2*d*x2*x2*y2*y2 + 2*x2*x2*x2*x2*y2*y2 - x2*x2*x2*x2 + 2*x2*x2*y2*y2*y2*y2 - 4*x2*x2*y2*y2 - y2*y2*y2*y2)*(d*x1*x1*y1*y1 - x1*x1 - y1*y1 + 1) + (- d*x1*x1*x1*x1*x2*x2*y2*y2 + 2*d*x1*x1*x2*x2*y2*y2 - d*y1*y1*y1*y1*x2*x2*y2*y2 + 2*d*y1*y1*x2*x2*y2*y2 - d*x2*x2*y2*y2 - 2*x1*x1*x2*x2*y2*y2 + x1*x1*x2*x2 + x1*x1*y2*y2 - 2*y1*y1*x2*x2*y2*y2 + y1*y1*x2*x2 + y1*y1*y2*y2 + 2*x2*x2*y2*y2 - x2*x2 - y2*y2 - 1)*(d*x2*x2*y2*y2 - x2*x2 - y2*y2 + 1) := by grind (ringSteps := 1000000)
theorem ed_close (d x1 y1 x2 y2 : F) (e1 : x1*x1 + y1*y1 = 1 + d*x1*x1*y1*y1) (e2 : x2*x2 + y2*y2 = 1 + d*x2*x2*y2*y2) : (x1*y2 + y1*x2)*(x1*y2 + y1*x2)*(1 - d*x1*x2*y1*y2)*(1 - d*x1*x2*y1*y2) + (y1*y2 - x1*x2)*(y1*y2 - x1*x2)*(1 + d*x1*x2*y1*y2)*(1 + d*x1*x2*y1*y2) = (1 + d*x1*x2*y1*y2)*(1 + d*x1*x2*y1*y2)*(1 - d*x1*x2*y1*y2)*(1 - d*x1*x2*y1*y2) + d*(x1*y2 + y1*x2)*(x1*y2 + y1*x2)*(y1*y2 - x1*x2)*(y1*y2 - x1*x2) := by
  have h := ed_close_id d x1 y1 x2 y2
  have h1 : (d*x1*x1*y1*y1 - x1*x1 - y1*y1 + 1) = 0 := by grind
  rw [h1] at h
  have h2 : (d*x2*x2*y2*y2 - x2*x2 - y2*y2 + 1) = 0 := by grind
  rw [h2] at h
  rw [h]; grind
theorem ed_assx_id (d x1 y1 x2 y2 x3 y3 : F) : ((x1*y2 + y1*x2)*(1 - d*x1*x2*y1*y2)*y3 + (y1*y2 - x1*x2)*(1 + d*x1*x2*y1*y2)*x3)*((1 + d*x2*x3*y2*y3)*(1 - d*x2*x3*y2*y3) + d*x1*y1*(x2*y3 + y2*x3)*(y2*y3 - x2*x3)) = (x1*(y2*y3 - x2*x3)*(1 + d*x2*x3*y2*y3) + y1*(x2*y3 + y2*x3)*(1 - d*x2*x3*y2*y3))*((1 + d*x1*x2*y1*y2)*(1 - d*x1*x2*y1*y2) + d*(x1*y2 + y1*x2)*(y1*y2 - x1*x2)*x3*y3) + (- d*d*x1*x2*x2*x2*x2*y2*y2*y2*x3*x3*y3 + d*d*x1*x2*x2*x2*y2*y2*y2*y2*x3*y3*y3 - d*d*y1*x2*x2*x2*x2*y2*y2*y2*x3*y3*y3 - d*d*y1*x2*x2*x2*y2*y2*y2*y2*x3*x3*y3 + d*x1*x2*x2*x2*x2*y2*x3*x3*y3 + d*x1*x2*x2*x2*y2*y2*x3*x3*x3 - d*x1*x2*x2*x2*y2*y2*x3 - d*x1*x2*x2*y2*y2*y2*y3*y3*y3 + d*x1*x2*x2*y2*y2*y2*y3 - d*x1*x2*y2*y2*y2*y2*x3*y3*y3 + d*y1*x2*x2*x2*x2*y2*x3*y3*y3 - d*y1*x2*x2*x2*y2*y2*y3*y3*y3 + d*y1*x2*x2*x2*y2*y2*y3 - d*y1*x2*x2*y2*y2*y2*x3*x3*x3 + d*y1*x2*x2*y2*y2*y2*x3 + d*y1*x2*y2*y2*y2*y2*x3*x3*y3)*(d*x1*x1*y1*y1 - x1*x1 - y1*y1 + 1) + (d*d*x1*x1*y1*x2*x2*y2*x3*x3*x3*y3*y3 + d*d*x1*x1*y1*x2*y2*y2*x3*x3*y3*y3*y3 + d*d*x1*y1*y1*x2*x2*y2*x3*x3*y3*y3*y3 - d*d*x1*y1*y1*x2*y2*y2*x3*x3*x3*y3*y3 - d*x1*x1*x1*x2*x2*y2*x3*x3*y3 + d*x1*x1*x1*x2*y2*y2*x3*y3*y3 - d*x1*x1*x1*x2*x3*x3*x3*y3*y3 + d*x1*x1*x1*y2*x3*x3*y3*y3*y3 - d*x1*x1*y1*x2*x2*y2*x3*y3*y3 - d*x1*x1*y1*x2*y2*y2*x3*x3*y3 + d*x1*x1*y1*x2*x3*x3*y3*y3*y3 + d*x1*x1*y1*y2*x3*x3*x3*y3*y3 - d*x1*y1*y1*x2*x2*y2*x3*x3*y3 + d*x1*y1*y1*x2*y2*y2*x3*y3*y3 - d*x1*y1*y1*x2*x3*x3*x3*y3*y3 + d*x1*y1*y1*y2*x3*x3*y3*y3*y3 + d*x1*x2*x2*y2*x3*x3*y3 - d*x1*x2*y2*y2*x3*y3*y3 + d*x1*x2*x3*x3*x3*y3*y3 - d*x1*y2*x3*x3*y3*y3*y3 - d*y1*y1*y1*x2*x2*y2*x3*y3*y3 - d*y1*y1*y1*x2*y2*y2*x3*x3*y3 + d*y1*y1*y1*x2*x3*x3*y3*y3*y3 + d*y1*y1*y1*y2*x3*x3*x3*y3*y3 + d*y1*x2*x2*y2*x3*y3*y3 + d*y1*x2*y2*y2*x3*x3*y3 - d*y1*x2*x3*x3*y3*y3*y3 - d*y1*y2*x3*x3*x3*y3*y3 + x1*x1*x1*x2*x3*x3*x3 + x1*x1*x1*x2*x3*y3*y3 - x1*x1*x1*x2*x3 - x1*x1*x1*y2*x3*x3*y3 - x1*x1*x1*y2*y3*y3*y3 + x1*x1*x1*y2*y3 - x1*x1*y1*x2*x3*x3*y3 - x1*x1*y1*x2*y3*y3*y3 + x1*x1*y1*x2*y3 - x1*x1*y1*y2*x3*x3*x3 - x1*x1*y1*y2*x3*y3*y3 + x1*x1*y1*y2*x3 + x1*y1*y1*x2*x3*x3*x3 + x1*y1*y1*x2*x3*y3*y3 - x1*y1*y1*x2*x3 - x1*y1*y1*y2*x3*x3*y3 - x1*y1*y1*y2*y3*y3*y3 + x1*y1*y1*y2*y3 - x1*x2*x3*x3*x3 - x1*x2*x3*y3*y3 + x1*x2*x3 + x1*y2*x3*x3*y3 + x1*y2*y3*y3*y3 - x1*y2*y3 - y1*y1*y1*x2*x3*x3*y3 - y1*y1*y1*x2*y3*y3*y3 + y1*y1*y1*x2*y3 - y1*y1*y1*y2*x3*x3*x3 - y1*y1*y1*y2*x3*y3*y3 + y1*y1*y1*y2*x3 + y1*x2*x3*x3*y3 + y1*x2*y3*y3*y3 - y1*x2*y3 + y1*y2*x3*x3*x3 + y1*y2*x3*y3*y3 - y1*y2*x3)*(d*x2*x2*y2*y2 - x2*x2 - y2*y2 + 1) + (- d*x1*x1*y1*x2*x2*y2*x3 - d*x1*x1*y1*x2*y2*y2*y3 - d*x1*y1*y1*x2*x2*y2*y3 + d*x1*y1*y1*x2*y2*y2*x3 - x1*x1*x1*x2*x2*x2*x3 + x1*x1*x1*x2*x2*y2*y3 - x1*x1*x1*x2*y2*y2*x3 + x1*x1*x1*x2*x3 + x1*x1*x1*y2*y2*y2*y3 - x1*x1*x1*y2*y3 + x1*x1*y1*x2*x2*x2*y3 + x1*x1*y1*x2*x2*y2*x3 + x1*x1*y1*x2*y2*y2*y3 - x1*x1*y1*x2*y3 + x1*x1*y1*y2*y2*y2*x3 - x1*x1*y1*y2*x3 - x1*y1*y1*x2*x2*x2*x3 + x1*y1*y1*x2*x2*y2*y3 - x1*y1*y1*x2*y2*y2*x3 + x1*y1*y1*x2*x3 + x1*y1*y1*y2*y2*y2*y3 - x1*y1*y1*y2*y3 + x1*x2*x2*x2*x3 - x1*x2*x2*y2*y3 + x1*x2*y2*y2*x3 - x1*x2*x3 - x1*y2*y2*y2*y3 + x1*y2*y3 + y1*y1*y1*x2*x2*x2*y3 + y1*y1*y1*x2*x2*y2*x3 + y1*y1*y1*x2*y2*y2*y3 - y1*y1*y1*x2*y3 + y1*y1*y1*y2*y2*y2*x3 - y1*y1*y1*y2*x3 - y1*x2*x2*x2*y3 - y1*x2*x2*y2*x3 - y1*x2*y2*y2*y3 + y1*x2*y3 - y1*y2*y2*y2*x3 + y1*y2*x3)*(d*x3*x3*y3*y3 - x3*x3 - y3*y3 + 1) := by grind (ringSteps := 1000000)
theorem ed_assx (d x1 y1 x2 y2 x3 y3 : F) (e1 : x1*x1 + y1*y1 = 1 + d*x1*x1*y1*y1) (e2 : x2*x2 + y2*y2 = 1 + d*x2*x2*y2*y2) (e3 : x3*x3 + y3*y3 = 1 + d*x3*x3*y3*y3) : ((x1*y2 + y1*x2)*(1 - d*x1*x2*y1*y2)*y3 + (y1*y2 - x1*x2)*(1 + d*x1*x2*y1*y2)*x3)*((1 + d*x2*x3*y2*y3)*(1 - d*x2*x3*y2*y3) + d*x1*y1*(x2*y3 + y2*x3)*(y2*y3 - x2*x3)) = (x1*(y2*y3 - x2*x3)*(1 + d*x2*x3*y2*y3) + y1*(x2*y3 + y2*x3)*(1 - d*x2*x3*y2*y3))*((1 + d*x1*x2*y1*y2)*(1 - d*x1*x2*y1*y2) + d*(x1*y2 + y1*x2)*(y1*y2 - x1*x2)*x3*y3) := by
  have h := ed_assx_id d x1 y1 x2 y2 x3 y3
  have h1 : (d*x1*x1*y1*y1 - x1*x1 - y1*y1 + 1) = 0 := by grind
  rw [h1] at h
  have h2 : (d*x2*x2*y2*y2 - x2*x2 - y2*y2 + 1) = 0 := by grind
  rw [h2] at h
  have h3 : (d*x3*x3*y3*y3 - x3*x3 - y3*y3 + 1) = 0 := by grind
  rw [h3] at h
  rw [h]; grind
theorem ed_assy_id (d x1 y1 x2 y2 x3 y3 : F) : ((y1*y2 - x1*x2)*(1 + d*x1*x2*y1*y2)*y3 - (x1*y2 + y1*x2)*(1 - d*x1*x2*y1*y2)*x3)*((1 + d*x2*x3*y2*y3)*(1 - d*x2*x3*y2*y3) - d*x1*y1*(x2*y3 + y2*x3)*(y2*y3 - x2*x3)) = (y1*(y2*y3 - x2*x3)*(1 + d*x2*x3*y2*y3) - x1*(x2*y3 + y2*x3)*(1 - d*x2*x3*y2*y3))*((1 + d*x1*x2*y1*y2)*(1 - d*x1*x2*y1*y2) - d*(x1*y2 + y1*x2)*(y1*y2 - x1*x2)*x3*y3) + (d*d*x1*x2*x2*x2*x2*y2*y2*y2*x3*y3*y3 + d*d*x1*x2*x2*x2*y2*y2*y2*y2*x3*x3*y3 - d*d*y1*x2*x2*x2*x2*y2*y2*y2*x3*x3*y3 + d*d*y1*x2*x2*x2*y2*y2*y2*y2*x3*y3*y3 - d*x1*x2*x2*x2*x2*y2*x3*y3*y3 + d*x1*x2*x2*x2*y2*y2*y3*y3*y3 - d*x1*x2*x2*x2*y2*y2*y3 + d*x1*x2*x2*y2*y2*y2*x3*x3*x3 - d*x1*x2*x2*y2*y2*y2*x3 - d*x1*x2*y2*y2*y2*y2*x3*x3*y3 + d*y1*x2*x2*x2*x2*y2*x3*x3*y3 + d*y1*x2*x2*x2*y2*y2*x3*x3*x3 - d*y1*x2*x2*x2*y2*y2*x3 - d*y1*x2*x2*y2*y2*y2*y3*y3*y3 + d*y1*x2*x2*y2*y2*y2*y3 - d*y1*x2*y2*y2*y2*y2*x3*y3*y3)*(d*x1*x1*y1*y1 - x1*x1 - y1*y1 + 1) + (d*d*x1*x1*y1*x2*x2*y2*x3*x3*y3*y3*y3 - d*d*x1*x1*y1*x2*y2*y2*x3*x3*x3*y3*y3 - d*d*x1*y1*y1*x2*x2*y2*x3*x3*x3*y3*y3 - d*d*x1*y1*y1*x2*y2*y2*x3*x3*y3*y3*y3 + d*x1*x1*x1*x2*x2*y2*x3*y3*y3 + d*x1*x1*x1*x2*y2*y2*x3*x3*y3 - d*x1*x1*x1*x2*x3*x3*y3*y3*y3 - d*x1*x1*x1*y2*x3*x3*x3*y3*y3 - d*x1*x1*y1*x2*x2*y2*x3*x3*y3 + d*x1*x1*y1*x2*y2*y2*x3*y3*y3 - d*x1*x1*y1*x2*x3*x3*x3*y3*y3 + d*x1*x1*y1*y2*x3*x3*y3*y3*y3 + d*x1*y1*y1*x2*x2*y2*x3*y3*y3 + d*x1*y1*y1*x2*y2*y2*x3*x3*y3 - d*x1*y1*y1*x2*x3*x3*y3*y3*y3 - d*x1*y1*y1*y2*x3*x3*x3*y3*y3 - d*x1*x2*x2*y2*x3*y3*y3 - d*x1*x2*y2*y2*x3*x3*y3 + d*x1*x2*x3*x3*y3*y3*y3 + d*x1*y2*x3*x3*x3*y3*y3 - d*y1*y1*y1*x2*x2*y2*x3*x3*y3 + d*y1*y1*y1*x2*y2*y2*x3*y3*y3 - d*y1*y1*y1*x2*x3*x3*x3*y3*y3 + d*y1*y1*y1*y2*x3*x3*y3*y3*y3 + d*y1*x2*x2*y2*x3*x3*y3 - d*y1*x2*y2*y2*x3*y3*y3 + d*y1*x2*x3*x3*x3*y3*y3 - d*y1*y2*x3*x3*y3*y3*y3 + x1*x1*x1*x2*x3*x3*y3 + x1*x1*x1*x2*y3*y3*y3 - x1*x1*x1*x2*y3 + x1*x1*x1*y2*x3*x3*x3 + x1*x1*x1*y2*x3*y3*y3 - x1*x1*x1*y2*x3 + x1*x1*y1*x2*x3*x3*x3 + x1*x1*y1*x2*x3*y3*y3 - x1*x1*y1*x2*x3 - x1*x1*y1*y2*x3*x3*y3 - x1*x1*y1*y2*y3*y3*y3 + x1*x1*y1*y2*y3 + x1*y1*y1*x2*x3*x3*y3 + x1*y1*y1*x2*y3*y3*y3 - x1*y1*y1*x2*y3 + x1*y1*y1*y2*x3*x3*x3 + x1*y1*y1*y2*x3*y3*y3 - x1*y1*y1*y2*x3 - x1*x2*x3*x3*y3 - x1*x2*y3*y3*y3 + x1*x2*y3 - x1*y2*x3*x3*x3 - x1*y2*x3*y3*y3 + x1*y2*x3 + y1*y1*y1*x2*x3*x3*x3 + y1*y1*y1*x2*x3*y3*y3 - y1*y1*y1*x2*x3 - y1*y1*y1*y2*x3*x3*y3 - y1*y1*y1*y2*y3*y3*y3 + y1*y1*y1*y2*y3 - y1*x2*x3*x3*x3 - y1*x2*x3*y3*y3 + y1*x2*x3 + y1*y2*x3*x3*y3 + y1*y2*y3*y3*y3 - y1*y2*y3)*(d*x2*x2*y2*y2 - x2*x2 - y2*y2 + 1) + (- d*x1*x1*y1*x2*x2*y2*y3 + d*x1*x1*y1*x2*y2*y2*x3 + d*x1*y1*y1*x2*x2*y2*x3 + d*x1*y1*y1*x2*y2*y2*y3 - x1*x1*x1*x2*x2*x2*y3 - x1*x1*x1*x2*x2*y2*x3 - x1*x1*x1*x2*y2*y2*y3 + x1*x1*x1*x2*y3 - x1*x1*x1*y2*y2*y2*x3 + x1*x1*x1*y2*x3 - x1*x1*y1*x2*x2*x2*x3 + x1*x1*y1*x2*x2*y2*y3 - x1*x1*y1*x2*y2*y2*x3 + x1*x1*y1*x2*x3 + x1*x1*y1*y2*y2*y2*y3 - x1*x1*y1*y2*y3 - x1*y1*y1*x2*x2*x2*y3 - x1*y1*y1*x2*x2*y2*x3 - x1*y1*y1*x2*y2*y2*y3 + x1*y1*y1*x2*y3 - x1*y1*y1*y2*y2*y2*x3 + x1*y1*y1*y2*x3 + x1*x2*x2*x2*y3 + x1*x2*x2*y2*x3 + x1*x2*y2*y2*y3 - x1*x2*y3 + x1*y2*y2*y2*x3 - x1*y2*x3 - y1*y1*y1*x2*x2*x2*x3 + y1*y1*y1*x2*x2*y2*y3 - y1*y1*y1*x2*y2*y2*x3 + y1*y1*y1*x2*x3 + y1*y1*y1*y2*y2*y2*y3 - y1*y1*y1*y2*y3 + y1*x2*x2*x2*x3 - y1*x2*x2*y2*y3 + y1*x2*y2*y2*x3 - y1*x2*x3 - y1*y2*y2*y2*y3 + y1*y2*y3)*(d*x3*x3*y3*y3 - x3*x3 - y3*y3 + 1) := by grind (ringSteps := 1000000)
theorem ed_assy (d x1 y1 x2 y2 x3 y3 : F) (e1 : x1*x1 + y1*y1 = 1 + d*x1*x1*y1*y1) (e2 : x2*x2 + y2*y2 = 1 + d*x2*x2*y2*y2) (e3 : x3*x3 + y3*y3 = 1 + d*x3*x3*y3*y3) : ((y1*y2 - x1*x2)*(1 + d*x1*x2*y1*y2)*y3 - (x1*y2 + y1*x2)*(1 - d*x1*x2*y1*y2)*x3)*((1 + d*x2*x3*y2*y3)*(1 - d*x2*x3*y2*y3) - d*x1*y1*(x2*y3 + y2*x3)*(y2*y3 - x2*x3)) = (y1*(y2*y3 - x2*x3)*(1 + d*x2*x3*y2*y3) - x1*(x2*y3 + y2*x3)*(1 - d*x2*x3*y2*y3))*((1 + d*x1*x2*y1*y2)*(1 - d*x1*x2*y1*y2) - d*(x1*y2 + y1*x2)*(y1*y2 - x1*x2)*x3*y3) := by
  have h := ed_assy_id d x1 y1 x2 y2 x3 y3
  have h1 : (d*x1*x1*y1*y1 - x1*x1 - y1*y1 + 1) = 0 := by grind
  rw [h1] at h
  have h2 : (d*x2*x2*y2*y2 - x2*x2 - y2*y2 + 1) = 0 := by grind
  rw [h2] at h
  have h3 : (d*x3*x3*y3*y3 - x3*x3 - y3*y3 + 1) = 0 := by grind
  rw [h3] at h
  rw [h]; grind
theorem ed_diff_id (d x1 y1 x2 y2 : F) : ((1 - d*x1*x2*y1*y2) - (y1*y2 - x1*x2))*((1 + d*x1*x2*y1*y2) - (y1*y2 + x1*x2))*(y1 + y2)*(y1 + y2) = ((1 - d*x1*x2*y1*y2) + (y1*y2 - x1*x2))*((1 + d*x1*x2*y1*y2) + (y1*y2 + x1*x2))*(y1 - y2)*(y1 - y2) + (- 4*d*y1*x2*x2*y2*y2*y2 + 4*y1*x2*x2*y2)*(d*x1*x1*y1*y1 - x1*x1 - y1*y1 + 1) + (- 4*y1*y1*y1*y2 + 4*y1*y2)*(d*x2*x2*y2*y2 - x2*x2 - y2*y2 + 1) := by grind (ringSteps := 1000000)
theorem ed_diff (d x1 y1 x2 y2 : F) (e1 : x1*x1 + y1*y1 = 1 + d*x1*x1*y1*y1) (e2 : x2*x2 + y2*y2 = 1 + d*x2*x2*y2*y2) : ((1 - d*x1*x2*y1*y2) - (y1*y2 - x1*x2))*((1 + d*x1*x2*y1*y2) - (y1*y2 + x1*x2))*(y1 + y2)*(y1 + y2) = ((1 - d*x1*x2*y1*y2) + (y1*y2 - x1*x2))*((1 + d*x1*x2*y1*y2) + (y1*y2 + x1*x2))*(y1 - y2)*(y1 - y2) := by
  have h := ed_diff_id d x1 y1 x2 y2
  have h1 : (d*x1*x1*y1*y1 - x1*x1 - y1*y1 + 1) = 0 := by grind
  rw [h1] at h
  have h2 : (d*x2*x2*y2*y2 - x2*x2 - y2*y2 + 1) = 0 := by grind
  rw [h2] at h
  rw [h]; grind
theorem ed_dbl1_id (d x1 y1 : F) : (1 - d*y1*y1)*(1 - d*x1*x1*y1*y1) = 1 - 2*d*y1*y1 + d*y1*y1*y1*y1 + (d*y1*y1)*(d*x1*x1*y1*y1 - x1*x1 - y1*y1 + 1) := by grind (ringSteps := 1000000)
theorem ed_dbl1 (d x1 y1 : F) (e1 : x1*x1 + y1*y1 = 1 + d*x1*x1*y1*y1) : (1 - d*y1*y1)*(1 - d*x1*x1*y1*y1) = 1 - 2*d*y1*y1 + d*y1*y1*y1*y1 := by
  have h := ed_dbl1_id d x1 y1
  have h1 : (d*x1*x1*y1*y1 - x1*x1 - y1*y1 + 1) = 0 := by grind
  rw [h1] at h
  rw [h]; grind
theorem ed_dbl2_id (d x1 y1 : F) : (1 - d*y1*y1)*(y1*y1 - x1*x1) = 2*y1*y1 - 1 - d*y1*y1*y1*y1 + (1)*(d*x1*x1*y1*y1 - x1*x1 - y1*y1 + 1) := by grind (ringSteps := 1000000)
theorem ed_dbl2 (d x1 y1 : F) (e1 : x1*x1 + y1*y1 = 1 + d*x1*x1*y1*y1) : (1 - d*y1*y1)*(y1*y1 - x1*x1) = 2*y1*y1 - 1 - d*y1*y1*y1*y1 := by
  have h := ed_dbl2_id d x1 y1
  have h1 : (d*x1*x1*y1*y1 - x1*x1 - y1*y1 + 1) = 0 := by grind
  rw [h1] at h
  rw [h]; grind
end Go.Proofs.YtdkjdioccpoacaaDoor
set_option linter.unusedSimpArgs false
set_option linter.unusedVariables false
set_option maxHeartbeats 4000000
set_option maxRecDepth 100000
namespace Go.Proofs.YtdkjdioccpoacaaDoor
structure EP where
  x : F
  y : F
  on : x*x + y*y = 1 + dE*x*x*y*y
theorem EP.ext' {P Q : EP} (hx : P.x = Q.x) (hy : P.y = Q.y) : P = Q := by
  cases P; cases Q; simp only at hx hy; subst hx; subst hy; rfl
theorem ed_t (x1 y1 x2 y2 t : F) (ht : dE*x1*x2*y1*y2 = t) (h1 : t*t = 1) (e1 : x1*x1 + y1*y1 = 1 + dE*x1*x1*y1*y1) (e2 : x2*x2 + y2*y2 = 1 + dE*x2*x2*y2*y2) : False := by
  have hu : dE * (x1*y1*(x2 + y2)) * (x1*y1*(x2 + y2)) = (x1 + t*y1) * (x1 + t*y1) := by
    have h : (x1 + t*y1) * (x1 + t*y1) - dE * (x1*y1*(x2 + y2)) * (x1*y1*(x2 + y2)) = (x1*x1 + y1*y1 - 1 - dE*x1*x1*y1*y1) + (1 - t*t)*(1 - y1*y1) - dE*x1*x1*y1*y1*(x2*x2 + y2*y2 - 1 - dE*x2*x2*y2*y2) := by
      subst ht; grind (ringSteps := 100000)
    have a1 : x1*x1 + y1*y1 - 1 - dE*x1*x1*y1*y1 = 0 := by grind
    have a2 : x2*x2 + y2*y2 - 1 - dE*x2*x2*y2*y2 = 0 := by grind
    rw [a1, a2, h1] at h; grind
  have hv : dE * (x1*y1*(x2 - y2)) * (x1*y1*(x2 - y2)) = (x1 - t*y1) * (x1 - t*y1) := by
    have h : (x1 - t*y1) * (x1 - t*y1) - dE * (x1*y1*(x2 - y2)) * (x1*y1*(x2 - y2)) = (x1*x1 + y1*y1 - 1 - dE*x1*x1*y1*y1) + (1 - t*t)*(1 - y1*y1) - dE*x1*x1*y1*y1*(x2*x2 + y2*y2 - 1 - dE*x2*x2*y2*y2) := by
      subst ht; grind (ringSteps := 100000)
    have a1 : x1*x1 + y1*y1 - 1 - dE*x1*x1*y1*y1 = 0 := by grind
    have a2 : x2*x2 + y2*y2 - 1 - dE*x2*x2*y2*y2 = 0 := by grind
    rw [a1, a2, h1] at h; grind
  have k1 := nonsq hu
  have k2 := nonsq hv
  have k3 : 2 * t = 0 := by
    have : 2 * t = dE * y2 * (x1*y1*(x2 + y2) + x1*y1*(x2 - y2)) := by subst ht; grind
    rw [this, k1, k2]; grind
  have k4 : (2 : F) * (t * t) = 0 := by
    have : (2 : F) * (t * t) = (2 * t) * t := by grind
    rw [this, k3]; grind
  rw [h1] at k4
  exact absurd k4 (by decide)
theorem ed_den (P Q : EP) : 1 + dE*P.x*Q.x*P.y*Q.y ≠ 0 ∧ 1 - dE*P.x*Q.x*P.y*Q.y ≠ 0 :=
  ⟨fun h => ed_t P.x P.y Q.x Q.y _ rfl (by
      have : dE*P.x*Q.x*P.y*Q.y = -1 := by grind
      rw [this]; decide) P.on Q.on,
   fun h => ed_t P.x P.y Q.x Q.y _ rfl (by
      have : dE*P.x*Q.x*P.y*Q.y = 1 := by grind
      rw [this]; decide) P.on Q.on⟩
noncomputable def edX (x1 y1 x2 y2 : F) : F := (x1*y2 + y1*x2) * finv (1 + dE*x1*x2*y1*y2)
noncomputable def edY (x1 y1 x2 y2 : F) : F := (y1*y2 - x1*x2) * finv (1 - dE*x1*x2*y1*y2)
theorem edX_mul {x1 y1 x2 y2 : F} (h : 1 + dE*x1*x2*y1*y2 ≠ 0) : edX x1 y1 x2 y2 * (1 + dE*x1*x2*y1*y2) = x1*y2 + y1*x2 := by
  unfold edX
  have := finv_mul h
  generalize finv (1 + dE*x1*x2*y1*y2) = i at *
  grind
theorem edY_mul {x1 y1 x2 y2 : F} (h : 1 - dE*x1*x2*y1*y2 ≠ 0) : edY x1 y1 x2 y2 * (1 - dE*x1*x2*y1*y2) = y1*y2 - x1*x2 := by
  unfold edY
  have := finv_mul h
  generalize finv (1 - dE*x1*x2*y1*y2) = i at *
  grind
theorem fmul_ne {a b : F} (ha : a ≠ 0) (hb : b ≠ 0) : a * b ≠ 0 := fun h => (fzero h).elim ha hb
theorem ed_on_aux (d X Y A B : F) (hc : (X*A)*(X*A)*B*B + (Y*B)*(Y*B)*A*A = A*A*B*B + d*(X*A)*(X*A)*(Y*B)*(Y*B)) : (X*X + Y*Y)*(A*A*(B*B)) = (1 + d*X*X*Y*Y)*(A*A*(B*B)) := by
  have h1 : (X*X + Y*Y)*(A*A*(B*B)) = (X*A)*(X*A)*B*B + (Y*B)*(Y*B)*A*A := by grind
  have h2 : (1 + d*X*X*Y*Y)*(A*A*(B*B)) = A*A*B*B + d*(X*A)*(X*A)*(Y*B)*(Y*B) := by grind
  rw [h1, h2, hc]
theorem ed_on (P Q : EP) : edX P.x P.y Q.x Q.y * edX P.x P.y Q.x Q.y + edY P.x P.y Q.x Q.y * edY P.x P.y Q.x Q.y = 1 + dE * edX P.x P.y Q.x Q.y * edX P.x P.y Q.x Q.y * edY P.x P.y Q.x Q.y * edY P.x P.y Q.x Q.y := by
  obtain ⟨h1, h2⟩ := ed_den P Q
  have hx := edX_mul h1
  have hy := edY_mul h2
  have hc := ed_close dE P.x P.y Q.x Q.y P.on Q.on
  generalize edX P.x P.y Q.x Q.y = X at *
  generalize edY P.x P.y Q.x Q.y = Y at *
  generalize 1 + dE*P.x*Q.x*P.y*Q.y = A at *
  generalize 1 - dE*P.x*Q.x*P.y*Q.y = B at *
  rw [← hx, ← hy] at hc
  exact fcancel (c := A * A * (B * B)) (fmul_ne (fmul_ne h1 h1) (fmul_ne h2 h2)) (ed_on_aux dE X Y A B hc)
noncomputable def EP.add (P Q : EP) : EP := ⟨edX P.x P.y Q.x Q.y, edY P.x P.y Q.x Q.y, ed_on P Q⟩
theorem EP.addx (P Q : EP) : (P.add Q).x * (1 + dE*P.x*Q.x*P.y*Q.y) = P.x*Q.y + P.y*Q.x := edX_mul (ed_den P Q).1
theorem EP.addy (P Q : EP) : (P.add Q).y * (1 - dE*P.x*Q.x*P.y*Q.y) = P.y*Q.y - P.x*Q.x := edY_mul (ed_den P Q).2
theorem edX_comm (d x1 y1 x2 y2 u : F) (h : u * (1 + d*x2*x1*y2*y1) = x2*y1 + y2*x1) : u * (1 + d*x1*x2*y1*y2) = x1*y2 + y1*x2 := by
  have e : 1 + d*x1*x2*y1*y2 = 1 + d*x2*x1*y2*y1 := by grind
  rw [e, h]; grind
theorem edY_comm (d x1 y1 x2 y2 u : F) (h : u * (1 - d*x2*x1*y2*y1) = y2*y1 - x2*x1) : u * (1 - d*x1*x2*y1*y2) = y1*y2 - x1*x2 := by
  have e : 1 - d*x1*x2*y1*y2 = 1 - d*x2*x1*y2*y1 := by grind
  rw [e, h]; grind
theorem EP.comm (P Q : EP) : P.add Q = Q.add P := by
  apply EP.ext'
  · exact fcancel (ed_den P Q).1 ((EP.addx P Q).trans (edX_comm dE _ _ _ _ _ (EP.addx Q P)).symm)
  · exact fcancel (ed_den P Q).2 ((EP.addy P Q).trans (edY_comm dE _ _ _ _ _ (EP.addy Q P)).symm)
theorem frac_eq {s t A A' N N' : F} (hA : A ≠ 0) (hA' : A' ≠ 0) (h1 : s * A = N) (h2 : t * A' = N') (h : N * A' = N' * A) : s = t := by
  refine fcancel (c := A * A') (fmul_ne hA hA') ?_
  have e1 : s * (A * A') = N * A' := by rw [← h1]; grind
  have e2 : t * (A * A') = N' * A := by rw [← h2]; grind
  rw [e1, e2, h]
theorem ass_l {d s X Y A B nX nY x3 y3 : F} (hx : X * A = nX) (hy : Y * B = nY) (h : s * (1 + d*X*x3*Y*y3) = X*y3 + Y*x3) : s * (A*B + d*nX*nY*x3*y3) = nX*B*y3 + nY*A*x3 := by
  have e : s * (A*B + d*nX*nY*x3*y3) = (s * (1 + d*X*x3*Y*y3)) * (A*B) := by rw [← hx, ← hy]; grind
  rw [e, h, ← hx, ← hy]; grind
theorem ass_ly {d s X Y A B nX nY x3 y3 : F} (hx : X * A = nX) (hy : Y * B = nY) (h : s * (1 - d*X*x3*Y*y3) = Y*y3 - X*x3) : s * (A*B - d*nX*nY*x3*y3) = nY*A*y3 - nX*B*x3 := by
  have e : s * (A*B - d*nX*nY*x3*y3) = (s * (1 - d*X*x3*Y*y3)) * (A*B) := by rw [← hx, ← hy]; grind
  rw [e, h, ← hx, ← hy]; grind
theorem ass_r {d s X Y A B nX nY x1 y1 : F} (hx : X * A = nX) (hy : Y * B = nY) (h : s * (1 + d*x1*X*y1*Y) = x1*Y + y1*X) : s * (A*B + d*x1*y1*nX*nY) = x1*nY*A + y1*nX*B := by
  have e : s * (A*B + d*x1*y1*nX*nY) = (s * (1 + d*x1*X*y1*Y)) * (A*B) := by rw [← hx, ← hy]; grind
  rw [e, h, ← hx, ← hy]; grind
theorem ass_ry {d s X Y A B nX nY x1 y1 : F} (hx : X * A = nX) (hy : Y * B = nY) (h : s * (1 - d*x1*X*y1*Y) = y1*Y - x1*X) : s * (A*B - d*x1*y1*nX*nY) = y1*nY*A - x1*nX*B := by
  have e : s * (A*B - d*x1*y1*nX*nY) = (s * (1 - d*x1*X*y1*Y)) * (A*B) := by rw [← hx, ← hy]; grind
  rw [e, h, ← hx, ← hy]; grind
theorem den_l {d X Y A B nX nY x3 y3 : F} (hx : X * A = nX) (hy : Y * B = nY) (hA : A ≠ 0) (hB : B ≠ 0) (h : 1 + d*X*x3*Y*y3 ≠ 0) : A*B + d*nX*nY*x3*y3 ≠ 0 := by
  have e : A*B + d*nX*nY*x3*y3 = (1 + d*X*x3*Y*y3) * (A*B) := by rw [← hx, ← hy]; grind
  rw [e]; exact fmul_ne h (fmul_ne hA hB)
theorem den_ly {d X Y A B nX nY x3 y3 : F} (hx : X * A = nX) (hy : Y * B = nY) (hA : A ≠ 0) (hB : B ≠ 0) (h : 1 - d*X*x3*Y*y3 ≠ 0) : A*B - d*nX*nY*x3*y3 ≠ 0 := by
  have e : A*B - d*nX*nY*x3*y3 = (1 - d*X*x3*Y*y3) * (A*B) := by rw [← hx, ← hy]; grind
  rw [e]; exact fmul_ne h (fmul_ne hA hB)
theorem den_r {d X Y A B nX nY x1 y1 : F} (hx : X * A = nX) (hy : Y * B = nY) (hA : A ≠ 0) (hB : B ≠ 0) (h : 1 + d*x1*X*y1*Y ≠ 0) : A*B + d*x1*y1*nX*nY ≠ 0 := by
  have e : A*B + d*x1*y1*nX*nY = (1 + d*x1*X*y1*Y) * (A*B) := by rw [← hx, ← hy]; grind
  rw [e]; exact fmul_ne h (fmul_ne hA hB)
theorem den_ry {d X Y A B nX nY x1 y1 : F} (hx : X * A = nX) (hy : Y * B = nY) (hA : A ≠ 0) (hB : B ≠ 0) (h : 1 - d*x1*X*y1*Y ≠ 0) : A*B - d*x1*y1*nX*nY ≠ 0 := by
  have e : A*B - d*x1*y1*nX*nY = (1 - d*x1*X*y1*Y) * (A*B) := by rw [← hx, ← hy]; grind
  rw [e]; exact fmul_ne h (fmul_ne hA hB)
theorem EP.assoc (P Q R : EP) : (P.add Q).add R = P.add (Q.add R) := by
  obtain ⟨a1, a2⟩ := ed_den P Q
  obtain ⟨b1, b2⟩ := ed_den Q R
  obtain ⟨c1, c2⟩ := ed_den (P.add Q) R
  obtain ⟨d1, d2⟩ := ed_den P (Q.add R)
  have ux := EP.addx P Q
  have uy := EP.addy P Q
  have vx := EP.addx Q R
  have vy := EP.addy Q R
  have sx := EP.addx (P.add Q) R
  have sy := EP.addy (P.add Q) R
  have tx := EP.addx P (Q.add R)
  have ty := EP.addy P (Q.add R)
  have ix := ed_assx dE P.x P.y Q.x Q.y R.x R.y P.on Q.on R.on
  have iy := ed_assy dE P.x P.y Q.x Q.y R.x R.y P.on Q.on R.on
  apply EP.ext'
  · exact frac_eq (den_l ux uy a1 a2 c1) (den_r vx vy b1 b2 d1) (ass_l ux uy sx) (ass_r vx vy tx) ix
  · exact frac_eq (den_ly ux uy a1 a2 c2) (den_ry vx vy b1 b2 d2) (ass_ly ux uy sy) (ass_ry vx vy ty) iy
def EP.O : EP := ⟨0, 1, by decide⟩
theorem EP.add_O (P : EP) : P.add EP.O = P := by
  apply EP.ext'
  · refine fcancel (ed_den P EP.O).1 ((EP.addx P EP.O).trans ?_)
    show P.x * 1 + P.y * 0 = P.x * (1 + dE*P.x*0*P.y*1)
    generalize dE = d
    grind
  · refine fcancel (ed_den P EP.O).2 ((EP.addy P EP.O).trans ?_)
    show P.y * 1 - P.x * 0 = P.y * (1 - dE*P.x*0*P.y*1)
    generalize dE = d
    grind
theorem EP.O_add (P : EP) : EP.O.add P = P := by rw [EP.comm, EP.add_O]
def EP.neg (P : EP) : EP := ⟨-P.x, P.y, by
  have h := P.on
  generalize dE = d at *
  grind⟩
theorem EP.add_neg (P : EP) : P.add P.neg = EP.O := by
  have h := P.on
  apply EP.ext'
  · refine fcancel (ed_den P P.neg).1 ((EP.addx P P.neg).trans ?_)
    show P.x * P.y + P.y * (-P.x) = 0 * _
    grind
  · refine fcancel (ed_den P P.neg).2 ((EP.addy P P.neg).trans ?_)
    show P.y * P.y - P.x * (-P.x) = 1 * (1 - dE*P.x*(-P.x)*P.y*P.y)
    generalize dE = d at *
    grind
noncomputable def EP.mul : Nat → EP → EP
  | 0, _ => EP.O
  | n + 1, P => (EP.mul n P).add P
theorem EP.mul_succ (n : Nat) (P : EP) : EP.mul (n + 1) P = (EP.mul n P).add P := rfl
theorem EP.mul_add (m : Nat) (P : EP) : ∀ n, EP.mul (m + n) P = (EP.mul m P).add (EP.mul n P)
  | 0 => (EP.add_O _).symm
  | n + 1 => by
    rw [← Nat.add_assoc, EP.mul_succ, EP.mul_add m P n, EP.assoc, ← EP.mul_succ]
theorem EP.mul_O : ∀ n, EP.mul n EP.O = EP.O
  | 0 => rfl
  | n + 1 => by rw [EP.mul_succ, EP.mul_O n, EP.add_O]
theorem EP.mul_mul (n : Nat) (P : EP) : ∀ m, EP.mul (m * n) P = EP.mul m (EP.mul n P)
  | 0 => by rw [Nat.zero_mul]; rfl
  | m + 1 => by rw [Nat.succ_mul, EP.mul_add, EP.mul_mul n P m, EP.mul_succ]
theorem EP.mul_gcd (P : EP) (m n : Nat) : EP.mul m P = EP.O → EP.mul n P = EP.O → EP.mul (Nat.gcd m n) P = EP.O := by
  induction m, n using Nat.gcd.induction with
  | H0 n => intro _ h; rw [Nat.gcd_zero_left]; exact h
  | H1 m n hm ih =>
    intro h1 h2
    rw [Nat.gcd_rec]
    refine ih ?_ h1
    have e : EP.mul n P = (EP.mul (n / m) (EP.mul m P)).add (EP.mul (n % m) P) := by
      rw [← EP.mul_mul, ← EP.mul_add, Nat.mul_comm, Nat.div_add_mod]
    rw [h1, EP.mul_O, EP.O_add] at e
    rw [← e]; exact h2
def UR (X Z : F) (P : EP) : Prop := ∃ k : F, k ≠ 0 ∧ X = k * (1 + P.y) ∧ Z = k * (1 - P.y)
theorem y_den (P : EP) : 1 - dE*P.y*P.y ≠ 0 := fun h => by
  have h1 : dE * P.y * P.y = 1 * 1 := by
    generalize dE = d at *
    grind
  have h2 := nonsq h1
  rw [h2] at h
  exact absurd h (by decide)
def dblX (X Z : F) : F := (X + Z) * (X + Z) * ((X - Z) * (X - Z))
def dblZ (X Z : F) : F := ((X + Z) * (X + Z) - (X - Z) * (X - Z)) * ((X + Z) * (X + Z) + 121665 * ((X + Z) * (X + Z) - (X - Z) * (X - Z)))
theorem dbl_alg (d k y v D N a : F) (hd : d * 121666 = 121665) (h1 : (1 - d*y*y)*D = 1 - 2*d*y*y + d*y*y*y*y) (h2 : (1 - d*y*y)*N = 2*y*y - 1 - d*y*y*y*y) (hv : v * D = N) :
    dblX (k*(1+y)) (k*(1-y)) = 8*k*k*k*k*121666*((1 - d*y*y)*D)*(1 + v) ∧ dblZ (k*(1+y)) (k*(1-y)) = 8*k*k*k*k*121666*((1 - d*y*y)*D)*(1 - v) := by
  have e : (1 - d*y*y)*D*v = 2*y*y - 1 - d*y*y*y*y := by rw [← h2, ← hv]; grind
  have e1 : 8*k*k*k*k*121666*((1 - d*y*y)*D)*(1 + v) = 8*k*k*k*k*121666*((1 - d*y*y)*D + (1 - d*y*y)*D*v) := by grind
  have e2 : 8*k*k*k*k*121666*((1 - d*y*y)*D)*(1 - v) = 8*k*k*k*k*121666*((1 - d*y*y)*D - (1 - d*y*y)*D*v) := by grind
  rw [e1, e2, e, h1]
  unfold dblX dblZ
  constructor
  · have : 8*k*k*k*k*121666*(1 - 2*d*y*y + d*y*y*y*y + (2*y*y - 1 - d*y*y*y*y)) = 16*k*k*k*k*y*y*(121666 - d*121666) := by grind
    rw [this, hd]; grind
  · have : 8*k*k*k*k*121666*(1 - 2*d*y*y + d*y*y*y*y - (2*y*y - 1 - d*y*y*y*y)) = 16*k*k*k*k*(121666 - (d*121666)*y*y - 121666*y*y + (d*121666)*y*y*y*y) := by grind
    rw [this, hd]; grind
theorem UR.dbl {X Z : F} {P : EP} (h : UR X Z P) : UR (dblX X Z) (dblZ X Z) (P.add P) := by
  obtain ⟨k, hk, rfl, rfl⟩ := h
  have hD := (ed_den P P).2
  have hc := y_den P
  have hv := EP.addy P P
  have e0 : 1 - dE*P.x*P.x*P.y*P.y = 1 - dE*P.x*P.x*P.y*P.y := rfl
  have h1 := ed_dbl1 dE P.x P.y P.on
  have h2 := ed_dbl2 dE P.x P.y P.on
  obtain ⟨g1, g2⟩ := dbl_alg dE k P.y (P.add P).y _ _ 0 dE_is h1 h2 hv
  refine ⟨_, ?_, g1, g2⟩
  refine fmul_ne (fmul_ne (fmul_ne (fmul_ne (fmul_ne (fmul_ne (by decide) hk) hk) hk) hk) (by decide)) (fmul_ne hc hD)
def addX (X1 Z1 X2 Z2 : F) : F := ((X2 + Z2) * (X1 - Z1) + (X2 - Z2) * (X1 + Z1)) * ((X2 + Z2) * (X1 - Z1) + (X2 - Z2) * (X1 + Z1))
def addZ (u X1 Z1 X2 Z2 : F) : F := u * (((X2 + Z2) * (X1 - Z1) - (X2 - Z2) * (X1 + Z1)) * ((X2 + Z2) * (X1 - Z1) - (X2 - Z2) * (X1 + Z1)))
theorem diff_alg (u k m y1 y2 yB yS : F) (hu : u * (1 - yB) = 1 + yB) (hB : 1 - yB ≠ 0) (h : (1 - yS)*(1 - yB)*(y1 + y2)*(y1 + y2) = (1 + yS)*(1 + yB)*(y1 - y2)*(y1 - y2)) :
    addX (k*(1+y1)) (k*(1-y1)) (m*(1+y2)) (m*(1-y2)) * (1 - yS) = addZ u (k*(1+y1)) (k*(1-y1)) (m*(1+y2)) (m*(1-y2)) * (1 + yS) := by
  refine fcancel hB ?_
  have e1 : addX (k*(1+y1)) (k*(1-y1)) (m*(1+y2)) (m*(1-y2)) * (1 - yS) * (1 - yB) = 16*k*k*m*m*((1 - yS)*(1 - yB)*(y1 + y2)*(y1 + y2)) := by unfold addX; grind
  have e2 : addZ u (k*(1+y1)) (k*(1-y1)) (m*(1+y2)) (m*(1-y2)) * (1 + yS) * (1 - yB) = 16*k*k*m*m*((1 + yS)*(u*(1 - yB))*(y1 - y2)*(y1 - y2)) := by unfold addZ; grind
  rw [e1, e2, hu, h]
theorem UR.of_ratio {X Z : F} {P : EP} (h : X * (1 - P.y) = Z * (1 + P.y)) (hne : X + Z ≠ 0) : UR X Z P := by
  have h2 := finv_mul two_ne
  refine ⟨finv 2 * (X + Z), fmul_ne (fun h => ?_) hne, ?_, ?_⟩
  · rw [h] at h2; exact absurd h2 (by decide)
  · refine fcancel two_ne ?_
    generalize finv 2 = i at *
    generalize P.y = y at *
    have : i * (X + Z) * (1 + y) * 2 = (i * 2) * (X + Z) * (1 + y) := by grind
    rw [this, h2]; grind
  · refine fcancel two_ne ?_
    generalize finv 2 = i at *
    generalize P.y = y at *
    have : i * (X + Z) * (1 - y) * 2 = (i * 2) * (X + Z) * (1 - y) := by grind
    rw [this, h2]; grind
theorem cd1 (A C yS yB p q : F) : (1 - yS)*(1 - yB)*p*p*(A*C) = (A - A*yS)*(C - C*yB)*p*p := by grind
theorem cd2 (A C yS yB p q : F) : (1 + yS)*(1 + yB)*q*q*(A*C) = (A + A*yS)*(C + C*yB)*q*q := by grind
theorem cancel_diff {A C yS yB p q : F} (hA : A ≠ 0) (hC : C ≠ 0) (h : (A - A*yS)*(C - C*yB)*p*p = (A + A*yS)*(C + C*yB)*q*q) : (1 - yS)*(1 - yB)*p*p = (1 + yS)*(1 + yB)*q*q :=
  fcancel (c := A * C) (fmul_ne hA hC) ((cd1 A C yS yB p q).trans (h.trans (cd2 A C yS yB p q).symm))
theorem EP.sub_back (P B : EP) : (P.add B).add P.neg = B := by
  rw [EP.comm P B, EP.assoc, EP.add_neg, EP.add_O]
theorem sub_y (P B : EP) : B.y * (1 + dE*P.x*(P.add B).x*P.y*(P.add B).y) = P.y*(P.add B).y + P.x*(P.add B).x := by
  have h := EP.addy (P.add B) P.neg
  rw [EP.sub_back] at h
  have h' : B.y * (1 - dE*(P.add B).x*(-P.x)*(P.add B).y*P.y) = (P.add B).y*P.y - (P.add B).x*(-P.x) := h
  generalize (P.add B).x = x2 at *
  generalize (P.add B).y = y2 at *
  generalize dE = d at *
  have e : 1 + d*P.x*x2*P.y*y2 = 1 - d*x2*(-P.x)*y2*P.y := by grind
  rw [e, h']; grind
theorem addX_is (k m y1 y2 : F) : addX (k*(1+y1)) (k*(1-y1)) (m*(1+y2)) (m*(1-y2)) = 16 * ((k*m*(y1+y2)) * (k*m*(y1+y2))) := by unfold addX; grind
theorem addZ_is (u k m y1 y2 : F) : addZ u (k*(1+y1)) (k*(1-y1)) (m*(1+y2)) (m*(1-y2)) = 16 * (u * ((k*m*(y1-y2)) * (k*m*(y1-y2)))) := by unfold addZ; grind
theorem two_z (p q u s : F) (h : 16 * (p * p) + 16 * (u * (q * q)) = 0) (hr : 16 * (p * p) * (1 - s) = 16 * (u * (q * q)) * (1 + s)) : 2 * (16 * (u * (q * q))) = 0 := by
  generalize 16 * (p * p) = a at *
  generalize 16 * (u * (q * q)) = b at *
  have e : a = -b := by grind
  subst e; grind
theorem on_y0 (d x : F) (h : x*x + 0*0 = 1 + d*x*x*0*0) : x * x = 1 := by grind
theorem hs_y0 (d yB x1 x2 : F) (h : yB * (1 + d*x1*x2*0*0) = 0*0 + x1*x2) : yB = x1 * x2 := by grind
theorem sq_one (x1 x2 : F) : (1 - x1 * x2) * (1 + x1 * x2) = 1 - (x1 * x1) * (x2 * x2) := by grind
theorem half_1 (a b : F) (h1 : a + b = 0) (h2 : a - b = 0) : 2 * a = 0 := by grind
theorem half_2 (b : F) (h1 : 0 + b = 0) : b = 0 := by grind
theorem diff_ne {u k m y1 y2 yB x1 x2 d : F} (hk : k ≠ 0) (hm : m ≠ 0) (hu : u * (1 - yB) = 1 + yB) (hu0 : u ≠ 0) (hB : 1 - yB ≠ 0) (on1 : x1*x1 + y1*y1 = 1 + d*x1*x1*y1*y1) (on2 : x2*x2 + y2*y2 = 1 + d*x2*x2*y2*y2) (hs : yB * (1 + d*x1*x2*y1*y2) = y1*y2 + x1*x2)
    (yS : F) (hr : addX (k*(1+y1)) (k*(1-y1)) (m*(1+y2)) (m*(1-y2)) * (1 - yS) = addZ u (k*(1+y1)) (k*(1-y1)) (m*(1+y2)) (m*(1-y2)) * (1 + yS)) :
    addX (k*(1+y1)) (k*(1-y1)) (m*(1+y2)) (m*(1-y2)) + addZ u (k*(1+y1)) (k*(1-y1)) (m*(1+y2)) (m*(1-y2)) ≠ 0 := by
  intro h
  have eX := addX_is k m y1 y2
  have eZ := addZ_is u k m y1 y2
  rw [eX, eZ] at hr h
  generalize hp : k*m*(y1+y2) = p at *
  generalize hq : k*m*(y1-y2) = q at *
  have h16 : (16 : F) ≠ 0 := by decide
  have h2z := two_z p q u yS h hr
  have hz : q = 0 := by
    rcases fzero h2z with h1 | h1
    · exact absurd h1 (by decide)
    · rcases fzero h1 with h1 | h1
      · exact absurd h1 h16
      · rcases fzero h1 with h1 | h1
        · exact absurd h1 hu0
        · exact (fzero h1).elim id id
  have hx : p = 0 := by
    rw [hz] at h
    have : 16 * (p * p) = 0 := by
      clear hr h2z hp hq on1 on2 hs hu eX eZ
      grind
    rcases fzero this with h1 | h1
    · exact absurd h1 h16
    · exact (fzero h1).elim id id
  have hkm := fmul_ne hk hm
  have s1 : y1 + y2 = 0 := by rw [hx] at hp; exact (fzero hp).resolve_left hkm
  have s2 : y1 - y2 = 0 := by rw [hz] at hq; exact (fzero hq).resolve_left hkm
  have t1 : 2 * y1 = 0 := half_1 y1 y2 s1 s2
  have z1 : y1 = 0 := (fzero t1).resolve_left (by decide)
  subst z1
  have z2 : y2 = 0 := half_2 y2 s1
  subst z2
  have a1 := on_y0 d x1 on1
  have a2 := on_y0 d x2 on2
  have a3 := hs_y0 d yB x1 x2 hs
  have a4 : (1 - yB) * (1 + yB) = 0 := by
    rw [a3, sq_one, a1, a2]; decide
  have a5 := (fzero a4).resolve_left hB
  rw [a5] at hu
  exact (fzero hu).elim hu0 hB
theorem UR.diff {u X1 Z1 X2 Z2 : F} {P B : EP} (h1 : UR X1 Z1 P) (h2 : UR X2 Z2 (P.add B)) (hu : u * (1 - B.y) = 1 + B.y) (hu0 : u ≠ 0) (hB : 1 - B.y ≠ 0) :
    UR (addX X1 Z1 X2 Z2) (addZ u X1 Z1 X2 Z2) (P.add (P.add B)) := by
  obtain ⟨k, hk, rfl, rfl⟩ := h1
  obtain ⟨m, hm, rfl, rfl⟩ := h2
  have hs := sub_y P B
  have hy := EP.addy P (P.add B)
  obtain ⟨dC, dA⟩ := ed_den P (P.add B)
  have hd := ed_diff dE P.x P.y (P.add B).x (P.add B).y P.on (P.add B).on
  have hr : (1 - (P.add (P.add B)).y)*(1 - B.y)*(P.y + (P.add B).y)*(P.y + (P.add B).y) = (1 + (P.add (P.add B)).y)*(1 + B.y)*(P.y - (P.add B).y)*(P.y - (P.add B).y) := by
    refine cancel_diff dA dC ?_
    have e1 : (1 - dE*P.x*(P.add B).x*P.y*(P.add B).y) * (P.add (P.add B)).y = P.y*(P.add B).y - P.x*(P.add B).x := by rw [← hy]; exact Fin.mul_comm _ _
    have e2 : (1 + dE*P.x*(P.add B).x*P.y*(P.add B).y) * B.y = P.y*(P.add B).y + P.x*(P.add B).x := by rw [← hs]; exact Fin.mul_comm _ _
    rw [e1, e2]; exact hd
  have hr2 := diff_alg u k m P.y (P.add B).y B.y _ hu hB hr
  exact UR.of_ratio hr2 (diff_ne hk hm hu hu0 hB P.on (P.add B).on hs _ hr2)
structure LS where
  X1 : F
  Z1 : F
  X2 : F
  Z2 : F
def lstep (u : F) (b : Bool) (s : LS) : LS :=
  if b then ⟨addX s.X1 s.Z1 s.X2 s.Z2, addZ u s.X1 s.Z1 s.X2 s.Z2, dblX s.X2 s.Z2, dblZ s.X2 s.Z2⟩
  else ⟨dblX s.X1 s.Z1, dblZ s.X1 s.Z1, addX s.X1 s.Z1 s.X2 s.Z2, addZ u s.X1 s.Z1 s.X2 s.Z2⟩
def lad (u : F) (l : List Bool) : LS := l.foldl (fun s b => lstep u b s) ⟨1, 0, u, 1⟩
theorem lad_ok {u : F} {B : EP} (hu : u * (1 - B.y) = 1 + B.y) (hu0 : u ≠ 0) (hB : 1 - B.y ≠ 0) (l : List Bool) :
    UR (lad u l).X1 (lad u l).Z1 (EP.mul (ofBits l) B) ∧ UR (lad u l).X2 (lad u l).Z2 (EP.mul (ofBits l + 1) B) := by
  have key : ∀ (l : List Bool) (s : LS) (n : Nat), UR s.X1 s.Z1 (EP.mul n B) → UR s.X2 s.Z2 (EP.mul (n + 1) B) →
      UR (l.foldl (fun s b => lstep u b s) s).X1 (l.foldl (fun s b => lstep u b s) s).Z1 (EP.mul (l.foldl (fun e b => 2 * e + b.toNat) n) B) ∧
      UR (l.foldl (fun s b => lstep u b s) s).X2 (l.foldl (fun s b => lstep u b s) s).Z2 (EP.mul (l.foldl (fun e b => 2 * e + b.toNat) n + 1) B) := by
    intro l
    induction l with
    | nil => intro s n h1 h2; exact ⟨h1, h2⟩
    | cons b l ih =>
      intro s n h1 h2
      have hsum : (EP.mul n B).add (EP.mul (n + 1) B) = EP.mul (2 * n + 1) B := by rw [← EP.mul_add]; congr 1; omega
      have hd := UR.diff h1 h2 hu hu0 hB
      have hd' : UR (addX s.X1 s.Z1 s.X2 s.Z2) (addZ u s.X1 s.Z1 s.X2 s.Z2) (EP.mul (2 * n + 1) B) := by rw [← hsum]; exact hd
      cases b with
      | true =>
        refine ih _ _ ?_ ?_
        · exact hd'
        · have := h2.dbl
          rw [← EP.mul_add] at this
          show UR (dblX s.X2 s.Z2) (dblZ s.X2 s.Z2) (EP.mul (2 * n + 1 + 1) B)
          rw [show 2 * n + 1 + 1 = n + 1 + (n + 1) by omega]
          exact this
      | false =>
        refine ih _ _ ?_ ?_
        · have := h1.dbl
          rw [← EP.mul_add] at this
          show UR (dblX s.X1 s.Z1) (dblZ s.X1 s.Z1) (EP.mul (2 * n + 0) B)
          rw [show 2 * n + 0 = n + n by omega]
          exact this
        · exact hd'
  refine key l _ 0 ⟨finv 2, fun h => ?_, ?_, ?_⟩ ?_
  · have h2 := finv_mul two_ne
    rw [h] at h2; exact absurd h2 (by decide)
  · have h2 := finv_mul two_ne
    show (1 : F) = finv 2 * (1 + 1)
    rw [show (1 : F) + 1 = 2 by decide, h2]
  · show (0 : F) = finv 2 * (1 - 1)
    generalize finv 2 = i
    grind
  · have hi := finv_mul hB
    have e1 : EP.mul (0 + 1) B = B := EP.O_add B
    rw [e1]
    refine ⟨finv (1 - B.y), fun h => ?_, ?_, ?_⟩
    · rw [h] at hi
      exact absurd hi (by rw [show (0 : F) * (1 - B.y) = 0 by grind]; decide)
    · show u = finv (1 - B.y) * (1 + B.y)
      rw [← hu]
      generalize finv (1 - B.y) = i at *
      generalize 1 - B.y = c at *
      have : i * (u * c) = u * (i * c) := by grind
      rw [this, hi]; grind
    · exact hi.symm
noncomputable def ux (P : EP) : F := (1 + P.y) * finv (1 - P.y)
theorem UR.ux {X Z : F} {P : EP} (h : UR X Z P) : X * finv Z = ux P := by
  obtain ⟨k, hk, rfl, rfl⟩ := h
  unfold Go.Proofs.YtdkjdioccpoacaaDoor.ux
  rw [finv_mulF]
  have := finv_mul hk
  generalize finv k = i at *
  generalize finv (1 - P.y) = j at *
  have e : k * (1 + P.y) * (i * j) = (i * k) * ((1 + P.y) * j) := by grind
  rw [e, this]; grind
abbrev ordL : Nat := 7237005577332262213973186563042994240857116359379907606001950938285454250989
theorem ordL_pr : Pr ordL := pr_7237005577332262213973186563042994240857116359379907606001950938285454250989
def B0 : EP := ⟨9771384041963202563870679428059935816164187996444183106833894008023910952347, 46316835694926478169428394003475163141307993866256225615783033603165251855960, by kernel_rfl⟩
theorem B0_u : 9 * (1 - B0.y) = 1 + B0.y := by kernel_rfl
theorem B0_ne : 1 - B0.y ≠ 0 := by decide
theorem lad_L : (lad 9 (bitsF 253 ordL)).Z1 = 0 := by kernel_rfl
theorem y1_O {P : EP} (h : 1 - P.y = 0) : P = EP.O := by
  have hy : P.y = 1 := by
    generalize P.y = y at *
    grind
  have ho := P.on
  apply EP.ext'
  · show P.x = 0
    rw [hy] at ho
    have e : (1 - dE) * P.x * P.x = 0 * 0 := by
      generalize dE = d at *
      grind
    have h2 : (1 - dE) * (P.x * P.x) = 0 := by
      have : (1 - dE) * (P.x * P.x) = (1 - dE) * P.x * P.x := by
        generalize dE = d at *
        grind
      rw [this, e]; decide
    have h3 := (fzero h2).resolve_left (by decide)
    exact (fzero h3).elim id id
  · exact hy
theorem UR.Z0 {X Z : F} {P : EP} (h : UR X Z P) (hZ : Z = 0) : P = EP.O := by
  obtain ⟨k, hk, _, hz⟩ := h
  rw [hZ] at hz
  exact y1_O ((fzero hz.symm).resolve_left hk)
theorem B0_ord : EP.mul ordL B0 = EP.O := by
  have h := (lad_ok (u := 9) (B := B0) B0_u (by decide) B0_ne (bitsF 253 ordL)).1
  rw [ofBits_bits 253 ordL (of_decide_eq_true (by kernel_rfl))] at h
  exact h.Z0 lad_L
theorem B0_dvd {n : Nat} (h : EP.mul n B0 = EP.O) : ordL ∣ n := by
  apply Classical.byContradiction
  intro hno
  have hg := EP.mul_gcd B0 ordL n B0_ord h
  rw [show Nat.gcd ordL n = 1 from ordL_pr.coprime hno] at hg
  have e1 : EP.mul 1 B0 = B0 := EP.O_add B0
  rw [e1] at hg
  have := congrArg EP.y hg
  exact absurd this (by decide)
theorem not_1 {n : Nat} (h : ¬ ordL ∣ n) : 1 - (EP.mul n B0).y ≠ 0 := fun e => h (B0_dvd (y1_O e))
theorem not_m1 {n : Nat} (h : ¬ ordL ∣ n) : 1 + (EP.mul n B0).y ≠ 0 := fun e => by
  have ho := (EP.mul n B0).on
  have hy := EP.addy (EP.mul n B0) (EP.mul n B0)
  generalize hP : EP.mul n B0 = P at *
  have ey : P.y = -1 := by
    generalize P.y = y at *
    grind
  have ex : P.x = 0 := by
    rw [ey] at ho
    have h2 : (1 - dE) * (P.x * P.x) = 0 := by
      clear hy
      generalize dE = d at *
      generalize P.x = x at *
      grind
    have h3 := (fzero h2).resolve_left (by decide)
    exact (fzero h3).elim id id
  rw [ey, ex] at hy
  have h1 : (P.add P).y = 1 := by
    have e2 : (P.add P).y * (1 - dE*0*0*(-1)*(-1)) = (P.add P).y := by
      generalize (P.add P).y = z at *
      generalize dE = d at *
      clear hy ho
      grind
    rw [e2] at hy
    rw [hy]; decide
  have h2 : P.add P = EP.O := y1_O (by rw [h1]; decide)
  rw [← hP, ← EP.mul_add] at h2
  have h3 := B0_dvd h2
  rw [show n + n = 2 * n by omega] at h3
  rcases ordL_pr.dvd_mul h3 with h4 | h4
  · exact absurd (Nat.le_of_dvd (by decide) h4) (by decide)
  · exact h h4
theorem ux_ne {P : EP} (h1 : 1 - P.y ≠ 0) (h2 : 1 + P.y ≠ 0) : ux P ≠ 0 := by
  unfold ux
  refine fmul_ne h2 fun h => ?_
  have := finv_mul h1
  rw [h] at this
  exact absurd this (by rw [show (0 : F) * (1 - P.y) = 0 by generalize P.y = y; grind]; decide)
theorem ux_eq {P : EP} (h1 : 1 - P.y ≠ 0) : ux P * (1 - P.y) = 1 + P.y := by
  unfold ux
  have := finv_mul h1
  generalize finv (1 - P.y) = i at *
  generalize 1 - P.y = c at *
  generalize 1 + P.y = e at *
  have : e * i * c = e * (i * c) := by grind
  rw [this]
  rename_i h
  rw [h]; grind
noncomputable def times (u : F) (l : List Bool) : F := (lad u l).X1 * finv (lad u l).Z1
theorem times_B0 (l : List Bool) : times 9 l = ux (EP.mul (ofBits l) B0) := (lad_ok B0_u (by decide) B0_ne l).1.ux
theorem times_P {n : Nat} (h : ¬ ordL ∣ n) (l : List Bool) : times (ux (EP.mul n B0)) l = ux (EP.mul (ofBits l) (EP.mul n B0)) :=
  (lad_ok (ux_eq (not_1 h)) (ux_ne (not_1 h) (not_m1 h)) (not_1 h) l).1.ux
theorem times_comm {l m : List Bool} (hl : ¬ ordL ∣ ofBits l) (hm : ¬ ordL ∣ ofBits m) : times (times 9 m) l = times (times 9 l) m ∧ times (times 9 m) l ≠ 0 := by
  rw [times_B0, times_B0, times_P hm, times_P hl, ← EP.mul_mul, ← EP.mul_mul, Nat.mul_comm (ofBits m)]
  have h : ¬ ordL ∣ ofBits l * ofBits m := fun h => (ordL_pr.dvd_mul h).elim hl hm
  exact ⟨rfl, ux_ne (not_1 h) (not_m1 h)⟩
theorem clamp_ne {k : Nat} (h1 : 2 ^ 251 ≤ k) (h2 : k < 2 ^ 252) : ¬ ordL ∣ 8 * k := fun h => by
  rcases ordL_pr.dvd_mul h with h3 | h3
  · exact absurd (Nat.le_of_dvd (by decide) h3) (by decide)
  · have := Nat.le_of_dvd (Nat.lt_of_lt_of_le (by decide) h1) h3
    have h5 : (2 : Nat) ^ 252 = 7237005577332262213973186563042994240829374041602535252466099000494570602496 := by kernel_rfl
    have h6 : ordL = 7237005577332262213973186563042994240857116359379907606001950938285454250989 := rfl
    rw [h6] at this; omega
end Go.Proofs.YtdkjdioccpoacaaDoor
