/- Walks of layer 10's laws: fit, to, GuardSeals, GuardReads. No further conditions. -/
import Derived.Test.YtmoaddicejohgaaDoorGuard6
import Derived.Test.YtmoaddicejohgaaDoorGuard1
import Derived.Test.YtmoaddicejohgaaDoorJoin
set_option linter.unusedSimpArgs false
set_option linter.unusedVariables false
set_option maxRecDepth 100000
set_option maxHeartbeats 4000000
namespace Go.Proofs.YtmoaddicejohgaaDoor
open Go
open List (getD_cons_zero getD_cons_succ set_cons_zero set_cons_succ)

theorem fit_a (a b c hd ca : ByteArray) (size number ex : Int) (ft : Bool) (w : World) (hs1 : -9223372036854775808 ≤ size) (hs2 : size ≤ 9223372036854775807) (hz : 0 < min hd.size 60) : Ret Tryd.prog 11 #[.agg #[.string a, .string b, .string c, .string hd, I64 size, I64 number, .string ca, I64 ex, BV ft]] w fun v w' => ∃ s : ByteArray, v = .string s ∧ Chg [] w w' ∧ s.size ≤ 66 := by
 have hex : (hd.extract 0 (min hd.size 60)).size = min hd.size 60 := by rw [ByteArray.size_extract]; omega
 have hex2 : (hd.extract 0 (min hd.size 60)).data.toList.length = min hd.size 60 := hex
 refine Ret.enter Tryd.func11 rfl ?_
 simp only [Tryd.ntmps11, fe, Nat.reduceAdd, Nat.reduceSub]
 have hH := Hp.start [] w
 refine wp_seq_k ?_
 intro K1 hK1
 refine wrt [.x 0, .p 1] ?_
 refine plan_box rfl rfl hH rfl ?_
 clear hH
 intro b2 w3 hH
 (try simp only [nf, nh, Value.cells, arrB_set] at hH ⊢)
 refine pa ?_;simp only [nf]
 refine plan_nil hH ?_
 clear hH
 intro w4 hH
 refine hK1 _ _ ?_
 (try clear hK1 K1)
 refine wp_seq_k ?_
 intro K5 hK5
 refine wrt [.p 0, .q 1, .p 2, .q 3, .p 4, .p 5, .p 6, .p 7] ?_
 refine pp rfl rfl (pr_fieldAddr 3 rfl Tryd.underlying32 rfl rfl sz9) ?_;simp only [nf]
 refine pq rfl rfl (qr_load1 rfl Tryd.underlying9 rfl ((hH.blk 0 rfl).cell rfl)) ?_;simp only [nf]
 refine pp rfl rfl (pr_fieldAddr 3 rfl Tryd.underlying32 rfl rfl sz9) ?_;simp only [nf]
 refine pq rfl rfl (qr_load1 rfl Tryd.underlying9 rfl ((hH.blk 0 rfl).cell rfl)) ?_;simp only [nf]
 refine pp rfl rfl (pr_len_str rfl Tryd.underlying9) ?_;simp only [nf]
 refine pp rfl rfl (by first | exact pr_min_n (n := 60) rfl rfl | exact pr_min rfl rfl) ?_;simp only [nf]
 refine pp rfl rfl (pr_slice_str_h rfl rfl Tryd.underlying9 (by first | omega | (first | (rw [hex]; omega) | (simp; done) | (simp; omega)))) ?_;simp only [nf]
 refine pa ?_;simp only [nf]
 refine plan_nil hH ?_
 clear hH
 intro w6 hH
 refine hK5 _ _ ?_
 (try clear hK5 K5)
 refine wp_seq_k ?_
 intro K7 hK7
 refine wp_seq_k ?_
 intro K8 hK8
 refine wrt [.p 0, .q 1, .p 2, .p 3, .p 4, .q 5, .p 6, .p 7, .p 8, .p 9, .q 10, .p 11, .p 12] ?_
 refine pp rfl rfl (pr_fieldAddr 8 rfl Tryd.underlying32 rfl rfl sz4) ?_;simp only [nf]
 refine pq rfl rfl (qr_load1 rfl Tryd.underlying4 rfl ((hH.blk 0 rfl).cell rfl)) ?_;simp only [nf]
 refine pp rfl rfl (pr_not rfl) ?_;simp only [nf]
 refine pm ?_;simp only [nf]
 refine plan_pc_f rfl rfl rfl (fun hb => by have hb' := hb; try simp only [gsl] at hb'; rw [hb]; exact (pr_fieldAddr 4 rfl Tryd.underlying32 rfl rfl sz3)) ?_
 (try simp only [nf])
 refine plan_qc_f rfl rfl rfl (fun hb => by have hb' := hb; try simp only [gsl] at hb'; rw [hb]; exact (qr_load1 rfl Tryd.underlying3 rfl ((hH.blk 0 rfl).cell rfl))) ?_
 (try simp only [nf])
 refine plan_pc_f rfl rfl rfl (fun hb => by have hb' := hb; try simp only [gsl] at hb'; rw [hb]; exact (pr_bin rfl rfl (by first | exact bin_lss_n (n := 1)  | exact bin_lss_i))) ?_
 (try simp only [nf])
 refine pp rfl rfl (pr_pick_or rfl rfl rfl) ?_;simp only [nf]
 refine pm ?_;simp only [nf]
 refine plan_pc_f rfl rfl rfl (fun hb => by have hb' := hb; try simp only [gsl] at hb'; rw [hb]; exact (pr_fieldAddr 4 rfl Tryd.underlying32 rfl rfl sz3)) ?_
 (try simp only [nf])
 refine plan_qc_f rfl rfl rfl (fun hb => by have hb' := hb; try simp only [gsl] at hb'; rw [hb]; exact (qr_load1 rfl Tryd.underlying3 rfl ((hH.blk 0 rfl).cell rfl))) ?_
 (try simp only [nf])
 refine plan_pc_f rfl rfl rfl (fun hb => by have hb' := hb; try simp only [gsl] at hb'; rw [hb]; exact (pr_bin rfl rfl (by first | exact bin_gtr_n (n := 4)  | exact bin_gtr_i))) ?_
 (try simp only [nf])
 refine pp rfl rfl (pr_pick_or rfl rfl rfl) ?_;simp only [nf]
 refine plan_nil hH ?_
 clear hH
 intro w9 hH
 refine hK8 _ _ ?_
 (try clear hK8 K8)
 refine wp_cond_split rfl (fun hc10 => ?_) (fun hc10 => ?_)
 ·
  (try simp only [cnd, gsl] at hc10)
  refine wp_seq_k ?_
  intro K11 hK11
  refine wrt [.p 0, .p 1] ?_
  refine pm (pa ?_);simp only [nf]
  refine plan_nil hH ?_
  clear hH
  intro w12 hH
  refine hK11 _ _ ?_
  (try clear hK11 K11)
  refine wp_ret ?_
  (try simp only [Exit.then, Exit.inBlock, ↓reduceIte, Nat.reduceEqDiff])
  refine BP.ret1 rfl rfl ?_
  exact ⟨_, rfl, hH.chg, by rw [hex]; omega⟩
 ·
  (try simp only [cnd, gsl] at hc10)
  have hq := hc10
  obtain ⟨sz, rfl⟩ : ∃ k : Nat, size = k := ⟨size.toNat, by omega⟩
  refine wp_skip ?_
  refine hK7 _ _ ?_
  (try clear hK7 K7)
  refine wp_seq_k ?_
  intro K13 hK13
  refine wrt [.x 0, .e 1, .p 2, .e 3, .p 4] ?_
  refine plan_buildSlice rfl rfl hH Tryd.underlying22 (by rfl) (bs1 33) ?_
  clear hH
  intro b14 w15 hH
  (try simp only [nf, nh, Value.cells, arrB_set] at hH ⊢)
  refine plan_mark 1 rfl rfl hH rfl rfl Tryd.underlying22 Tryd.underlying5 ?_
  clear hH
  intro w16 hH
  (try simp only [nf] at hH ⊢)
  (try simp only [nf, nh, Value.cells, arrB_set] at hH ⊢)
  refine pm ?_;simp only [nf]
  refine plan_append 1 rfl rfl hH rfl (OwnC.of_bytes rfl) (fun w' hH => src_string _) rfl rfl Tryd.underlying22 Tryd.underlying9 (.inr rfl) sz5 bz5 ze5 rfl (by first | omega | (simp; omega) | (rw [hex2]; omega)) (by first | omega | (simp; omega) | (rw [hex2]; omega)) ?_
  clear hH
  intro o17 cap18 cs19 w20 hO21 hH
  (try simp only [nf] at hH ⊢)
  (try simp only [nf, nh, Value.cells, arrB_set] at hH ⊢)
  try rw [← List.map_append] at hO21
  (try simp only [Nat.zero_add, List.nil_append, List.length_nil] at hO21 ⊢)
  refine pa ?_;simp only [nf]
  refine plan_nil hH ?_
  clear hH
  intro w22 hH
  refine hK13 _ _ ?_
  (try clear hK13 K13)
  refine wp_seq_k ?_
  intro K23 hK23
  refine wp_seq_k ?_
  intro K24 hK24
  refine wrt [.p 0, .p 1, .p 2] ?_
  refine pm ?_;simp only [nf]
  refine pp rfl rfl (pr_len_str rfl Tryd.underlying9) ?_;simp only [nf]
  refine pp rfl rfl (pr_bin rfl rfl (by first | exact bin_gtr_n (n := 0)  | exact bin_gtr_i)) ?_;simp only [nf]
  refine plan_nil hH ?_
  clear hH
  intro w25 hH
  refine hK24 _ _ ?_
  (try clear hK24 K24)
  refine wp_cond_true (by show BV _ = _; rw [hex]; exact congrArg BV (decide_eq_true hz)) ?_
  refine wrt [.p 0, .x 1, .p 2] ?_
  refine pm ?_;simp only [nf]
  refine plan_s2b rfl rfl hH rfl Tryd.underlying9 Tryd.underlying22 Tryd.underlying5 ?_
  clear hH
  intro b26 cap27 cs28 w29 hO30 hH
  (try simp only [nf] at hH ⊢)
  (try simp only [nf, nh, Value.cells, arrB_set] at hH ⊢)
  refine pa ?_;simp only [nf]
  refine plan_nil hH ?_
  clear hH
  intro w31 hH
  rw [hex] at hO30 ⊢
  refine hK23 _ _ ?_
  (try clear hK23 K23)
  refine wp_seq_k ?_
  intro K32 hK32
  refine wrp [.p 0, .p 1, .p 2, .p 6, .q 3, .p 4, .p 5, .q 7, .p 8, .p 9, .p 10, .p 11, .e 12] ?_
  refine pm (pm ?_);simp only [nf]
  refine pp rfl rfl (pr_idx_Sl (i := 0) (OwnC.sl hH 2 rfl hO30) rfl rfl Tryd.underlying22 sz5 (by first | omega | (first | (rw [hex]; omega) | (simp; done) | (simp; omega)))) ?_;simp only [nf]
  refine pp rfl rfl (pr_fieldAddr 4 rfl Tryd.underlying32 rfl rfl sz3) ?_;simp only [nf]
  refine pq rfl rfl (qr_load1 rfl Tryd.underlying5 rfl (Sl.cell (i := 0) (OwnC.sl hH 2 rfl hO30) (by first | omega | (first | (rw [hex]; omega) | (simp; done) | (simp; omega))))) ?_;simp only [nf]
  refine pp rfl rfl (pr_bin rfl rfl (bin_quo_u8 _ 4 (by decide))) ?_;simp only [nf]
  refine pp rfl rfl (pr_bin rfl rfl (bin_mul_u8 _ 4)) ?_;simp only [nf]
  refine pq rfl rfl (qr_load1 rfl Tryd.underlying3 rfl ((hH.blk 0 rfl).cell rfl)) ?_;simp only [nf]
  refine pp rfl rfl (pr_bin rfl rfl (by first | exact bin_sub_n (n := 1) (by first | omega | (first | (rw [hex]; omega) | (simp; done) | (simp; omega))) (by first | omega | (first | (rw [hex]; omega) | (simp; done) | (simp; omega))) | exact bin_sub_i (by first | omega | (first | (rw [hex]; omega) | (simp; done) | (simp; omega))) (by first | omega | (first | (rw [hex]; omega) | (simp; done) | (simp; omega))))) ?_;simp only [nf]
  refine pp rfl rfl (pr_conv rfl (by first | exact cnv_n_u8 Tryd.underlying3 Tryd.underlying5 | exact cnv_i_u8 Tryd.underlying3 Tryd.underlying5)) ?_;simp only [nf]
  refine pp rfl rfl (pr_bin rfl rfl (bin_add_u8 _ _)) ?_;simp only [nf]
  refine pp rfl rfl (pr_idx_Sl (i := 0) (OwnC.sl hH 2 rfl hO30) rfl rfl Tryd.underlying22 sz5 (by first | omega | (first | (rw [hex]; omega) | (simp; done) | (simp; omega)))) ?_;simp only [nf]
  refine plan_storeO 2 (j := 0) rfl rfl hH rfl rfl hO30 rfl sz5 (by first | omega | (first | (rw [hex]; omega) | (simp; done) | (simp; omega))) ?_
  clear hH
  intro cs34 w33 hO35 hH
  (try simp only [nf, nh, Value.cells, arrB_set] at hH ⊢)
  refine plan_nil hH ?_
  clear hH
  intro w36 hH
  refine hK32 _ _ ?_
  (try clear hK32 K32)
  refine wp_seq_k ?_
  intro K37 hK37
  refine wp_seq_k ?_
  intro K38 hK38
  refine wrt [.p 0, .q 1, .p 2, .p 3] ?_
  refine pp rfl rfl (pr_fieldAddr 4 rfl Tryd.underlying32 rfl rfl sz3) ?_;simp only [nf]
  refine pq rfl rfl (qr_load1 rfl Tryd.underlying3 rfl ((hH.blk 0 rfl).cell rfl)) ?_;simp only [nf]
  refine pp rfl rfl (pr_bin rfl rfl (by first | exact bin_sub_n (n := 1) (by first | omega | (first | (rw [hex]; omega) | (simp; done) | (simp; omega))) (by first | omega | (first | (rw [hex]; omega) | (simp; done) | (simp; omega))) | exact bin_sub_i (by first | omega | (first | (rw [hex]; omega) | (simp; done) | (simp; omega))) (by first | omega | (first | (rw [hex]; omega) | (simp; done) | (simp; omega))))) ?_;simp only [nf]
  refine pa ?_;simp only [nf]
  refine plan_nil hH ?_
  clear hH
  intro w39 hH
  rw [show ((sz - 1 : Nat) : Int) = (sz : Int) - 1 - ((0 : Nat) : Int) by omega]
  refine hK38 _ _ ?_
  (try clear hK38 K38)
  refine wp_block ?_
  obtain ⟨kc40, hkc41, hN⟩ := hH.name 0 rfl
  replace hH := hN; clear hN; simp only [List.set_cons_zero, List.set_cons_succ] at hH
  refine wp_loopT [4, 5] [51, 52, 53, 54, 55, 56, 57, 58, 59, 60, 61, 62, 63] (fun (n42 : Nat) (vs : List Value) (w' : World) => ∃ (k : Nat) (o : Option Nat) (c' : Nat) (cs : Array Value), vs = [own o (min hd.size 60 + k) c', I64 ((sz : Int) - 1 - (k : Nat))] ∧ Hp [] w w' [(some b2, 32, kc40), (o17, 5, cs19), (o, 5, cs)] ∧ n42 = sz - k ∧ k ≤ sz ∧ ∃ l : List UInt8, OwnC o (min hd.size 60 + k) c' 1 cs (l.map V8)) (sz - 0) (by kernel_rfl) ?_ ?_
  ·
   simp only [ga]
   refine ⟨0, some b26, cap27, cs34, rfl, ?_, rfl, ?_, ?_⟩
   ·
    exact hH.take 3
   · first | omega | (omega)
   · first | omega | (exact ⟨_, hO35⟩)
  clear hH
  intro n42 vs43 w44 hR45 d0
  obtain ⟨k, o, c', cs, rfl, hH, hn46, hf47, hOe⟩ := hR45
  simp only [putAll, putD, List.set_cons_zero, List.set_cons_succ, Nat.zero_add, Nat.reduceAdd]
  obtain ⟨l, hO⟩ := hOe
  subst hkc41
  refine wp_seq_k ?_
  intro K48 hK48
  refine wp_seq_k ?_
  intro K49 hK49
  refine wrt [.p 0, .p 1] ?_
  refine pm ?_;simp only [nf]
  refine pp rfl rfl (pr_bin rfl rfl (by first | exact bin_geq_n (n := 0)  | exact bin_geq_i)) ?_;simp only [nf]
  refine plan_nil hH ?_
  clear hH
  intro w50 hH
  refine hK49 _ _ ?_
  (try clear hK49 K49)
  refine wp_cond_split rfl (fun hc51 => ?_) (fun hc51 => ?_)
  ·
   (try simp only [cnd, gsl] at hc51)
   simp only [show ((sz : Int) - 1 - (k : Nat)) = ((sz - 1 - k : Nat) : Int) by omega]
   refine wp_skip ?_
   refine hK48 _ _ ?_
   (try clear hK48 K48)
   refine wp_seq_k ?_
   intro K52 hK52
   refine wp_block ?_
   refine wrt [.p 0, .p 1, .q 2, .p 3, .p 4, .p 5, .p 6, .x 7, .e 8, .p 9] ?_
   refine pm ?_;simp only [nf]
   refine pp rfl rfl (pr_fieldAddr 5 rfl Tryd.underlying32 rfl rfl sz3) ?_;simp only [nf]
   refine pq rfl rfl (qr_load1 rfl Tryd.underlying3 rfl ((hH.blk 0 rfl).cell rfl)) ?_;simp only [nf]
   refine pm ?_;simp only [nf]
   refine pp rfl rfl (pr_bin rfl rfl (by first | exact bin_mul_n (m := 8) (by first | omega | (first | (rw [hex]; omega) | (simp; done) | (simp; omega))) | exact bin_mul_i (by first | omega | (first | (rw [hex]; omega) | (simp; done) | (simp; omega))) (by first | omega | (first | (rw [hex]; omega) | (simp; done) | (simp; omega))))) ?_;simp only [nf]
   refine pp rfl rfl (pr_bin rfl rfl (by first | exact bin_shr_n (by first | omega | (first | (rw [hex]; omega) | (simp; done) | (simp; omega))) | exact bin_shr_i (by first | omega | (first | (rw [hex]; omega) | (simp; done) | (simp; omega))))) ?_;simp only [nf]
   refine pp rfl rfl (pr_conv rfl (by first | exact cnv_n_u8 Tryd.underlying3 Tryd.underlying5 | exact cnv_i_u8 Tryd.underlying3 Tryd.underlying5)) ?_;simp only [nf]
   refine plan_buildSlice rfl rfl hH Tryd.underlying22 (by rfl) (bs1 _) ?_
   clear hH
   intro b53 w54 hH
   (try simp only [nf, nh, Value.cells, arrB_set] at hH ⊢)
   refine plan_append 2 rfl rfl hH rfl hO (fun w' hH => ((OwnC.sl hH 3 rfl (OwnC.of_bytes rfl))).src) rfl rfl Tryd.underlying22 Tryd.underlying22 (.inl ⟨_, rfl⟩) sz5 bz5 ze5 rfl (by first | omega | (simp; omega) | (rw [hex2]; omega)) (by first | omega | (simp; omega) | (rw [hex2]; omega)) ?_
   clear hH
   intro o55 cap56 cs57 w58 hO59 hH
   (try simp only [nf] at hH ⊢)
   (try simp only [nf, nh, Value.cells, arrB_set] at hH ⊢)
   try rw [← List.map_append] at hO59
   (try simp only [Nat.zero_add, List.nil_append, List.length_nil] at hO59 ⊢)
   refine pa ?_;simp only [nf]
   refine plan_nil hH ?_
   clear hH
   intro w60 hH
   refine hK52 _ _ ?_
   (try clear hK52 K52)
   refine wrt [.p 0, .p 1, .p 2] ?_
   refine pm ?_;simp only [nf]
   refine pp rfl rfl (pr_bin rfl rfl (by first | exact bin_sub_n (n := 1) (by first | omega | (first | (rw [hex]; omega) | (simp; done) | (simp; omega))) (by first | omega | (first | (rw [hex]; omega) | (simp; done) | (simp; omega))) | exact bin_sub_i (by first | omega | (first | (rw [hex]; omega) | (simp; done) | (simp; omega))) (by first | omega | (first | (rw [hex]; omega) | (simp; done) | (simp; omega))))) ?_;simp only [nf]
   refine pa ?_;simp only [nf]
   refine plan_nil hH ?_
   clear hH
   intro w61 hH
   (try simp only [Exit.then, Exit.inBlock, ↓reduceIte, Nat.reduceEqDiff])
   rw [show (((sz - 1 - k : Nat) : Int) - 1) = (sz : Int) - 1 - ((k + 1 : Nat) : Int) by omega]
   refine ⟨sz - (k + 1), ?_, _, rfl, by kernel_rfl, ?_⟩
   · first | omega | (omega)
   simp only [ga]
   refine ⟨k + 1, o55, cap56, cs57, rfl, ?_, rfl, ?_, ?_⟩
   ·
    exact hH.take 3
   · first | omega | (omega)
   · first | omega | (exact ⟨_, hO59⟩)
  ·
   (try simp only [cnd, gsl] at hc51)
   refine wp_exit ?_
   (try simp only [Exit.then, Exit.inBlock, ↓reduceIte, Nat.reduceEqDiff])
   refine hK37 _ _ ?_
   (try clear hK37 K37)
   refine wp_seq_k ?_
   intro K62 hK62
   refine wrt [.p 0, .q 1, .p 2] ?_
   refine pm ?_;simp only [nf]
   refine pq rfl rfl (qr_b2s (OwnC.sl hH 2 rfl hO) rfl Tryd.underlying22 Tryd.underlying5 Tryd.underlying9) ?_;simp only [nf]
   refine pa ?_;simp only [nf]
   refine plan_nil hH ?_
   clear hH
   intro w63 hH
   refine hK62 _ _ ?_
   (try clear hK62 K62)
   refine wp_ret ?_
   (try simp only [Exit.then, Exit.inBlock, ↓reduceIte, Nat.reduceEqDiff])
   refine BP.ret1 rfl rfl ?_
   refine ⟨_, rfl, hH.chg, ?_⟩
   have hln := hO.len
   rw [List.length_map] at hln
   rw [bsz]; omega

theorem fit_b (a b c hd ca : ByteArray) (size number ex : Int) (ft : Bool) (w : World) (hs1 : -9223372036854775808 ≤ size) (hs2 : size ≤ 9223372036854775807) (hz : min hd.size 60 = 0) : Ret Tryd.prog 11 #[.agg #[.string a, .string b, .string c, .string hd, I64 size, I64 number, .string ca, I64 ex, BV ft]] w fun v w' => ∃ s : ByteArray, v = .string s ∧ Chg [] w w' ∧ s.size ≤ 66 := by
 have hex : (hd.extract 0 (min hd.size 60)).size = min hd.size 60 := by rw [ByteArray.size_extract]; omega
 have hex2 : (hd.extract 0 (min hd.size 60)).data.toList.length = min hd.size 60 := hex
 refine Ret.enter Tryd.func11 rfl ?_
 simp only [Tryd.ntmps11, fe, Nat.reduceAdd, Nat.reduceSub]
 have hH := Hp.start [] w
 refine wp_seq_k ?_
 intro K1 hK1
 refine wrt [.x 0, .p 1] ?_
 refine plan_box rfl rfl hH rfl ?_
 clear hH
 intro b2 w3 hH
 (try simp only [nf, nh, Value.cells, arrB_set] at hH ⊢)
 refine pa ?_;simp only [nf]
 refine plan_nil hH ?_
 clear hH
 intro w4 hH
 refine hK1 _ _ ?_
 (try clear hK1 K1)
 refine wp_seq_k ?_
 intro K5 hK5
 refine wrt [.p 0, .q 1, .p 2, .q 3, .p 4, .p 5, .p 6, .p 7] ?_
 refine pp rfl rfl (pr_fieldAddr 3 rfl Tryd.underlying32 rfl rfl sz9) ?_;simp only [nf]
 refine pq rfl rfl (qr_load1 rfl Tryd.underlying9 rfl ((hH.blk 0 rfl).cell rfl)) ?_;simp only [nf]
 refine pp rfl rfl (pr_fieldAddr 3 rfl Tryd.underlying32 rfl rfl sz9) ?_;simp only [nf]
 refine pq rfl rfl (qr_load1 rfl Tryd.underlying9 rfl ((hH.blk 0 rfl).cell rfl)) ?_;simp only [nf]
 refine pp rfl rfl (pr_len_str rfl Tryd.underlying9) ?_;simp only [nf]
 refine pp rfl rfl (by first | exact pr_min_n (n := 60) rfl rfl | exact pr_min rfl rfl) ?_;simp only [nf]
 refine pp rfl rfl (pr_slice_str_h rfl rfl Tryd.underlying9 (by first | omega | (first | (rw [hex]; omega) | (simp; done) | (simp; omega)))) ?_;simp only [nf]
 refine pa ?_;simp only [nf]
 refine plan_nil hH ?_
 clear hH
 intro w6 hH
 refine hK5 _ _ ?_
 (try clear hK5 K5)
 refine wp_seq_k ?_
 intro K7 hK7
 refine wp_seq_k ?_
 intro K8 hK8
 refine wrt [.p 0, .q 1, .p 2, .p 3, .p 4, .q 5, .p 6, .p 7, .p 8, .p 9, .q 10, .p 11, .p 12] ?_
 refine pp rfl rfl (pr_fieldAddr 8 rfl Tryd.underlying32 rfl rfl sz4) ?_;simp only [nf]
 refine pq rfl rfl (qr_load1 rfl Tryd.underlying4 rfl ((hH.blk 0 rfl).cell rfl)) ?_;simp only [nf]
 refine pp rfl rfl (pr_not rfl) ?_;simp only [nf]
 refine pm ?_;simp only [nf]
 refine plan_pc_f rfl rfl rfl (fun hb => by have hb' := hb; try simp only [gsl] at hb'; rw [hb]; exact (pr_fieldAddr 4 rfl Tryd.underlying32 rfl rfl sz3)) ?_
 (try simp only [nf])
 refine plan_qc_f rfl rfl rfl (fun hb => by have hb' := hb; try simp only [gsl] at hb'; rw [hb]; exact (qr_load1 rfl Tryd.underlying3 rfl ((hH.blk 0 rfl).cell rfl))) ?_
 (try simp only [nf])
 refine plan_pc_f rfl rfl rfl (fun hb => by have hb' := hb; try simp only [gsl] at hb'; rw [hb]; exact (pr_bin rfl rfl (by first | exact bin_lss_n (n := 1)  | exact bin_lss_i))) ?_
 (try simp only [nf])
 refine pp rfl rfl (pr_pick_or rfl rfl rfl) ?_;simp only [nf]
 refine pm ?_;simp only [nf]
 refine plan_pc_f rfl rfl rfl (fun hb => by have hb' := hb; try simp only [gsl] at hb'; rw [hb]; exact (pr_fieldAddr 4 rfl Tryd.underlying32 rfl rfl sz3)) ?_
 (try simp only [nf])
 refine plan_qc_f rfl rfl rfl (fun hb => by have hb' := hb; try simp only [gsl] at hb'; rw [hb]; exact (qr_load1 rfl Tryd.underlying3 rfl ((hH.blk 0 rfl).cell rfl))) ?_
 (try simp only [nf])
 refine plan_pc_f rfl rfl rfl (fun hb => by have hb' := hb; try simp only [gsl] at hb'; rw [hb]; exact (pr_bin rfl rfl (by first | exact bin_gtr_n (n := 4)  | exact bin_gtr_i))) ?_
 (try simp only [nf])
 refine pp rfl rfl (pr_pick_or rfl rfl rfl) ?_;simp only [nf]
 refine plan_nil hH ?_
 clear hH
 intro w9 hH
 refine hK8 _ _ ?_
 (try clear hK8 K8)
 refine wp_cond_split rfl (fun hc10 => ?_) (fun hc10 => ?_)
 ·
  (try simp only [cnd, gsl] at hc10)
  refine wp_seq_k ?_
  intro K11 hK11
  refine wrt [.p 0, .p 1] ?_
  refine pm (pa ?_);simp only [nf]
  refine plan_nil hH ?_
  clear hH
  intro w12 hH
  refine hK11 _ _ ?_
  (try clear hK11 K11)
  refine wp_ret ?_
  (try simp only [Exit.then, Exit.inBlock, ↓reduceIte, Nat.reduceEqDiff])
  refine BP.ret1 rfl rfl ?_
  exact ⟨_, rfl, hH.chg, by rw [hex]; omega⟩
 ·
  (try simp only [cnd, gsl] at hc10)
  have hq := hc10
  obtain ⟨sz, rfl⟩ : ∃ k : Nat, size = k := ⟨size.toNat, by omega⟩
  refine wp_skip ?_
  refine hK7 _ _ ?_
  (try clear hK7 K7)
  refine wp_seq_k ?_
  intro K13 hK13
  refine wrt [.x 0, .e 1, .p 2, .e 3, .p 4] ?_
  refine plan_buildSlice rfl rfl hH Tryd.underlying22 (by rfl) (bs1 33) ?_
  clear hH
  intro b14 w15 hH
  (try simp only [nf, nh, Value.cells, arrB_set] at hH ⊢)
  refine plan_mark 1 rfl rfl hH rfl rfl Tryd.underlying22 Tryd.underlying5 ?_
  clear hH
  intro w16 hH
  (try simp only [nf] at hH ⊢)
  (try simp only [nf, nh, Value.cells, arrB_set] at hH ⊢)
  refine pm ?_;simp only [nf]
  refine plan_append 1 rfl rfl hH rfl (OwnC.of_bytes rfl) (fun w' hH => src_string _) rfl rfl Tryd.underlying22 Tryd.underlying9 (.inr rfl) sz5 bz5 ze5 rfl (by first | omega | (simp; omega) | (rw [hex2]; omega)) (by first | omega | (simp; omega) | (rw [hex2]; omega)) ?_
  clear hH
  intro o17 cap18 cs19 w20 hO21 hH
  (try simp only [nf] at hH ⊢)
  (try simp only [nf, nh, Value.cells, arrB_set] at hH ⊢)
  try rw [← List.map_append] at hO21
  (try simp only [Nat.zero_add, List.nil_append, List.length_nil] at hO21 ⊢)
  refine pa ?_;simp only [nf]
  refine plan_nil hH ?_
  clear hH
  intro w22 hH
  rw [show ([33] : List UInt8).length + (hd.extract 0 (min hd.size 60)).size = 1 + min hd.size 60 by rw [hex]; rfl] at hO21 ⊢
  refine hK13 _ _ ?_
  (try clear hK13 K13)
  refine wp_seq_k ?_
  intro K23 hK23
  refine wp_seq_k ?_
  intro K24 hK24
  refine wrt [.p 0, .p 1, .p 2] ?_
  refine pm ?_;simp only [nf]
  refine pp rfl rfl (pr_len_str rfl Tryd.underlying9) ?_;simp only [nf]
  refine pp rfl rfl (pr_bin rfl rfl (by first | exact bin_gtr_n (n := 0)  | exact bin_gtr_i)) ?_;simp only [nf]
  refine plan_nil hH ?_
  clear hH
  intro w25 hH
  refine hK24 _ _ ?_
  (try clear hK24 K24)
  refine wp_cond_false (by show BV _ = _; rw [hex]; exact congrArg BV (decide_eq_false (by omega))) ?_
  refine wp_skip ?_
  refine hK23 _ _ ?_
  (try clear hK23 K23)
  refine wp_seq_k ?_
  intro K26 hK26
  refine wrp [.p 0, .p 1, .p 2, .p 6, .q 3, .p 4, .p 5, .q 7, .p 8, .p 9, .p 10, .p 11, .e 12] ?_
  refine pm (pm ?_);simp only [nf]
  refine pp rfl rfl (pr_idx_Sl (i := 0) (OwnC.sl hH 1 rfl hO21) rfl rfl Tryd.underlying22 sz5 (by first | omega | (first | (rw [hex]; omega) | (simp; done) | (simp; omega)))) ?_;simp only [nf]
  refine pp rfl rfl (pr_fieldAddr 4 rfl Tryd.underlying32 rfl rfl sz3) ?_;simp only [nf]
  refine pq rfl rfl (qr_load1 rfl Tryd.underlying5 rfl (Sl.cell (i := 0) (OwnC.sl hH 1 rfl hO21) (by first | omega | (first | (rw [hex]; omega) | (simp; done) | (simp; omega))))) ?_;simp only [nf]
  refine pp rfl rfl (pr_bin rfl rfl (bin_quo_u8 _ 4 (by decide))) ?_;simp only [nf]
  refine pp rfl rfl (pr_bin rfl rfl (bin_mul_u8 _ 4)) ?_;simp only [nf]
  refine pq rfl rfl (qr_load1 rfl Tryd.underlying3 rfl ((hH.blk 0 rfl).cell rfl)) ?_;simp only [nf]
  refine pp rfl rfl (pr_bin rfl rfl (by first | exact bin_sub_n (n := 1) (by first | omega | (first | (rw [hex]; omega) | (simp; done) | (simp; omega))) (by first | omega | (first | (rw [hex]; omega) | (simp; done) | (simp; omega))) | exact bin_sub_i (by first | omega | (first | (rw [hex]; omega) | (simp; done) | (simp; omega))) (by first | omega | (first | (rw [hex]; omega) | (simp; done) | (simp; omega))))) ?_;simp only [nf]
  refine pp rfl rfl (pr_conv rfl (by first | exact cnv_n_u8 Tryd.underlying3 Tryd.underlying5 | exact cnv_i_u8 Tryd.underlying3 Tryd.underlying5)) ?_;simp only [nf]
  refine pp rfl rfl (pr_bin rfl rfl (bin_add_u8 _ _)) ?_;simp only [nf]
  refine pp rfl rfl (pr_idx_Sl (i := 0) (OwnC.sl hH 1 rfl hO21) rfl rfl Tryd.underlying22 sz5 (by first | omega | (first | (rw [hex]; omega) | (simp; done) | (simp; omega)))) ?_;simp only [nf]
  refine plan_storeO 1 (j := 0) rfl rfl hH rfl rfl hO21 rfl sz5 (by first | omega | (first | (rw [hex]; omega) | (simp; done) | (simp; omega))) ?_
  clear hH
  intro cs28 w27 hO29 hH
  (try simp only [nf, nh, Value.cells, arrB_set] at hH ⊢)
  refine plan_nil hH ?_
  clear hH
  intro w30 hH
  refine hK26 _ _ ?_
  (try clear hK26 K26)
  refine wp_seq_k ?_
  intro K31 hK31
  refine wp_seq_k ?_
  intro K32 hK32
  refine wrt [.p 0, .q 1, .p 2, .p 3] ?_
  refine pp rfl rfl (pr_fieldAddr 4 rfl Tryd.underlying32 rfl rfl sz3) ?_;simp only [nf]
  refine pq rfl rfl (qr_load1 rfl Tryd.underlying3 rfl ((hH.blk 0 rfl).cell rfl)) ?_;simp only [nf]
  refine pp rfl rfl (pr_bin rfl rfl (by first | exact bin_sub_n (n := 1) (by first | omega | (first | (rw [hex]; omega) | (simp; done) | (simp; omega))) (by first | omega | (first | (rw [hex]; omega) | (simp; done) | (simp; omega))) | exact bin_sub_i (by first | omega | (first | (rw [hex]; omega) | (simp; done) | (simp; omega))) (by first | omega | (first | (rw [hex]; omega) | (simp; done) | (simp; omega))))) ?_;simp only [nf]
  refine pa ?_;simp only [nf]
  refine plan_nil hH ?_
  clear hH
  intro w33 hH
  rw [show ((sz - 1 : Nat) : Int) = (sz : Int) - 1 - ((0 : Nat) : Int) by omega]
  refine hK32 _ _ ?_
  (try clear hK32 K32)
  refine wp_block ?_
  obtain ⟨kc34, hkc35, hN⟩ := hH.name 0 rfl
  replace hH := hN; clear hN; simp only [List.set_cons_zero, List.set_cons_succ] at hH
  refine wp_loopT [4, 5] [51, 52, 53, 54, 55, 56, 57, 58, 59, 60, 61, 62, 63] (fun (n36 : Nat) (vs : List Value) (w' : World) => ∃ (k : Nat) (o : Option Nat) (c' : Nat) (cs : Array Value), vs = [own o ((1 + (min hd.size 60)) + k) c', I64 ((sz : Int) - 1 - (k : Nat))] ∧ Hp [] w w' [(some b2, 32, kc34), (o, 5, cs)] ∧ n36 = sz - k ∧ k ≤ sz ∧ ∃ l : List UInt8, OwnC o ((1 + (min hd.size 60)) + k) c' 1 cs (l.map V8)) (sz - 0) (by kernel_rfl) ?_ ?_
  ·
   simp only [ga]
   refine ⟨0, o17, cap18, cs28, rfl, ?_, rfl, ?_, ?_⟩
   ·
    exact hH.take 2
   · first | omega | (omega)
   · first | omega | (exact ⟨_, hO29⟩)
  clear hH
  intro n36 vs37 w38 hR39 d0
  obtain ⟨k, o, c', cs, rfl, hH, hn40, hf41, hOe⟩ := hR39
  simp only [putAll, putD, List.set_cons_zero, List.set_cons_succ, Nat.zero_add, Nat.reduceAdd]
  obtain ⟨l, hO⟩ := hOe
  subst hkc35
  refine wp_seq_k ?_
  intro K42 hK42
  refine wp_seq_k ?_
  intro K43 hK43
  refine wrt [.p 0, .p 1] ?_
  refine pm ?_;simp only [nf]
  refine pp rfl rfl (pr_bin rfl rfl (by first | exact bin_geq_n (n := 0)  | exact bin_geq_i)) ?_;simp only [nf]
  refine plan_nil hH ?_
  clear hH
  intro w44 hH
  refine hK43 _ _ ?_
  (try clear hK43 K43)
  refine wp_cond_split rfl (fun hc45 => ?_) (fun hc45 => ?_)
  ·
   (try simp only [cnd, gsl] at hc45)
   simp only [show ((sz : Int) - 1 - (k : Nat)) = ((sz - 1 - k : Nat) : Int) by omega]
   refine wp_skip ?_
   refine hK42 _ _ ?_
   (try clear hK42 K42)
   refine wp_seq_k ?_
   intro K46 hK46
   refine wp_block ?_
   refine wrt [.p 0, .p 1, .q 2, .p 3, .p 4, .p 5, .p 6, .x 7, .e 8, .p 9] ?_
   refine pm ?_;simp only [nf]
   refine pp rfl rfl (pr_fieldAddr 5 rfl Tryd.underlying32 rfl rfl sz3) ?_;simp only [nf]
   refine pq rfl rfl (qr_load1 rfl Tryd.underlying3 rfl ((hH.blk 0 rfl).cell rfl)) ?_;simp only [nf]
   refine pm ?_;simp only [nf]
   refine pp rfl rfl (pr_bin rfl rfl (by first | exact bin_mul_n (m := 8) (by first | omega | (first | (rw [hex]; omega) | (simp; done) | (simp; omega))) | exact bin_mul_i (by first | omega | (first | (rw [hex]; omega) | (simp; done) | (simp; omega))) (by first | omega | (first | (rw [hex]; omega) | (simp; done) | (simp; omega))))) ?_;simp only [nf]
   refine pp rfl rfl (pr_bin rfl rfl (by first | exact bin_shr_n (by first | omega | (first | (rw [hex]; omega) | (simp; done) | (simp; omega))) | exact bin_shr_i (by first | omega | (first | (rw [hex]; omega) | (simp; done) | (simp; omega))))) ?_;simp only [nf]
   refine pp rfl rfl (pr_conv rfl (by first | exact cnv_n_u8 Tryd.underlying3 Tryd.underlying5 | exact cnv_i_u8 Tryd.underlying3 Tryd.underlying5)) ?_;simp only [nf]
   refine plan_buildSlice rfl rfl hH Tryd.underlying22 (by rfl) (bs1 _) ?_
   clear hH
   intro b47 w48 hH
   (try simp only [nf, nh, Value.cells, arrB_set] at hH ⊢)
   refine plan_append 1 rfl rfl hH rfl hO (fun w' hH => ((OwnC.sl hH 2 rfl (OwnC.of_bytes rfl))).src) rfl rfl Tryd.underlying22 Tryd.underlying22 (.inl ⟨_, rfl⟩) sz5 bz5 ze5 rfl (by first | omega | (simp; omega) | (rw [hex2]; omega)) (by first | omega | (simp; omega) | (rw [hex2]; omega)) ?_
   clear hH
   intro o49 cap50 cs51 w52 hO53 hH
   (try simp only [nf] at hH ⊢)
   (try simp only [nf, nh, Value.cells, arrB_set] at hH ⊢)
   try rw [← List.map_append] at hO53
   (try simp only [Nat.zero_add, List.nil_append, List.length_nil] at hO53 ⊢)
   refine pa ?_;simp only [nf]
   refine plan_nil hH ?_
   clear hH
   intro w54 hH
   refine hK46 _ _ ?_
   (try clear hK46 K46)
   refine wrt [.p 0, .p 1, .p 2] ?_
   refine pm ?_;simp only [nf]
   refine pp rfl rfl (pr_bin rfl rfl (by first | exact bin_sub_n (n := 1) (by first | omega | (first | (rw [hex]; omega) | (simp; done) | (simp; omega))) (by first | omega | (first | (rw [hex]; omega) | (simp; done) | (simp; omega))) | exact bin_sub_i (by first | omega | (first | (rw [hex]; omega) | (simp; done) | (simp; omega))) (by first | omega | (first | (rw [hex]; omega) | (simp; done) | (simp; omega))))) ?_;simp only [nf]
   refine pa ?_;simp only [nf]
   refine plan_nil hH ?_
   clear hH
   intro w55 hH
   (try simp only [Exit.then, Exit.inBlock, ↓reduceIte, Nat.reduceEqDiff])
   rw [show (((sz - 1 - k : Nat) : Int) - 1) = (sz : Int) - 1 - ((k + 1 : Nat) : Int) by omega]
   refine ⟨sz - (k + 1), ?_, _, rfl, by kernel_rfl, ?_⟩
   · first | omega | (omega)
   simp only [ga]
   refine ⟨k + 1, o49, cap50, cs51, rfl, ?_, rfl, ?_, ?_⟩
   ·
    exact hH.take 2
   · first | omega | (omega)
   · first | omega | (exact ⟨_, hO53⟩)
  ·
   (try simp only [cnd, gsl] at hc45)
   refine wp_exit ?_
   (try simp only [Exit.then, Exit.inBlock, ↓reduceIte, Nat.reduceEqDiff])
   refine hK31 _ _ ?_
   (try clear hK31 K31)
   refine wp_seq_k ?_
   intro K56 hK56
   refine wrt [.p 0, .q 1, .p 2] ?_
   refine pm ?_;simp only [nf]
   refine pq rfl rfl (qr_b2s (OwnC.sl hH 1 rfl hO) rfl Tryd.underlying22 Tryd.underlying5 Tryd.underlying9) ?_;simp only [nf]
   refine pa ?_;simp only [nf]
   refine plan_nil hH ?_
   clear hH
   intro w57 hH
   refine hK56 _ _ ?_
   (try clear hK56 K56)
   refine wp_ret ?_
   (try simp only [Exit.then, Exit.inBlock, ↓reduceIte, Nat.reduceEqDiff])
   refine BP.ret1 rfl rfl ?_
   refine ⟨_, rfl, hH.chg, ?_⟩
   have hln := hO.len
   rw [List.length_map] at hln
   rw [bsz]; omega

theorem fit_calls (a b c hd ca : ByteArray) (size number ex : Int) (ft : Bool) (w : World) (hs1 : -9223372036854775808 ≤ size) (hs2 : size ≤ 9223372036854775807) : Ret Tryd.prog 11 #[.agg #[.string a, .string b, .string c, .string hd, I64 size, I64 number, .string ca, I64 ex, BV ft]] w fun v w' => ∃ s : ByteArray, v = .string s ∧ Chg [] w w' ∧ s.size ≤ 66 := by
  by_cases h : min hd.size 60 = 0
  · exact fit_b a b c hd ca size number ex ft w hs1 hs2 h
  · exact fit_a a b c hd ca size number ex ft w hs1 hs2 (by omega)

theorem to_calls (a b c : ByteArray) (w : World) : Ret Tryd.prog 14 #[.agg #[.string a, .string b, .string c]] w fun v w' => v = .agg #[.string a, .string b, .string c] ∧ Chg [] w w' := by
 refine Ret.enter Tryd.func14 rfl ?_
 simp only [Tryd.ntmps14, fe, Nat.reduceAdd, Nat.reduceSub]
 have hH := Hp.start [] w
 refine wp_seq_k ?_
 intro K1 hK1
 refine wrt [.x 0, .x 1] ?_
 refine plan_box rfl rfl hH rfl ?_
 clear hH
 intro b2 w3 hH
 (try simp only [nf, nh, Value.cells, arrB_set] at hH ⊢)
 refine plan_alloc rfl rfl hH zc37 ?_
 clear hH
 intro b4 w5 hH
 (try simp only [nf, nh, Value.cells, arrB_set] at hH ⊢)
 refine plan_nil hH ?_
 clear hH
 intro w6 hH
 refine hK1 _ _ ?_
 (try clear hK1 K1)
 refine wp_seq_k ?_
 intro K7 hK7
 refine wrt [.p 0, .q 1, .p 2, .q 3, .p 4, .q 5, .p 6, .e 7] ?_
 refine pp rfl rfl (pr_fieldAddr 0 rfl Tryd.underlying30 rfl rfl sz9) ?_;simp only [nf]
 refine pq rfl rfl (qr_load1 rfl Tryd.underlying9 rfl ((hH.blk 0 rfl).cell rfl)) ?_;simp only [nf]
 refine pp rfl rfl (pr_fieldAddr 1 rfl Tryd.underlying30 rfl rfl sz9) ?_;simp only [nf]
 refine pq rfl rfl (qr_load1 rfl Tryd.underlying9 rfl ((hH.blk 0 rfl).cell rfl)) ?_;simp only [nf]
 refine pp rfl rfl (pr_fieldAddr 2 rfl Tryd.underlying30 rfl rfl sz9) ?_;simp only [nf]
 refine pq rfl rfl (qr_load1 rfl Tryd.underlying9 rfl ((hH.blk 0 rfl).cell rfl)) ?_;simp only [nf]
 refine pp rfl rfl (pr_build (by rfl) (bd37_0_1_2 _ _ _)) ?_;simp only [nf]
 refine plan_storeW 1 rfl rfl hH rfl rfl rfl (by simp [Value.oneCell']) sz37 (by simp) (by simp) ?_
 clear hH
 intro w8 hH
 (try simp only [nf, nh, Value.cells, arrB_set] at hH ⊢)
 refine plan_nil hH ?_
 clear hH
 intro w9 hH
 refine hK7 _ _ ?_
 (try clear hK7 K7)
 refine wp_ret ?_
 (try simp only [Exit.then, Exit.inBlock, ↓reduceIte, Nat.reduceEqDiff])
 refine BP.retc rfl rfl (hH.blk 1 rfl) Tryd.underlying37 rfl sz37 (by simp) ?_
 exact ⟨rfl, hH.chg⟩

theorem seals_calls (a b c hd ca : ByteArray) (size number ex : Int) (ft : Bool) (w : World) (hs1 : -9223372036854775808 ≤ size) (hs2 : size ≤ 9223372036854775807) (hT : Tabs w) : Ret Tryd.prog 4 #[.agg #[.string a, .string b, .string c, .string hd, I64 size, I64 number, .string ca, I64 ex, BV ft]] w fun v w' => v = BV true ∧ Chg [] w w' := by
 have hex : (ca.extract 0 (min ca.size 150)).size = min ca.size 150 := by rw [ByteArray.size_extract]; omega
 refine Ret.enter Tryd.func4 rfl ?_
 simp only [Tryd.ntmps4, fe, Nat.reduceAdd, Nat.reduceSub]
 have hH := Hp.start [] w
 refine wp_seq_k ?_
 intro K1 hK1
 refine wrt [.x 0, .p 1] ?_
 refine plan_box rfl rfl hH rfl ?_
 clear hH
 intro b2 w3 hH
 (try simp only [nf, nh, Value.cells, arrB_set] at hH ⊢)
 refine pa ?_;simp only [nf]
 refine plan_nil hH ?_
 clear hH
 intro w4 hH
 refine hK1 _ _ ?_
 (try clear hK1 K1)
 refine wp_seq_k ?_
 intro K5 hK5
 refine wp_seq_k ?_
 intro K6 hK6
 refine wrt [.q 0, .p 1] ?_
 refine pq rfl rfl (qr_call cf8 (fun w' hw => guards_calls w' (hT.grow (hH.chg.trans hw))) rfl) ?_;simp only [nf]
 refine pp rfl rfl (pr_not rfl) ?_;simp only [nf]
 refine plan_nil hH ?_
 clear hH
 intro w7 hH
 refine hK6 _ _ ?_
 (try clear hK6 K6)
 refine wp_cond_false rfl ?_
 refine wp_skip ?_
 refine hK5 _ _ ?_
 (try clear hK5 K5)
 refine wp_seq_k ?_
 intro K8 hK8
 refine wrp [.p 2, .p 4, .q 0, .q 3, .q 5, .p 6, .p 7, .p 8, .x 1, .p 9, .p 10] ?_
 refine pp rfl rfl (pr_fieldAddr 6 rfl Tryd.underlying32 rfl rfl sz9) ?_;simp only [nf]
 refine pp rfl rfl (pr_fieldAddr 6 rfl Tryd.underlying32 rfl rfl sz9) ?_;simp only [nf]
 refine pq rfl rfl (qr_loadW rfl (hH.blk 0 rfl) Tryd.underlying32 rfl sz32 (by simp)) ?_;simp only [nf]
 refine pq rfl rfl (qr_load1 rfl Tryd.underlying9 rfl ((hH.blk 0 rfl).cell rfl)) ?_;simp only [nf]
 refine pq rfl rfl (qr_load1 rfl Tryd.underlying9 rfl ((hH.blk 0 rfl).cell rfl)) ?_;simp only [nf]
 refine pp rfl rfl (pr_len_str rfl Tryd.underlying9) ?_;simp only [nf]
 refine pp rfl rfl (by first | exact pr_min_n (n := 150) rfl rfl | exact pr_min rfl rfl) ?_;simp only [nf]
 refine pp rfl rfl (pr_slice_str_h rfl rfl Tryd.underlying9 (by first | omega | ((rw [hex]; omega)))) ?_;simp only [nf]
 refine plan_callx rfl rfl hH cf11 (fun w' hH => fit_calls _ _ _ _ _ _ _ _ _ w' (by omega) (by omega)) rfl (fun _ _ _ h => by obtain ⟨_, _, hg, _⟩ := h; exact hg) ?_
 clear hH
 intro w9 v10 w11 hH hp12
 obtain ⟨s, rfl, hg, hsz⟩ := hp12
 replace hH := hH.call hg
 clear hg
 (try simp only [nf])
 refine pa (pa ?_);simp only [nf]
 refine plan_nil hH ?_
 clear hH
 intro w13 hH
 refine hK8 _ _ ?_
 (try clear hK8 K8)
 refine wp_seq_k ?_
 intro K14 hK14
 by_cases hE : sealE a b c s.data.toList size number (ca.extract 0 (min ca.size 150)).size = 0
 ·
  refine wrt [.p 0, .q 1, .p 2, .p 3, .q 4, .p 5, .q 6, .p 7, .q 8, .p 9, .p 10, .p 11, .p 12, .p 13] ?_
  refine pp rfl rfl (pr_fieldAddr 0 rfl Tryd.underlying32 rfl rfl sz30) ?_;simp only [nf]
  refine plan_q rfl rfl (qr_loadL rfl (hH.blk 0 rfl) Tryd.underlying30 rfl sz30 (by simp)) ?_
  simp only [List.drop_succ_cons, List.drop_zero, List.take_succ_cons, List.take_zero]
  (try simp only [nf])
  refine pm ?_;simp only [nf]
  refine pp rfl rfl (pr_fieldAddr 4 rfl Tryd.underlying32 rfl rfl sz3) ?_;simp only [nf]
  refine pq rfl rfl (qr_load1 rfl Tryd.underlying3 rfl ((hH.blk 0 rfl).cell rfl)) ?_;simp only [nf]
  refine pp rfl rfl (pr_fieldAddr 5 rfl Tryd.underlying32 rfl rfl sz3) ?_;simp only [nf]
  refine pq rfl rfl (qr_load1 rfl Tryd.underlying3 rfl ((hH.blk 0 rfl).cell rfl)) ?_;simp only [nf]
  refine pm ?_;simp only [nf]
  refine pq rfl rfl (qr_call cf12 (fun w' hw => (docseal_calls a b c s (ca.extract 0 (min ca.size 150)) size number w' (by omega) (by rw [hex]; omega) (by omega) (by omega)).mono fun v w' h => h.1 hE) rfl) ?_;simp only [nf]
  refine pm ?_;simp only [nf]
  refine pp rfl rfl (pr_extract rfl rfl) ?_;simp only [nf]
  refine pp rfl rfl (pr_extract rfl rfl) ?_;simp only [nf]
  refine pa (pa ?_);simp only [nf]
  refine plan_nil hH ?_
  clear hH
  intro w15 hH
  refine hK14 _ _ ?_
  (try clear hK14 K14)
  refine wp_seq_k ?_
  intro K16 hK16
  refine wp_region_pend [] [] (Chg []) (by kernel_rfl) ?_
  refine Pend.plan (n := 8) Far.grown (by kernel_rfl) (fun _ _ _ _ _ h => by first | exact h | exact BP.panic _ _ _ _ _ h) [.p 0, .p 3, .p 5, .p 7, .p 9, .q 1, .q 2, .q 6, .q 8] [] _ _ (by simp [AllR]) (by simp [effects]) (by simp [marked]) (by kernel_rfl) ?_
  refine pp rfl rfl (pr_fieldAddr 0 rfl Tryd.underlying32 rfl rfl sz30) ?_;simp only [nf]
  refine pm ?_;simp only [nf]
  refine pp rfl rfl (pr_fieldAddr 4 rfl Tryd.underlying32 rfl rfl sz3) ?_;simp only [nf]
  refine pp rfl rfl (pr_fieldAddr 5 rfl Tryd.underlying32 rfl rfl sz3) ?_;simp only [nf]
  refine pm ?_;simp only [nf]
  refine plan_q rfl rfl (qr_loadL rfl (hH.blk 0 rfl) Tryd.underlying30 rfl sz30 (by simp)) ?_
  simp only [List.drop_succ_cons, List.drop_zero, List.take_succ_cons, List.take_zero]
  (try simp only [nf])
  refine pq rfl rfl (qr_call cf14 (fun w' hw => to_calls _ _ _ w') rfl) ?_;simp only [nf]
  refine pq rfl rfl (qr_load1 rfl Tryd.underlying3 rfl ((hH.blk 0 rfl).cell rfl)) ?_;simp only [nf]
  refine pq rfl rfl (qr_load1 rfl Tryd.underlying3 rfl ((hH.blk 0 rfl).cell rfl)) ?_;simp only [nf]
  refine plan_nil hH ?_
  clear hH
  intro w17 hH
  refine Pend.join2 (n := 6) Far.grown (by kernel_rfl) (fun _ _ _ _ _ h => by first | exact h | exact BP.panic _ _ _ _ _ h) 4 10 hH (by decide) (by kernel_rfl) (by kernel_rfl) (by kernel_rfl) (by kernel_rfl) (xs_s2b rfl rfl (fun _ => rfl) rfl (fun _ => rfl) Tryd.underlying9 Tryd.underlying22 Tryd.underlying5) (xs_s2b rfl rfl (fun _ => rfl) rfl (fun _ => rfl) Tryd.underlying9 Tryd.underlying22 Tryd.underlying5) ?_
  clear hH
  intro v18 es19 v20 es21 w22 hR23 hR24 hH
  obtain ⟨o25, cap26, cs27, rfl, hO28, rfl⟩ := hR23
  obtain ⟨o29, cap30, cs31, rfl, hO32, rfl⟩ := hR24
  (try simp only [nf] at hH ⊢)
  (try simp only [nf, nh, Value.cells, arrB_set] at hH ⊢)
  refine Pend.plan (n := 0) Far.grown (by kernel_rfl) (fun _ _ _ _ _ h => by first | exact h | exact BP.panic _ _ _ _ _ h) [.x 11, .p 12, .p 13, .p 14, .p 15, .p 16] [10, 4, 8, 6, 2, 1, 9, 7, 5, 3, 0] _ _ (by simp [AllR]) (by simp [effects]) (by simp [marked]) (by kernel_rfl) ?_
  refine plan_callx rfl rfl hH cf13 (fun w' hH => (gseal_calls a b c _ _ _ _ size number w' (OwnC.sl hH 1 rfl hO28) (OwnC.sl hH 2 rfl hO32) (by rw [str_len]; omega) (by rw [str_len, hex]; omega) (by omega) (by omega)).mono fun v w' h => h.1 hE) rfl (fun _ _ _ h => by obtain ⟨_, _, _, _, hg, _⟩ := h; exact hg) ?_
  clear hH
  intro w33 v34 w35 hH hp36
  obtain ⟨o37, cap38, cs39, rfl, hg, hO40, hfr⟩ := hp36
  replace hH := hH.callown hg hfr
  clear hg hfr
  (try simp only [nf, nh, Value.cells, arrB_set] at hH ⊢)
  (try simp only [nf])
  refine pm ?_;simp only [nf]
  refine pp rfl rfl (pr_extract rfl rfl) ?_;simp only [nf]
  refine pp rfl rfl (pr_extract rfl rfl) ?_;simp only [nf]
  refine pa (pa ?_);simp only [nf]
  refine plan_nil hH ?_
  clear hH
  intro w41 hH
  refine Pend.done (by kernel_rfl) ?_
  intro w42 hw43
  replace hH := hH.call hw43; clear hw43
  refine hK16 _ _ ?_
  (try clear hK16 K16)
  refine wp_seq_k ?_
  intro K44 hK44
  refine wrt [.p 0, .p 1, .q 2, .p 3, .p 4, .p 5, .p 6, .p 7, .p 8, .p 9] ?_
  refine pm (pm ?_);simp only [nf]
  refine pq rfl rfl (qr_b2s (OwnC.sl hH 3 rfl hO40) rfl Tryd.underlying22 Tryd.underlying5 Tryd.underlying9) ?_;simp only [nf]
  refine pp rfl rfl (pr_bin rfl rfl bin_eql_s) ?_;simp only [nf]
  refine pm ?_;simp only [nf]
  refine plan_pc_t rfl rfl rfl (fun hb => by have hb' := hb; try simp only [gsl] at hb'; rw [hb]; exact pr_move) ?_
  (try simp only [nf])
  refine plan_pc_t rfl rfl rfl (fun hb => by have hb' := hb; try simp only [gsl] at hb'; rw [hb]; exact pr_move) ?_
  (try simp only [nf])
  refine plan_pc_t rfl rfl rfl (fun hb => by have hb' := hb; try simp only [gsl] at hb'; rw [hb]; exact (pr_bin rfl rfl (by first | exact bin_eql_n  | exact bin_eql_i))) ?_
  (try simp only [nf])
  refine pp rfl rfl (pr_pick_and rfl rfl rfl) ?_;simp only [nf]
  refine pa ?_;simp only [nf]
  refine plan_nil hH ?_
  clear hH
  intro w45 hH
  refine hK44 _ _ ?_
  (try clear hK44 K44)
  refine wp_ret ?_
  (try simp only [Exit.then, Exit.inBlock, ↓reduceIte, Nat.reduceEqDiff])
  refine BP.ret1 rfl rfl ?_
  exact ⟨congrArg BV (by simp), hH.chg⟩
 ·
  refine wrt [.p 0, .q 1, .p 2, .p 3, .q 4, .p 5, .q 6, .p 7, .q 8, .p 9, .p 10, .p 11, .p 12, .p 13] ?_
  refine pp rfl rfl (pr_fieldAddr 0 rfl Tryd.underlying32 rfl rfl sz30) ?_;simp only [nf]
  refine plan_q rfl rfl (qr_loadL rfl (hH.blk 0 rfl) Tryd.underlying30 rfl sz30 (by simp)) ?_
  simp only [List.drop_succ_cons, List.drop_zero, List.take_succ_cons, List.take_zero]
  (try simp only [nf])
  refine pm ?_;simp only [nf]
  refine pp rfl rfl (pr_fieldAddr 4 rfl Tryd.underlying32 rfl rfl sz3) ?_;simp only [nf]
  refine pq rfl rfl (qr_load1 rfl Tryd.underlying3 rfl ((hH.blk 0 rfl).cell rfl)) ?_;simp only [nf]
  refine pp rfl rfl (pr_fieldAddr 5 rfl Tryd.underlying32 rfl rfl sz3) ?_;simp only [nf]
  refine pq rfl rfl (qr_load1 rfl Tryd.underlying3 rfl ((hH.blk 0 rfl).cell rfl)) ?_;simp only [nf]
  refine pm ?_;simp only [nf]
  refine pq rfl rfl (qr_call cf12 (fun w' hw => (docseal_calls a b c s (ca.extract 0 (min ca.size 150)) size number w' (by omega) (by rw [hex]; omega) (by omega) (by omega)).mono fun v w' h => h.2 _ rfl hE) rfl) ?_;simp only [nf]
  refine pm ?_;simp only [nf]
  refine pp rfl rfl (pr_extract rfl rfl) ?_;simp only [nf]
  refine pp rfl rfl (pr_extract rfl rfl) ?_;simp only [nf]
  refine pa (pa ?_);simp only [nf]
  refine plan_nil hH ?_
  clear hH
  intro w46 hH
  refine hK14 _ _ ?_
  (try clear hK14 K14)
  refine wp_seq_k ?_
  intro K47 hK47
  refine wp_region_pend [] [] (Chg []) (by kernel_rfl) ?_
  refine Pend.plan (n := 8) Far.grown (by kernel_rfl) (fun _ _ _ _ _ h => by first | exact h | exact BP.panic _ _ _ _ _ h) [.p 0, .p 3, .p 5, .p 7, .p 9, .q 1, .q 2, .q 6, .q 8] [] _ _ (by simp [AllR]) (by simp [effects]) (by simp [marked]) (by kernel_rfl) ?_
  refine pp rfl rfl (pr_fieldAddr 0 rfl Tryd.underlying32 rfl rfl sz30) ?_;simp only [nf]
  refine pm ?_;simp only [nf]
  refine pp rfl rfl (pr_fieldAddr 4 rfl Tryd.underlying32 rfl rfl sz3) ?_;simp only [nf]
  refine pp rfl rfl (pr_fieldAddr 5 rfl Tryd.underlying32 rfl rfl sz3) ?_;simp only [nf]
  refine pm ?_;simp only [nf]
  refine plan_q rfl rfl (qr_loadL rfl (hH.blk 0 rfl) Tryd.underlying30 rfl sz30 (by simp)) ?_
  simp only [List.drop_succ_cons, List.drop_zero, List.take_succ_cons, List.take_zero]
  (try simp only [nf])
  refine pq rfl rfl (qr_call cf14 (fun w' hw => to_calls _ _ _ w') rfl) ?_;simp only [nf]
  refine pq rfl rfl (qr_load1 rfl Tryd.underlying3 rfl ((hH.blk 0 rfl).cell rfl)) ?_;simp only [nf]
  refine pq rfl rfl (qr_load1 rfl Tryd.underlying3 rfl ((hH.blk 0 rfl).cell rfl)) ?_;simp only [nf]
  refine plan_nil hH ?_
  clear hH
  intro w48 hH
  refine Pend.join2 (n := 6) Far.grown (by kernel_rfl) (fun _ _ _ _ _ h => by first | exact h | exact BP.panic _ _ _ _ _ h) 4 10 hH (by decide) (by kernel_rfl) (by kernel_rfl) (by kernel_rfl) (by kernel_rfl) (xs_s2b rfl rfl (fun _ => rfl) rfl (fun _ => rfl) Tryd.underlying9 Tryd.underlying22 Tryd.underlying5) (xs_s2b rfl rfl (fun _ => rfl) rfl (fun _ => rfl) Tryd.underlying9 Tryd.underlying22 Tryd.underlying5) ?_
  clear hH
  intro v49 es50 v51 es52 w53 hR54 hR55 hH
  obtain ⟨o56, cap57, cs58, rfl, hO59, rfl⟩ := hR54
  obtain ⟨o60, cap61, cs62, rfl, hO63, rfl⟩ := hR55
  (try simp only [nf] at hH ⊢)
  (try simp only [nf, nh, Value.cells, arrB_set] at hH ⊢)
  refine Pend.plan (n := 0) Far.grown (by kernel_rfl) (fun _ _ _ _ _ h => by first | exact h | exact BP.panic _ _ _ _ _ h) [.x 11, .p 12, .p 13, .p 14, .p 15, .p 16] [10, 4, 8, 6, 2, 1, 9, 7, 5, 3, 0] _ _ (by simp [AllR]) (by simp [effects]) (by simp [marked]) (by kernel_rfl) ?_
  refine plan_callx rfl rfl hH cf13 (fun w' hH => (gseal_calls a b c _ _ _ _ size number w' (OwnC.sl hH 1 rfl hO59) (OwnC.sl hH 2 rfl hO63) (by rw [str_len]; omega) (by rw [str_len, hex]; omega) (by omega) (by omega)).mono fun v w' h => h.2 _ rfl hE) rfl (fun _ _ _ h => h.2) ?_
  clear hH
  intro w64 v65 w66 hH hp67
  obtain ⟨rfl, hg⟩ := hp67
  replace hH := hH.call hg
  clear hg
  (try simp only [nf])
  refine pm ?_;simp only [nf]
  refine pp rfl rfl (pr_extract rfl rfl) ?_;simp only [nf]
  refine pp rfl rfl (pr_extract rfl rfl) ?_;simp only [nf]
  refine pa (pa ?_);simp only [nf]
  refine plan_nil hH ?_
  clear hH
  intro w68 hH
  refine Pend.done (by kernel_rfl) ?_
  intro w69 hw70
  replace hH := hH.call hw70; clear hw70
  refine hK47 _ _ ?_
  (try clear hK47 K47)
  refine wp_seq_k ?_
  intro K71 hK71
  refine wrt [.p 0, .p 1, .q 2, .p 3, .p 4, .p 5, .p 6, .p 7, .p 8, .p 9] ?_
  refine pm (pm ?_);simp only [nf]
  refine pq rfl rfl (qr_b2s Sl.nil rfl Tryd.underlying22 Tryd.underlying5 Tryd.underlying9) ?_;simp only [nf]
  refine pp rfl rfl (pr_bin rfl rfl bin_eql_s) ?_;simp only [nf]
  refine pm ?_;simp only [nf]
  refine plan_pc_t rfl rfl rfl (fun hb => by have hb' := hb; try simp only [gsl] at hb'; rw [hb]; exact pr_move) ?_
  (try simp only [nf])
  refine plan_pc_t rfl rfl rfl (fun hb => by have hb' := hb; try simp only [gsl] at hb'; rw [hb]; exact pr_move) ?_
  (try simp only [nf])
  refine plan_pc_t rfl rfl rfl (fun hb => by have hb' := hb; try simp only [gsl] at hb'; rw [hb]; exact (pr_bin rfl rfl (by first | exact bin_eql_n  | exact bin_eql_i))) ?_
  (try simp only [nf])
  refine pp rfl rfl (pr_pick_and rfl rfl rfl) ?_;simp only [nf]
  refine pa ?_;simp only [nf]
  refine plan_nil hH ?_
  clear hH
  intro w72 hH
  refine hK71 _ _ ?_
  (try clear hK71 K71)
  refine wp_ret ?_
  (try simp only [Exit.then, Exit.inBlock, ↓reduceIte, Nat.reduceEqDiff])
  refine BP.ret1 rfl rfl ?_
  exact ⟨congrArg BV (by simp), hH.chg⟩

theorem reads_calls (a b c : ByteArray) (bv : Value) (l : List UInt8) (p e : Int) (w : World) (hl : Sl w bv l) (hl1 : l.length < 9223372036854775808) (hp1 : -9223372036854775808 ≤ p) (hp2 : p ≤ 9223372036854775807) (hT : Tabs w) : Ret Tryd.prog 5 #[.agg #[.string a, .string b, .string c, bv, I64 p, I64 e]] w fun v w' => v = BV true ∧ Chg [] w w' := by
 refine Ret.enter Tryd.func5 rfl ?_
 simp only [Tryd.ntmps5, fe, Nat.reduceAdd, Nat.reduceSub]
 have hH := Hp.start [] w
 refine wp_seq_k ?_
 intro K1 hK1
 refine wrt [.x 0, .p 1] ?_
 refine plan_box rfl rfl hH rfl ?_
 clear hH
 intro b2 w3 hH
 (try simp only [nf, nh, Value.cells, arrB_set] at hH ⊢)
 refine pa ?_;simp only [nf]
 refine plan_nil hH ?_
 clear hH
 intro w4 hH
 refine hK1 _ _ ?_
 (try clear hK1 K1)
 refine wp_seq_k ?_
 intro K5 hK5
 refine wp_seq_k ?_
 intro K6 hK6
 refine wrt [.q 0, .p 1] ?_
 refine pq rfl rfl (qr_call cf8 (fun w' hw => guards_calls w' (hT.grow (hH.chg.trans hw))) rfl) ?_;simp only [nf]
 refine pp rfl rfl (pr_not rfl) ?_;simp only [nf]
 refine plan_nil hH ?_
 clear hH
 intro w7 hH
 refine hK6 _ _ ?_
 (try clear hK6 K6)
 refine wp_cond_false rfl ?_
 refine wp_skip ?_
 refine hK5 _ _ ?_
 (try clear hK5 K5)
 refine wp_seq_k ?_
 intro K8 hK8
 refine wrt [.p 0, .q 1, .p 2, .q 3, .p 4, .p 5, .p 6, .p 7] ?_
 refine pp rfl rfl (pr_fieldAddr 3 rfl Tryd.underlying41 rfl rfl sz22) ?_;simp only [nf]
 refine pq rfl rfl (qr_load1 rfl Tryd.underlying22 rfl ((hH.blk 0 rfl).cell rfl)) ?_;simp only [nf]
 refine pp rfl rfl (pr_fieldAddr 3 rfl Tryd.underlying41 rfl rfl sz22) ?_;simp only [nf]
 refine pq rfl rfl (qr_load1 rfl Tryd.underlying22 rfl ((hH.blk 0 rfl).cell rfl)) ?_;simp only [nf]
 refine pp rfl rfl (pr_len_Sl (hl.chg hH.chg) rfl Tryd.underlying22) ?_;simp only [nf]
 refine pp rfl rfl (by first | exact pr_min_n (n := 200) rfl rfl | exact pr_min rfl rfl) ?_;simp only [nf]
 refine pp rfl rfl (pr_slice_Sl_h (hl.chg hH.chg) rfl rfl Tryd.underlying22 sz5 (by omega)) ?_;simp only [nf]
 refine pa ?_;simp only [nf]
 refine plan_nil hH ?_
 clear hH
 intro w9 hH
 refine hK8 _ _ ?_
 (try clear hK8 K8)
 refine wp_seq_k ?_
 intro K10 hK10
 by_cases hE : openE a b c (l.take (min l.length 200)) p e = 0
 ·
  refine wrt [.p 0, .q 1, .p 2, .q 3, .p 4, .q 5, .p 6, .q 7, .q 8, .p 9, .p 10, .p 11, .p 12, .p 13, .p 14, .p 15, .p 16, .p 17] ?_
  refine pp rfl rfl (pr_fieldAddr 0 rfl Tryd.underlying41 rfl rfl sz30) ?_;simp only [nf]
  refine plan_q rfl rfl (qr_loadL rfl (hH.blk 0 rfl) Tryd.underlying30 rfl sz30 (by simp)) ?_
  simp only [List.drop_succ_cons, List.drop_zero, List.take_succ_cons, List.take_zero]
  (try simp only [nf])
  refine pm ?_;simp only [nf]
  refine pq rfl rfl (qr_b2s (Sl.cuth (hl.chg hH.chg) (by omega)) rfl Tryd.underlying22 Tryd.underlying5 Tryd.underlying9) ?_;simp only [nf]
  refine pp rfl rfl (pr_fieldAddr 4 rfl Tryd.underlying41 rfl rfl sz3) ?_;simp only [nf]
  refine pq rfl rfl (qr_load1 rfl Tryd.underlying3 rfl ((hH.blk 0 rfl).cell rfl)) ?_;simp only [nf]
  refine pp rfl rfl (pr_fieldAddr 5 rfl Tryd.underlying41 rfl rfl sz3) ?_;simp only [nf]
  refine pq rfl rfl (qr_load1 rfl Tryd.underlying3 rfl ((hH.blk 0 rfl).cell rfl)) ?_;simp only [nf]
  refine pq rfl rfl (qr_call cf15 (fun w' hw => (docopen_calls a b c ⟨(l.take (min l.length 200)).toArray⟩ p e w' (by rw [bsz, List.length_take]; omega) (by omega) (by omega)).mono fun v w' h => h.1 hE) rfl) ?_;simp only [nf]
  refine pm ?_;simp only [nf]
  refine pp rfl rfl (pr_extract rfl rfl) ?_;simp only [nf]
  refine pp rfl rfl (pr_extract rfl rfl) ?_;simp only [nf]
  refine pp rfl rfl (pr_extract rfl rfl) ?_;simp only [nf]
  refine pp rfl rfl (pr_extract rfl rfl) ?_;simp only [nf]
  refine pa (pa (pa (pa ?_)));simp only [nf]
  refine plan_nil hH ?_
  clear hH
  intro w11 hH
  refine hK10 _ _ ?_
  (try clear hK10 K10)
  refine wp_seq_k ?_
  intro K12 hK12
  refine wrp [.p 0, .p 3, .p 4, .p 6, .q 1, .q 2, .q 5, .q 7, .x 8, .p 9, .p 10, .p 11, .p 12, .p 13, .p 14, .p 15, .p 16, .p 17] ?_
  refine pp rfl rfl (pr_fieldAddr 0 rfl Tryd.underlying41 rfl rfl sz30) ?_;simp only [nf]
  refine pm ?_;simp only [nf]
  refine pp rfl rfl (pr_fieldAddr 4 rfl Tryd.underlying41 rfl rfl sz3) ?_;simp only [nf]
  refine pp rfl rfl (pr_fieldAddr 5 rfl Tryd.underlying41 rfl rfl sz3) ?_;simp only [nf]
  refine plan_q rfl rfl (qr_loadL rfl (hH.blk 0 rfl) Tryd.underlying30 rfl sz30 (by simp)) ?_
  simp only [List.drop_succ_cons, List.drop_zero, List.take_succ_cons, List.take_zero]
  (try simp only [nf])
  refine pq rfl rfl (qr_call cf14 (fun w' hw => to_calls _ _ _ w') rfl) ?_;simp only [nf]
  refine pq rfl rfl (qr_load1 rfl Tryd.underlying3 rfl ((hH.blk 0 rfl).cell rfl)) ?_;simp only [nf]
  refine pq rfl rfl (qr_load1 rfl Tryd.underlying3 rfl ((hH.blk 0 rfl).cell rfl)) ?_;simp only [nf]
  refine plan_callx rfl rfl hH cf16 (fun w' hH => (gopen_calls a b c _ _ p e w' (Sl.cuth (hl.chg hH.chg) (by omega)) (by rw [List.length_take]; omega) (by omega) (by omega)).mono fun v w' h => h.1 hE) rfl (fun _ _ _ h => by obtain ⟨_, _, _, _, _, _, hg, _⟩ := h; exact hg.chg) ?_
  clear hH
  intro w13 v14 w15 hH hp16
  obtain ⟨o17, cs18, o19, cap20, cs21, rfl, hg, hD22, hO23⟩ := hp16
  replace hH := hH.join hg
  clear hg
  (try simp only [nf, nh, Value.cells, arrB_set] at hH ⊢)
  (try simp only [nf])
  refine pm ?_;simp only [nf]
  refine pp rfl rfl (pr_extract rfl rfl) ?_;simp only [nf]
  refine pp rfl rfl (pr_extract rfl rfl) ?_;simp only [nf]
  refine pp rfl rfl (pr_extract rfl rfl) ?_;simp only [nf]
  refine pp rfl rfl (pr_extract rfl rfl) ?_;simp only [nf]
  refine pa (pa (pa (pa ?_)));simp only [nf]
  refine plan_nil hH ?_
  clear hH
  intro w24 hH
  refine hK12 _ _ ?_
  (try clear hK12 K12)
  refine wp_seq_k ?_
  intro K25 hK25
  refine wrt [.p 0, .p 1, .q 2, .p 3, .p 4, .p 5, .p 6, .p 7, .p 8, .p 9, .p 10, .p 11, .q 12, .p 13, .p 14, .p 15, .p 16, .p 17, .p 18, .p 19, .p 20] ?_
  refine pm (pm ?_);simp only [nf]
  refine pq rfl rfl (qr_b2s (OwnD.sl hH 1 rfl hD22) rfl Tryd.underlying22 Tryd.underlying5 Tryd.underlying9) ?_;simp only [nf]
  refine pp rfl rfl (pr_bin rfl rfl bin_eql_s) ?_;simp only [nf]
  refine pm ?_;simp only [nf]
  refine plan_pc_t rfl rfl rfl (fun hb => by have hb' := hb; try simp only [gsl] at hb'; rw [hb]; exact pr_move) ?_
  (try simp only [nf])
  refine plan_pc_t rfl rfl rfl (fun hb => by have hb' := hb; try simp only [gsl] at hb'; rw [hb]; exact pr_move) ?_
  (try simp only [nf])
  refine plan_pc_t rfl rfl rfl (fun hb => by have hb' := hb; try simp only [gsl] at hb'; rw [hb]; exact (pr_bin rfl rfl (by first | exact bin_eql_n  | exact bin_eql_i))) ?_
  (try simp only [nf])
  refine pp rfl rfl (pr_pick_and rfl rfl rfl) ?_;simp only [nf]
  refine pm ?_;simp only [nf]
  refine plan_pc_t rfl rfl rfl (fun hb => by have hb' := hb; try simp only [gsl] at hb'; rw [hb]; exact pr_move) ?_
  (try simp only [nf])
  refine plan_pc_t rfl rfl rfl (fun hb => by have hb' := hb; try simp only [gsl] at hb'; rw [hb]; exact pr_move) ?_
  (try simp only [nf])
  refine plan_qc_t rfl rfl rfl (fun hb => by have hb' := hb; try simp only [gsl] at hb'; rw [hb]; exact (qr_b2s (OwnC.sl hH 2 rfl hO23) rfl Tryd.underlying22 Tryd.underlying5 Tryd.underlying9)) ?_
  (try simp only [nf])
  refine plan_pc_t rfl rfl rfl (fun hb => by have hb' := hb; try simp only [gsl] at hb'; rw [hb]; exact (pr_bin rfl rfl bin_eql_s)) ?_
  (try simp only [nf])
  refine pp rfl rfl (pr_pick_and rfl rfl rfl) ?_;simp only [nf]
  refine pm ?_;simp only [nf]
  refine plan_pc_t rfl rfl rfl (fun hb => by have hb' := hb; try simp only [gsl] at hb'; rw [hb]; exact pr_move) ?_
  (try simp only [nf])
  refine plan_pc_t rfl rfl rfl (fun hb => by have hb' := hb; try simp only [gsl] at hb'; rw [hb]; exact pr_move) ?_
  (try simp only [nf])
  refine plan_pc_t rfl rfl rfl (fun hb => by have hb' := hb; try simp only [gsl] at hb'; rw [hb]; exact (pr_bin rfl rfl (by first | exact bin_eql_n  | exact bin_eql_i))) ?_
  (try simp only [nf])
  refine pp rfl rfl (pr_pick_and rfl rfl rfl) ?_;simp only [nf]
  refine pa ?_;simp only [nf]
  refine plan_nil hH ?_
  clear hH
  intro w26 hH
  refine hK25 _ _ ?_
  (try clear hK25 K25)
  refine wp_ret ?_
  (try simp only [Exit.then, Exit.inBlock, ↓reduceIte, Nat.reduceEqDiff])
  refine BP.ret1 rfl rfl ?_
  exact ⟨congrArg BV (by simp), hH.chg⟩
 ·
  refine wrt [.p 0, .q 1, .p 2, .q 3, .p 4, .q 5, .p 6, .q 7, .q 8, .p 9, .p 10, .p 11, .p 12, .p 13, .p 14, .p 15, .p 16, .p 17] ?_
  refine pp rfl rfl (pr_fieldAddr 0 rfl Tryd.underlying41 rfl rfl sz30) ?_;simp only [nf]
  refine plan_q rfl rfl (qr_loadL rfl (hH.blk 0 rfl) Tryd.underlying30 rfl sz30 (by simp)) ?_
  simp only [List.drop_succ_cons, List.drop_zero, List.take_succ_cons, List.take_zero]
  (try simp only [nf])
  refine pm ?_;simp only [nf]
  refine pq rfl rfl (qr_b2s (Sl.cuth (hl.chg hH.chg) (by omega)) rfl Tryd.underlying22 Tryd.underlying5 Tryd.underlying9) ?_;simp only [nf]
  refine pp rfl rfl (pr_fieldAddr 4 rfl Tryd.underlying41 rfl rfl sz3) ?_;simp only [nf]
  refine pq rfl rfl (qr_load1 rfl Tryd.underlying3 rfl ((hH.blk 0 rfl).cell rfl)) ?_;simp only [nf]
  refine pp rfl rfl (pr_fieldAddr 5 rfl Tryd.underlying41 rfl rfl sz3) ?_;simp only [nf]
  refine pq rfl rfl (qr_load1 rfl Tryd.underlying3 rfl ((hH.blk 0 rfl).cell rfl)) ?_;simp only [nf]
  refine pq rfl rfl (qr_call cf15 (fun w' hw => (docopen_calls a b c ⟨(l.take (min l.length 200)).toArray⟩ p e w' (by rw [bsz, List.length_take]; omega) (by omega) (by omega)).mono fun v w' h => h.2 _ rfl hE) rfl) ?_;simp only [nf]
  refine pm ?_;simp only [nf]
  refine pp rfl rfl (pr_extract rfl rfl) ?_;simp only [nf]
  refine pp rfl rfl (pr_extract rfl rfl) ?_;simp only [nf]
  refine pp rfl rfl (pr_extract rfl rfl) ?_;simp only [nf]
  refine pp rfl rfl (pr_extract rfl rfl) ?_;simp only [nf]
  refine pa (pa (pa (pa ?_)));simp only [nf]
  refine plan_nil hH ?_
  clear hH
  intro w27 hH
  refine hK10 _ _ ?_
  (try clear hK10 K10)
  refine wp_seq_k ?_
  intro K28 hK28
  refine wrp [.p 0, .p 3, .p 4, .p 6, .q 1, .q 2, .q 5, .q 7, .x 8, .p 9, .p 10, .p 11, .p 12, .p 13, .p 14, .p 15, .p 16, .p 17] ?_
  refine pp rfl rfl (pr_fieldAddr 0 rfl Tryd.underlying41 rfl rfl sz30) ?_;simp only [nf]
  refine pm ?_;simp only [nf]
  refine pp rfl rfl (pr_fieldAddr 4 rfl Tryd.underlying41 rfl rfl sz3) ?_;simp only [nf]
  refine pp rfl rfl (pr_fieldAddr 5 rfl Tryd.underlying41 rfl rfl sz3) ?_;simp only [nf]
  refine plan_q rfl rfl (qr_loadL rfl (hH.blk 0 rfl) Tryd.underlying30 rfl sz30 (by simp)) ?_
  simp only [List.drop_succ_cons, List.drop_zero, List.take_succ_cons, List.take_zero]
  (try simp only [nf])
  refine pq rfl rfl (qr_call cf14 (fun w' hw => to_calls _ _ _ w') rfl) ?_;simp only [nf]
  refine pq rfl rfl (qr_load1 rfl Tryd.underlying3 rfl ((hH.blk 0 rfl).cell rfl)) ?_;simp only [nf]
  refine pq rfl rfl (qr_load1 rfl Tryd.underlying3 rfl ((hH.blk 0 rfl).cell rfl)) ?_;simp only [nf]
  refine plan_callx rfl rfl hH cf16 (fun w' hH => (gopen_calls a b c _ _ p e w' (Sl.cuth (hl.chg hH.chg) (by omega)) (by rw [List.length_take]; omega) (by omega) (by omega)).mono fun v w' h => h.2 _ rfl hE) rfl (fun _ _ _ h => h.2) ?_
  clear hH
  intro w29 v30 w31 hH hp32
  obtain ⟨rfl, hg⟩ := hp32
  replace hH := hH.call hg
  clear hg
  (try simp only [nf])
  refine pm ?_;simp only [nf]
  refine pp rfl rfl (pr_extract rfl rfl) ?_;simp only [nf]
  refine pp rfl rfl (pr_extract rfl rfl) ?_;simp only [nf]
  refine pp rfl rfl (pr_extract rfl rfl) ?_;simp only [nf]
  refine pp rfl rfl (pr_extract rfl rfl) ?_;simp only [nf]
  refine pa (pa (pa (pa ?_)));simp only [nf]
  refine plan_nil hH ?_
  clear hH
  intro w33 hH
  refine hK28 _ _ ?_
  (try clear hK28 K28)
  refine wp_seq_k ?_
  intro K34 hK34
  refine wrt [.p 0, .p 1, .q 2, .p 3, .p 4, .p 5, .p 6, .p 7, .p 8, .p 9, .p 10, .p 11, .q 12, .p 13, .p 14, .p 15, .p 16, .p 17, .p 18, .p 19, .p 20] ?_
  refine pm (pm ?_);simp only [nf]
  refine pq rfl rfl (qr_b2s Sl.nil rfl Tryd.underlying22 Tryd.underlying5 Tryd.underlying9) ?_;simp only [nf]
  refine pp rfl rfl (pr_bin rfl rfl bin_eql_s) ?_;simp only [nf]
  refine pm ?_;simp only [nf]
  refine plan_pc_t rfl rfl rfl (fun hb => by have hb' := hb; try simp only [gsl] at hb'; rw [hb]; exact pr_move) ?_
  (try simp only [nf])
  refine plan_pc_t rfl rfl rfl (fun hb => by have hb' := hb; try simp only [gsl] at hb'; rw [hb]; exact pr_move) ?_
  (try simp only [nf])
  refine plan_pc_t rfl rfl rfl (fun hb => by have hb' := hb; try simp only [gsl] at hb'; rw [hb]; exact (pr_bin rfl rfl (by first | exact bin_eql_n  | exact bin_eql_i))) ?_
  (try simp only [nf])
  refine pp rfl rfl (pr_pick_and rfl rfl rfl) ?_;simp only [nf]
  refine pm ?_;simp only [nf]
  refine plan_pc_t rfl rfl rfl (fun hb => by have hb' := hb; try simp only [gsl] at hb'; rw [hb]; exact pr_move) ?_
  (try simp only [nf])
  refine plan_pc_t rfl rfl rfl (fun hb => by have hb' := hb; try simp only [gsl] at hb'; rw [hb]; exact pr_move) ?_
  (try simp only [nf])
  refine plan_qc_t rfl rfl rfl (fun hb => by have hb' := hb; try simp only [gsl] at hb'; rw [hb]; exact (qr_b2s Sl.nil rfl Tryd.underlying22 Tryd.underlying5 Tryd.underlying9)) ?_
  (try simp only [nf])
  refine plan_pc_t rfl rfl rfl (fun hb => by have hb' := hb; try simp only [gsl] at hb'; rw [hb]; exact (pr_bin rfl rfl bin_eql_s)) ?_
  (try simp only [nf])
  refine pp rfl rfl (pr_pick_and rfl rfl rfl) ?_;simp only [nf]
  refine pm ?_;simp only [nf]
  refine plan_pc_t rfl rfl rfl (fun hb => by have hb' := hb; try simp only [gsl] at hb'; rw [hb]; exact pr_move) ?_
  (try simp only [nf])
  refine plan_pc_t rfl rfl rfl (fun hb => by have hb' := hb; try simp only [gsl] at hb'; rw [hb]; exact pr_move) ?_
  (try simp only [nf])
  refine plan_pc_t rfl rfl rfl (fun hb => by have hb' := hb; try simp only [gsl] at hb'; rw [hb]; exact (pr_bin rfl rfl (by first | exact bin_eql_n  | exact bin_eql_i))) ?_
  (try simp only [nf])
  refine pp rfl rfl (pr_pick_and rfl rfl rfl) ?_;simp only [nf]
  refine pa ?_;simp only [nf]
  refine plan_nil hH ?_
  clear hH
  intro w35 hH
  refine hK34 _ _ ?_
  (try clear hK34 K34)
  refine wp_ret ?_
  (try simp only [Exit.then, Exit.inBlock, ↓reduceIte, Nat.reduceEqDiff])
  refine BP.ret1 rfl rfl ?_
  exact ⟨congrArg BV (by simp), hH.chg⟩

end Go.Proofs.YtmoaddicejohgaaDoor
