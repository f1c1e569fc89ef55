/- Walks of guard.RetryTag and of the document's. No further conditions. -/
import Derived.Test.YtmoaddicejohgaaDoorHkdf
import Derived.Test.YtmoaddicejohgaaDoorGcmL
set_option linter.unusedSimpArgs false
set_option linter.unusedVariables false
set_option maxRecDepth 100000
set_option maxHeartbeats 4000000
namespace Go.Proofs.YtmoaddicejohgaaDoor
open Go
open List (getD_cons_zero getD_cons_succ set_cons_zero set_cons_succ)

def retK : List UInt8 := [190, 12, 105, 11, 159, 102, 87, 90, 29, 118, 107, 84, 227, 104, 200, 78]
def retI : List UInt8 := [70, 21, 153, 211, 93, 99, 43, 242, 35, 152, 37, 187]
def retT (s : ByteArray) (rl : List UInt8) : List UInt8 := sealedL (kexp fun i => retK.getD i 0) (hP (kexp fun i => retK.getD i 0)) retI ([UInt8.ofNat s.size] ++ s.data.toList ++ rl) []

theorem retry_calls (s : ByteArray) (rv : Value) (rl : List UInt8) (w : World) (hr : Sl w rv rl) (hs : s.size ≤ 20) (hrl : rl.length ≤ 100000) : Ret Tryd.prog 10 #[.string s, rv] w fun v w' => v = .tuple #[.string ⟨(retT s rl).toArray⟩, I64 (0 : Nat)] ∧ Chg [] w w' := by
 have hsl : s.data.toList.length = s.size := by simp
 refine Ret.enter Tryd.func10 rfl ?_
 simp only [Tryd.ntmps10, fe, Nat.reduceAdd, Nat.reduceSub]
 have hH := Hp.start [] w
 refine wp_seq_k ?_
 intro K1 hK1
 refine wrt [.p 0, .p 1] ?_
 refine pa (pka 0 ?_);simp only [nf]
 refine plan_nil hH ?_
 clear hH
 intro w2 hH
 refine hK1 _ _ ?_
 (try clear hK1 K1)
 refine wp_seq_k ?_
 intro K3 hK3
 refine wp_seq_k ?_
 intro K4 hK4
 refine wrt [.p 0, .p 1, .p 2] ?_
 refine pm ?_;simp only [nf]
 refine pp rfl rfl (pr_len_str rfl Tryd.underlying9) ?_;simp only [nf]
 refine pp rfl rfl (pr_bin rfl rfl (by first | exact bin_gtr_n (n := 20)  | exact bin_gtr_i)) ?_;simp only [nf]
 refine plan_nil hH ?_
 clear hH
 intro w5 hH
 refine hK4 _ _ ?_
 (try clear hK4 K4)
 refine wp_cond_false (by show BV _ = _; exact congrArg BV (decide_eq_false (by omega))) ?_
 refine wp_skip ?_
 refine hK3 _ _ ?_
 (try clear hK3 K3)
 refine wp_seq_k ?_
 intro K6 hK6
 refine wrt [.x 0, .e 1, .x 2, .p 3, .p 4, .p 5, .p 6, .p 7] ?_
 refine plan_buildSlice rfl rfl hH Tryd.underlying22 (by rfl) (bs16 190 12 105 11 159 102 87 90 29 118 107 84 227 104 200 78) ?_
 clear hH
 intro b7 w8 hH
 (try simp only [nf, nh, Value.cells, arrB_set] at hH ⊢)
 refine plan_mark 0 rfl rfl hH rfl rfl Tryd.underlying22 Tryd.underlying5 ?_
 clear hH
 intro w9 hH
 (try simp only [nf] at hH ⊢)
 (try simp only [nf, nh, Value.cells, arrB_set] at hH ⊢)
 refine plan_callx rfl rfl hH cf22 (fun w' hH => gnew_calls _ _ w' (OwnC.sl hH 0 rfl (OwnC.of_bytes rfl)) (by simp)) rfl (fun _ _ _ h => by obtain ⟨_, _, _, hg, _⟩ := h; exact hg) ?_
 clear hH
 intro w10 v11 w12 hH hp13
 obtain ⟨b14, b15, rfl, hg, hfc, hbc, hfx, hbx, hne⟩ := hp13
 replace hH := hH.callnew2 hg hbc hfc hbx hfx hne
 clear hg hfc hbc hfx hbx hne
 (try simp only [nf, nh, Value.cells, arrB_set] at hH ⊢)
 (try simp only [nf])
 refine pm ?_;simp only [nf]
 refine pp rfl rfl (pr_extract rfl rfl) ?_;simp only [nf]
 refine pp rfl rfl (pr_extract rfl rfl) ?_;simp only [nf]
 refine pa (pa ?_);simp only [nf]
 refine plan_nil hH ?_
 clear hH
 intro w16 hH
 refine hK6 _ _ ?_
 (try clear hK6 K6)
 refine wp_seq_k ?_
 intro K17 hK17
 refine wp_seq_k ?_
 intro K18 hK18
 refine wrt [.p 0, .p 1] ?_
 refine pm ?_;simp only [nf]
 refine pp rfl rfl (pr_bin rfl rfl (by first | exact bin_neq_n (n := 0)  | exact bin_neq_i)) ?_;simp only [nf]
 refine plan_nil hH ?_
 clear hH
 intro w19 hH
 refine hK18 _ _ ?_
 (try clear hK18 K18)
 refine wp_cond_false rfl ?_
 refine wp_skip ?_
 refine hK17 _ _ ?_
 (try clear hK17 K17)
 refine wp_seq_k ?_
 intro K20 hK20
 refine wrt [.p 0, .x 1, .e 2, .p 3, .p 4, .p 5, .x 6, .p 7, .e 8, .p 9, .e 10, .x 11, .p 12, .p 13, .p 14, .p 15, .p 16] ?_
 refine pm ?_;simp only [nf]
 refine plan_buildSlice rfl rfl hH Tryd.underlying22 (by rfl) (bs12 70 21 153 211 93 99 43 242 35 152 37 187) ?_
 clear hH
 intro b21 w22 hH
 (try simp only [nf, nh, Value.cells, arrB_set] at hH ⊢)
 refine plan_mark 3 rfl rfl hH rfl rfl Tryd.underlying22 Tryd.underlying5 ?_
 clear hH
 intro w23 hH
 (try simp only [nf] at hH ⊢)
 (try simp only [nf, nh, Value.cells, arrB_set] at hH ⊢)
 refine pm ?_;simp only [nf]
 refine pp rfl rfl (pr_len_str rfl Tryd.underlying9) ?_;simp only [nf]
 refine pp rfl rfl (pr_conv rfl (by first | exact cnv_n_u8 Tryd.underlying3 Tryd.underlying5 | exact cnv_i_u8 Tryd.underlying3 Tryd.underlying5)) ?_;simp only [nf]
 refine plan_buildSlice rfl rfl hH Tryd.underlying22 (by rfl) (bs1 _) ?_
 clear hH
 intro b24 w25 hH
 (try simp only [nf, nh, Value.cells, arrB_set] at hH ⊢)
 refine pm ?_;simp only [nf]
 refine plan_append 4 rfl rfl hH rfl (OwnC.of_bytes rfl) (fun w' hH => src_string _) rfl rfl Tryd.underlying22 Tryd.underlying9 (.inr rfl) sz5 bz5 ze5 rfl (by first | omega | (simp <;> omega)) (by first | omega | (simp <;> omega)) ?_
 clear hH
 intro o26 cap27 cs28 w29 hO30 hH
 (try simp only [nf] at hH ⊢)
 (try simp only [nf, nh, Value.cells, arrB_set] at hH ⊢)
 try rw [← List.map_append] at hO30
 (try simp only [Nat.zero_add, List.nil_append, List.length_nil] at hO30 ⊢)
 refine pm ?_;simp only [nf]
 refine plan_append 4 rfl rfl hH rfl hO30 (fun w' hH => ((hr.chg hH.chg)).src) rfl rfl Tryd.underlying22 Tryd.underlying22 (.inl ⟨_, rfl⟩) sz5 bz5 ze5 rfl (by first | omega | (simp <;> omega)) (by first | omega | (simp <;> omega)) ?_
 clear hH
 intro o31 cap32 cs33 w34 hO35 hH
 (try simp only [nf] at hH ⊢)
 (try simp only [nf, nh, Value.cells, arrB_set] at hH ⊢)
 try rw [← List.map_append] at hO35
 (try simp only [Nat.zero_add, List.nil_append, List.length_nil] at hO35 ⊢)
 refine plan_callx rfl rfl hH cf23 (fun w' hH => Seal_calls _ _ _ (hP _) _ _ _ _ _ _ w' (hH.blk 2 rfl) (hH.blk 1 rfl) (OwnC.sl hH 3 rfl (OwnC.of_bytes rfl)) (by simp) (OwnC.sl hH 4 rfl hO35) Sl.nil (by simp)) rfl (fun _ _ _ h => by obtain ⟨_, _, _, _, hg, _⟩ := h; exact hg) ?_
 clear hH
 intro w36 v37 w38 hH hp39
 obtain ⟨o40, cap41, cs42, rfl, hg, hO43, hfr⟩ := hp39
 replace hH := hH.callown hg hfr
 clear hg hfr
 (try simp only [nf, nh, Value.cells, arrB_set] at hH ⊢)
 (try simp only [nf])
 refine pm ?_;simp only [nf]
 refine pp rfl rfl (pr_extract rfl rfl) ?_;simp only [nf]
 refine pp rfl rfl (pr_extract rfl rfl) ?_;simp only [nf]
 refine pa (pa ?_);simp only [nf]
 refine plan_nil hH ?_
 clear hH
 intro w44 hH
 refine hK20 _ _ ?_
 (try clear hK20 K20)
 refine wp_seq_k ?_
 intro K45 hK45
 refine wrt [.p 0, .q 1, .p 2, .p 3, .p 4] ?_
 refine pm ?_;simp only [nf]
 refine pq rfl rfl (qr_b2s (OwnC.sl hH 5 rfl hO43) rfl Tryd.underlying22 Tryd.underlying5 Tryd.underlying9) ?_;simp only [nf]
 refine pm (pa (pa ?_));simp only [nf]
 refine plan_nil hH ?_
 clear hH
 intro w46 hH
 refine hK45 _ _ ?_
 (try clear hK45 K45)
 refine wp_ret ?_
 (try simp only [Exit.then, Exit.inBlock, ↓reduceIte, Nat.reduceEqDiff])
 refine BP.ret2 rfl rfl rfl ?_
 exact ⟨rfl, hH.chg⟩

theorem retry_fails (s : ByteArray) (rv : Value) (w : World) (hs : 20 < s.size) : Ret Tryd.prog 10 #[.string s, rv] w fun v w' => v = .tuple #[.string ⟨#[]⟩, I64 (1 : Nat)] ∧ Chg [] w w' := by
 refine Ret.enter Tryd.func10 rfl ?_
 simp only [Tryd.ntmps10, fe, Nat.reduceAdd, Nat.reduceSub]
 have hH := Hp.start [] w
 refine wp_seq_k ?_
 intro K1 hK1
 refine wrt [.p 0, .p 1] ?_
 refine pa (pka 0 ?_);simp only [nf]
 refine plan_nil hH ?_
 clear hH
 intro w2 hH
 refine hK1 _ _ ?_
 (try clear hK1 K1)
 refine wp_seq_k ?_
 intro K3 hK3
 refine wp_seq_k ?_
 intro K4 hK4
 refine wrt [.p 0, .p 1, .p 2] ?_
 refine pm ?_;simp only [nf]
 refine pp rfl rfl (pr_len_str rfl Tryd.underlying9) ?_;simp only [nf]
 refine pp rfl rfl (pr_bin rfl rfl (by first | exact bin_gtr_n (n := 20)  | exact bin_gtr_i)) ?_;simp only [nf]
 refine plan_nil hH ?_
 clear hH
 intro w5 hH
 refine hK4 _ _ ?_
 (try clear hK4 K4)
 refine wp_cond_true (by show BV _ = _; exact congrArg BV (decide_eq_true (by omega))) ?_
 refine wp_seq_k ?_
 intro K6 hK6
 refine wrt [.p 0, .p 1] ?_
 refine pa (pka 1 ?_);simp only [nf]
 refine plan_nil hH ?_
 clear hH
 intro w7 hH
 refine hK6 _ _ ?_
 (try clear hK6 K6)
 refine wp_ret ?_
 (try simp only [Exit.then, Exit.inBlock, ↓reduceIte, Nat.reduceEqDiff])
 refine BP.ret2 rfl rfl rfl ?_
 exact ⟨rfl, hH.chg⟩

theorem docretry_calls (s t : ByteArray) (w : World) (hs : s.size ≤ 20) (ht : t.size ≤ 100000) : Ret Tryd.prog 9 #[.string s, .string t] w fun v w' => v = .tuple #[.string ⟨(retT s t.data.toList).toArray⟩, I64 (0 : Nat)] ∧ Chg [] w w' := by
 refine Ret.enter Tryd.func9 rfl ?_
 simp only [Tryd.ntmps9, fe, Nat.reduceAdd, Nat.reduceSub]
 have hH := Hp.start [] w
 refine wp_seq_k ?_
 intro K1 hK1
 refine wrt [.p 0, .p 1] ?_
 refine pa (pka 0 ?_);simp only [nf]
 refine plan_nil hH ?_
 clear hH
 intro w2 hH
 refine hK1 _ _ ?_
 (try clear hK1 K1)
 refine wp_seq_k ?_
 intro K3 hK3
 refine wp_seq_k ?_
 intro K4 hK4
 refine wrt [.p 0, .p 1, .p 2] ?_
 refine pm ?_;simp only [nf]
 refine pp rfl rfl (pr_len_str rfl Tryd.underlying9) ?_;simp only [nf]
 refine pp rfl rfl (pr_bin rfl rfl (by first | exact bin_gtr_n (n := 20)  | exact bin_gtr_i)) ?_;simp only [nf]
 refine plan_nil hH ?_
 clear hH
 intro w5 hH
 refine hK4 _ _ ?_
 (try clear hK4 K4)
 refine wp_cond_false (by show BV _ = _; exact congrArg BV (decide_eq_false (by omega))) ?_
 refine wp_skip ?_
 refine hK3 _ _ ?_
 (try clear hK3 K3)
 refine wp_seq_k ?_
 intro K6 hK6
 refine wrt [.p 0, .p 1, .p 2, .x 3, .q 4, .p 5, .p 6, .p 7, .p 8, .q 9, .p 10, .p 11, .p 12, .p 13, .p 14] ?_
 refine pm ?_;simp only [nf]
 refine pp rfl rfl (pr_len_str rfl Tryd.underlying9) ?_;simp only [nf]
 refine pp rfl rfl (pr_conv rfl (by first | exact cnv_n_u8 Tryd.underlying3 Tryd.underlying5 | exact cnv_i_u8 Tryd.underlying3 Tryd.underlying5)) ?_;simp only [nf]
 refine plan_buildSlice rfl rfl hH Tryd.underlying22 (by rfl) (bs1 _) ?_
 clear hH
 intro b7 w8 hH
 (try simp only [nf, nh, Value.cells, arrB_set] at hH ⊢)
 refine pq rfl rfl (qr_b2s (OwnC.sl hH 0 rfl (OwnC.of_bytes rfl)) rfl Tryd.underlying22 Tryd.underlying5 Tryd.underlying9) ?_;simp only [nf]
 refine pm ?_;simp only [nf]
 refine pp rfl rfl (pr_bin rfl rfl (bin_add_s (by first | omega | (first | (show 1 + s.size < _; omega) | (rw [ByteArray.size_append]; show 1 + s.size + t.size < _; omega))))) ?_;simp only [nf]
 refine pm ?_;simp only [nf]
 refine pp rfl rfl (pr_bin rfl rfl (bin_add_s (by first | omega | (first | (show 1 + s.size < _; omega) | (rw [ByteArray.size_append]; show 1 + s.size + t.size < _; omega))))) ?_;simp only [nf]
 refine pq rfl rfl (qr_call cf21 (fun w' hw => refSeal_calls _ _ _ _ w' rfl rfl (by rw [ByteArray.size_append, ByteArray.size_append]; show 1 + s.size + t.size ≤ _; omega) (by show 0 ≤ _; omega)) rfl) ?_;simp only [nf]
 refine pm ?_;simp only [nf]
 refine pp rfl rfl (pr_extract rfl rfl) ?_;simp only [nf]
 refine pp rfl rfl (pr_extract rfl rfl) ?_;simp only [nf]
 refine pa (pa ?_);simp only [nf]
 refine plan_nil hH ?_
 clear hH
 intro w9 hH
 refine hK6 _ _ ?_
 (try clear hK6 K6)
 refine wp_seq_k ?_
 intro K10 hK10
 refine wrt [.p 0, .p 1, .p 2] ?_
 refine pm (pa (pka 0 ?_));simp only [nf]
 refine plan_nil hH ?_
 clear hH
 intro w11 hH
 refine hK10 _ _ ?_
 (try clear hK10 K10)
 refine wp_ret ?_
 (try simp only [Exit.then, Exit.inBlock, ↓reduceIte, Nat.reduceEqDiff])
 refine BP.ret2 rfl rfl rfl ?_
 exact ⟨by unfold retT; rw [str_app, str_app]; rfl, hH.chg⟩

theorem docretry_fails (s : ByteArray) (t : Value) (w : World) (hs : 20 < s.size) : Ret Tryd.prog 9 #[.string s, t] w fun v w' => v = .tuple #[.string ⟨#[]⟩, I64 (1 : Nat)] ∧ Chg [] w w' := by
 refine Ret.enter Tryd.func9 rfl ?_
 simp only [Tryd.ntmps9, fe, Nat.reduceAdd, Nat.reduceSub]
 have hH := Hp.start [] w
 refine wp_seq_k ?_
 intro K1 hK1
 refine wrt [.p 0, .p 1] ?_
 refine pa (pka 0 ?_);simp only [nf]
 refine plan_nil hH ?_
 clear hH
 intro w2 hH
 refine hK1 _ _ ?_
 (try clear hK1 K1)
 refine wp_seq_k ?_
 intro K3 hK3
 refine wp_seq_k ?_
 intro K4 hK4
 refine wrt [.p 0, .p 1, .p 2] ?_
 refine pm ?_;simp only [nf]
 refine pp rfl rfl (pr_len_str rfl Tryd.underlying9) ?_;simp only [nf]
 refine pp rfl rfl (pr_bin rfl rfl (by first | exact bin_gtr_n (n := 20)  | exact bin_gtr_i)) ?_;simp only [nf]
 refine plan_nil hH ?_
 clear hH
 intro w5 hH
 refine hK4 _ _ ?_
 (try clear hK4 K4)
 refine wp_cond_true (by show BV _ = _; exact congrArg BV (decide_eq_true (by omega))) ?_
 refine wp_seq_k ?_
 intro K6 hK6
 refine wrt [.p 0, .p 1] ?_
 refine pa (pka 1 ?_);simp only [nf]
 refine plan_nil hH ?_
 clear hH
 intro w7 hH
 refine hK6 _ _ ?_
 (try clear hK6 K6)
 refine wp_ret ?_
 (try simp only [Exit.then, Exit.inBlock, ↓reduceIte, Nat.reduceEqDiff])
 refine BP.ret2 rfl rfl rfl ?_
 exact ⟨rfl, hH.chg⟩

end Go.Proofs.YtmoaddicejohgaaDoor
