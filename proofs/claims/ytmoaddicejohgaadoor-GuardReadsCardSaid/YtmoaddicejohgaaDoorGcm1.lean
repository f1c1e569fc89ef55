/- Walks of gcm: take, counter, Same, New, seal, Seal, Open, where they answer and where they refuse. No further conditions. -/
import Derived.Test.YtmoaddicejohgaaDoorGcm0
set_option linter.unusedSimpArgs false
set_option linter.unusedVariables false
set_option maxRecDepth 100000
set_option maxHeartbeats 4000000
namespace Go.Proofs.YtmoaddicejohgaaDoor
open Go
open List (getD_cons_zero getD_cons_succ set_cons_zero set_cons_succ)

theorem wordF_congr {f g : Nat → UInt8} : ∀ n, (∀ i, i < n → f i = g i) → wordF f n = wordF g n
  | 0, _ => rfl
  | n + 1, h => by rw [wordF, wordF, wordF_congr n fun i hi => h i (by omega), h n (by omega)]
theorem ofP_congr {f g : Nat → UInt8} (h : ∀ i, i < 16 → f i = g i) : ofP f = ofP g := by
  unfold ofP
  rw [wordF_congr 8 fun i hi => h i (by omega), wordF_congr 8 fun i hi => h (8 + i) (by omega)]
theorem copy_blk (l : List UInt8) (k j : Nat) (hj : j < 16) : (if 0 ≤ j ∧ j < min (l.drop (16 * k)).length 16 then (l.drop (16 * k)).getD (j - 0) 0 else 0) = l.getD (16 * k + j) 0 := by
  rw [Nat.sub_zero]
  by_cases h : j < min (l.drop (16 * k)).length 16
  · rw [if_pos ⟨Nat.zero_le _, h⟩]
    simp only [List.getD, List.getElem?_drop]
  · rw [if_neg (by omega)]
    rw [List.length_drop] at h
    simp only [List.getD]
    rw [List.getElem?_eq_none (by omega)]; rfl
theorem drop_blk (l : List UInt8) (k : Nat) : (l.drop (16 * k)).drop (min (l.drop (16 * k)).length 16) = l.drop (16 * (k + 1)) := by
  rw [List.drop_drop]
  by_cases h : 16 * k + 16 ≤ l.length
  · rw [List.length_drop, show 16 * k + min (l.length - 16 * k) 16 = 16 * (k + 1) by omega]
  · rw [List.length_drop, List.drop_eq_nil_of_le (by omega), List.drop_eq_nil_of_le (by omega)]
/-- What of two rows differs, put together. -/
def orD (a b : List UInt8) : Nat → UInt8
  | 0 => 0
  | n + 1 => orD a b n ||| (a.getD n 0 ^^^ b.getD n 0)
theorem or8_zero {x y : UInt8} : x ||| y = 0 ↔ x = 0 ∧ y = 0 := by
  constructor
  · intro h
    have h1 := congrArg UInt8.toNat h
    rw [UInt8.toNat_or] at h1
    have h1 : x.toNat ||| y.toNat = 0 := h1
    rw [Nat.or_eq_zero_iff] at h1
    exact ⟨UInt8.toNat_inj.1 h1.1, UInt8.toNat_inj.1 h1.2⟩
  · rintro ⟨rfl, rfl⟩; rfl
theorem xor8_zero {x y : UInt8} : x ^^^ y = 0 ↔ x = y := by
  constructor
  · intro h
    have := congrArg (· ^^^ y) h
    simpa [UInt8.xor_assoc] using this
  · rintro rfl; exact UInt8.xor_self
theorem orD_zero (a b : List UInt8) : ∀ n, orD a b n = 0 ↔ ∀ i, i < n → a.getD i 0 = b.getD i 0
  | 0 => ⟨fun _ i hi => absurd hi (Nat.not_lt_zero _), fun _ => rfl⟩
  | n + 1 => by
    rw [orD, or8_zero, orD_zero a b n, xor8_zero]
    constructor
    · rintro ⟨h1, h2⟩ i hi
      by_cases e : i = n
      · subst e; exact h2
      · exact h1 i (by omega)
    · intro h
      exact ⟨fun i hi => h i (by omega), h n (by omega)⟩
theorem same_is {a b : List UInt8} (h : a.length = b.length) : (orD a b a.length == 0) = (a == b) := by
  rw [Bool.eq_iff_iff, beq_iff_eq, beq_iff_eq, orD_zero]
  constructor
  · intro h1
    apply List.ext_getElem h
    intro i h2 h3
    have := h1 i h2
    simpa [List.getD, h2, h3] using this
  · rintro rfl i _; rfl
/-- The counter of a nonce. -/
def gctr (nl : List UInt8) (n : UInt8) (i : Nat) : UInt8 := (nl ++ [0, 0, 0, n]).getD i 0
def sealP (h : P2) (al cl : List UInt8) : P2 :=
  mulP ((takeP h (takeP h (0, 0) al (blocks al)) cl (blocks cl)).1 ^^^ UInt64.ofNat al.length <<< 3, (takeP h (takeP h (0, 0) al (blocks al)) cl (blocks cl)).2 ^^^ UInt64.ofNat cl.length <<< 3) h
def sealL (kf : Nat → UInt8) (h : P2) (nl al cl : List UInt8) : List UInt8 := strm kf (gctr nl 1) 0 ((List.range 16).map (nbP (sealP h al cl))) 16
def hidL (kf : Nat → UInt8) (nl bl : List UInt8) : List UInt8 := strm kf (gctr nl 2) 0 bl bl.length
def sealedL (kf : Nat → UInt8) (h : P2) (nl al bl : List UInt8) : List UInt8 := hidL kf nl bl ++ sealL kf h nl al (hidL kf nl bl)
theorem sealL_len (kf : Nat → UInt8) (h : P2) (nl al cl : List UInt8) : (sealL kf h nl al cl).length = 16 := strm_len ..
theorem hidL_len (kf : Nat → UInt8) (nl bl : List UInt8) : (hidL kf nl bl).length = bl.length := strm_len ..
/-- A key's own block. -/
def hP (kf : Nat → UInt8) : P2 := ofP (aesR kf (fun _ => 0) 10)
theorem hP_is (kf : Nat → UInt8) : ofP (aesR kf (fun i => ((List.range 16).map fun _ => (0 : UInt8)).getD i 0) 10) = hP kf := by
  unfold hP
  rw [show (fun i => ((List.range 16).map fun _ => (0 : UInt8)).getD i 0) = fun _ => 0 from funext (zeros_getD 16)]

theorem take_calls (bx : Nat) (X v : Value) (h r : P2) (l : List UInt8) (w : World) (hx : Blk w bx 89 #[X, V64 h.1, V64 h.2]) (hv : Sl w v l) :
    Ret Tryd.prog 64 #[PT bx 0, PV r, v] w fun v' w' => v' = PV (takeP h r l (blocks l)) ∧ Chg [] w w' := by
 refine Ret.enter Tryd.func64 rfl ?_
 simp only [Tryd.ntmps64, fe, Nat.reduceAdd, Nat.reduceSub]
 have hH := Hp.start [] w
 refine wp_seq_k ?_
 intro K1 hK1
 refine wrt [.x 0, .x 1] ?_
 refine plan_box rfl rfl hH rfl ?_
 clear hH
 intro b2 w3 hH
 (try simp only [nf, nh, Value.cells, arrB_set] at hH ⊢)
 refine plan_alloc rfl rfl hH zc85 ?_
 clear hH
 intro b4 w5 hH
 (try simp only [nf, nh, Value.cells, arrB_set] at hH ⊢)
 refine plan_nil hH ?_
 clear hH
 intro w6 hH
 refine hK1 _ _ ?_
 (try clear hK1 K1)
 refine wp_seq_k ?_
 intro K7 hK7
 refine wp_block ?_
 obtain ⟨kc8, hkc9, hN⟩ := hH.name 1 rfl
 replace hH := hN; clear hN; simp only [List.set_cons_zero, List.set_cons_succ] at hH
 refine wp_loopT [2] [7, 8, 9, 10, 11, 12, 13, 14, 15, 16, 17, 18, 19, 20, 21, 22, 23, 24, 25, 26, 27, 28, 29, 30, 31, 32, 33, 34, 35, 36] (fun (n10 : Nat) (vs : List Value) (w' : World) => ∃ (k : Nat) (bv : Value), vs = [bv] ∧ Hp [] w w' [(some b2, 85, #[V64 (takeP h r l k).1, V64 (takeP h r l k).2]), (some b4, 85, kc8)] ∧ n10 = blocks l - k ∧ k ≤ blocks l ∧ Sl w bv (l.drop (16 * k))) (blocks l - 0) (by kernel_rfl) ?_ ?_
 ·
  simp only [ga]
  refine ⟨0, _, rfl, ?_, rfl, ?_, ?_⟩
  ·
   exact hH
  · first | omega | (omega)
  · first | omega | (exact hv)
 clear hH
 intro n10 vs11 w12 hR13 d0
 obtain ⟨k, bv, rfl, hH, hn14, hf15, hbv⟩ := hR13
 simp only [putAll, putD, List.set_cons_zero, List.set_cons_succ, Nat.zero_add, Nat.reduceAdd]
 subst hkc9
 refine wp_seq_k ?_
 intro K16 hK16
 refine wp_seq_k ?_
 intro K17 hK17
 refine wrt [.p 0, .p 1, .p 2] ?_
 refine pm ?_;simp only [nf]
 refine pp rfl rfl (pr_len_Sl (hbv.chg hH.chg) rfl Tryd.underlying22) ?_;simp only [nf]
 refine pp rfl rfl (pr_bin rfl rfl (by first | exact bin_gtr_n (n := 0)  | exact bin_gtr_i)) ?_;simp only [nf]
 refine plan_nil hH ?_
 clear hH
 intro w18 hH
 refine hK17 _ _ ?_
 (try clear hK17 K17)
 refine wp_cond_split rfl (fun hc19 => ?_) (fun hc19 => ?_)
 ·
  (try simp only [cnd] at hc19)
  refine wp_skip ?_
  refine hK16 _ _ ?_
  (try clear hK16 K16)
  refine wp_block ?_
  refine wp_seq_k ?_
  intro K20 hK20
  refine wrt [.x 0] ?_
  refine plan_alloc rfl rfl hH zc87 ?_
  clear hH
  intro b21 w22 hH
  (try simp only [nf, nh, Value.cells, arrB_set] at hH ⊢)
  refine plan_nil hH ?_
  clear hH
  intro w23 hH
  refine hK20 _ _ ?_
  (try clear hK20 K20)
  refine wp_seq_k ?_
  intro K24 hK24
  refine wrt [.p 0, .p 1, .e 2, .p 3] ?_
  refine pp rfl rfl (pr_slice_arr_all rfl Tryd.underlying87 sz5) ?_;simp only [nf]
  (try simp only [Nat.mul_one, Nat.zero_add, Nat.add_sub_cancel_left])
  refine pm ?_;simp only [nf]
  refine plan_copy 2 rfl rfl hH rfl (fun w' hH => ((hbv.chg hH.chg)).csrc) rfl rfl Tryd.underlying22 sz5 (by first | omega | (simp only [List.length_drop] at *; omega)) ?_
  clear hH
  intro w25 hH
  (try simp only [nf, nh, Value.cells, arrB_set] at hH ⊢)
  refine pa ?_;simp only [nf]
  refine plan_nil hH ?_
  clear hH
  intro w26 hH
  replace hH := hH.say 2 rfl (arr8_congr fun j hj => copy_blk l k j hj)
  simp only [List.set_cons_zero, List.set_cons_succ] at hH
  refine hK24 _ _ ?_
  (try clear hK24 K24)
  refine wp_seq_k ?_
  intro K27 hK27
  refine wrt [.p 0, .p 1, .p 2, .p 3] ?_
  refine pm (pm ?_);simp only [nf]
  refine pp rfl rfl (pr_slice_Sl_l (hbv.chg hH.chg) rfl rfl Tryd.underlying22 sz5 (by first | omega | (simp only [List.length_drop] at *; omega))) ?_;simp only [nf]
  refine pa ?_;simp only [nf]
  refine plan_nil hH ?_
  clear hH
  intro w28 hH
  refine hK27 _ _ ?_
  (try clear hK27 K27)
  refine wp_seq_k ?_
  intro K29 hK29
  refine wrt [.q 0, .q 1, .x 2, .e 3] ?_
  refine pq rfl rfl (qr_loadW rfl (hH.blk 2 rfl) Tryd.underlying87 rfl sz87 (by simp)) ?_;simp only [nf]
  refine pq rfl rfl (qr_call cf44 (fun w' hw => of_calls _ w') rfl) ?_;simp only [nf]
  refine plan_alloc rfl rfl hH zc85 ?_
  clear hH
  intro b30 w31 hH
  (try simp only [nf, nh, Value.cells, arrB_set] at hH ⊢)
  refine plan_storeW 3 rfl rfl hH rfl rfl rfl (by simp [Value.oneCell']) sz85 (by simp) (by simp) ?_
  clear hH
  intro w32 hH
  (try simp only [nf, nh, Value.cells, arrB_set] at hH ⊢)
  refine plan_nil hH ?_
  clear hH
  intro w33 hH
  refine hK29 _ _ ?_
  (try clear hK29 K29)
  refine wrp [.p 0, .p 2, .p 5, .p 7, .p 11, .p 12, .p 13, .q 1, .q 3, .p 4, .q 6, .q 8, .p 9, .p 10, .q 14, .q 15, .e 16] ?_
  refine pp rfl rfl (pr_fieldAddr 0 rfl Tryd.underlying85 rfl rfl sz49) ?_;simp only [nf]
  refine pp rfl rfl (pr_fieldAddr 0 rfl Tryd.underlying85 rfl rfl sz49) ?_;simp only [nf]
  refine pp rfl rfl (pr_fieldAddr 1 rfl Tryd.underlying85 rfl rfl sz49) ?_;simp only [nf]
  refine pp rfl rfl (pr_fieldAddr 1 rfl Tryd.underlying85 rfl rfl sz49) ?_;simp only [nf]
  refine pm ?_;simp only [nf]
  refine pp rfl rfl (pr_nilCheck rfl) ?_;simp only [nf]
  refine pp rfl rfl (pr_fieldAddr 1 rfl Tryd.underlying89 rfl rfl sz85) ?_;simp only [nf]
  refine pq rfl rfl (qr_load1 rfl Tryd.underlying49 rfl ((hH.blk 0 rfl).cell rfl)) ?_;simp only [nf]
  refine pq rfl rfl (qr_load1 rfl Tryd.underlying49 rfl ((hH.blk 3 rfl).cell rfl)) ?_;simp only [nf]
  refine pp rfl rfl (pr_bin rfl rfl (bin_xor_u64 _ _)) ?_;simp only [nf]
  refine pq rfl rfl (qr_load1 rfl Tryd.underlying49 rfl ((hH.blk 0 rfl).cell rfl)) ?_;simp only [nf]
  refine pq rfl rfl (qr_load1 rfl Tryd.underlying49 rfl ((hH.blk 3 rfl).cell rfl)) ?_;simp only [nf]
  refine pp rfl rfl (pr_bin rfl rfl (bin_xor_u64 _ _)) ?_;simp only [nf]
  refine pp rfl rfl (pr_build (by rfl) (bd85_0_1 _ _)) ?_;simp only [nf]
  refine pq rfl rfl (qr_loadE _ rfl (hH.chg.nil_blk hx) Tryd.underlying85 rfl sz85 (by simp) (ext2 _ _ _ _ rfl)) ?_;simp only [nf]
  refine pq rfl rfl (qr_call cf65 (fun w' hw => gtimes_calls (_, _) (_, _) w') rfl) ?_;simp only [nf]
  refine plan_storeW 0 rfl rfl hH rfl rfl rfl (by simp [Value.oneCell']) sz85 (by simp) (by simp) ?_
  clear hH
  intro w34 hH
  (try simp only [nf, nh, Value.cells, arrB_set] at hH ⊢)
  refine plan_nil hH ?_
  clear hH
  intro w35 hH
  (try simp only [Exit.then, Exit.inBlock, ↓reduceIte, Nat.reduceEqDiff])
  refine ⟨blocks l - (k + 1), ?_, _, rfl, by kernel_rfl, ?_⟩
  · first | omega | (unfold blocks at *; simp only [List.length_drop] at *; omega)
  simp only [ga]
  refine ⟨k + 1, _, rfl, ?_, rfl, ?_, ?_⟩
  ·
   exact hH.take 2
  · first | omega | (unfold blocks at *; simp only [List.length_drop] at *; omega)
  · first | omega | (rw [← drop_blk]; exact Sl.cutl hbv (by omega))
 ·
  (try simp only [cnd] at hc19)
  refine wp_exit ?_
  (try simp only [Exit.then, Exit.inBlock, ↓reduceIte, Nat.reduceEqDiff])
  refine hK7 _ _ ?_
  (try clear hK7 K7)
  refine wp_seq_k ?_
  intro K36 hK36
  refine wrt [.q 0, .e 1] ?_
  refine pq rfl rfl (qr_loadW rfl (hH.blk 0 rfl) Tryd.underlying85 rfl sz85 (by simp)) ?_;simp only [nf]
  refine plan_storeW 1 rfl rfl hH rfl rfl rfl (by simp [Value.oneCell']) sz85 (by simp) (by simp) ?_
  clear hH
  intro w37 hH
  (try simp only [nf, nh, Value.cells, arrB_set] at hH ⊢)
  refine plan_nil hH ?_
  clear hH
  intro w38 hH
  refine hK36 _ _ ?_
  (try clear hK36 K36)
  refine wp_ret ?_
  (try simp only [Exit.then, Exit.inBlock, ↓reduceIte, Nat.reduceEqDiff])
  refine BP.retc rfl rfl (hH.blk 1 rfl) Tryd.underlying85 rfl sz85 (by simp) ?_
  obtain rfl : k = blocks l := by unfold blocks at *; simp only [List.length_drop] at *; omega
  exact ⟨rfl, hH.chg⟩

theorem counter_calls (v : Value) (nl : List UInt8) (n : UInt8) (w : World) (hv : Sl w v nl) (hl : nl.length = 12) : Ret Tryd.prog 46 #[v, V8 n] w fun v w' => ∃ o cap cs, v = own o 16 cap ∧ Chg [] w w' ∧ OwnC o 16 cap 1 cs ((nl ++ [0, 0, 0, n]).map V8) ∧ ∀ bo, o = some bo → w.heap.size ≤ bo ∧ Blk w' bo 5 cs := by
 refine Ret.enter Tryd.func46 rfl ?_
 simp only [Tryd.ntmps46, fe, Nat.reduceAdd, Nat.reduceSub]
 have hH := Hp.start [] w
 refine wp_seq_k ?_
 intro K1 hK1
 refine wrt [.p 0] ?_
 refine pa ?_;simp only [nf]
 refine plan_nil hH ?_
 clear hH
 intro w2 hH
 refine hK1 _ _ ?_
 (try clear hK1 K1)
 refine wp_seq_k ?_
 intro K3 hK3
 refine wrt [.x 0, .p 1, .e 2, .p 3, .x 4, .e 5, .p 6] ?_
 refine plan_buildSlice rfl rfl hH Tryd.underlying22 (by rfl) (bs0 ) ?_
 clear hH
 intro b4 w5 hH
 (try simp only [nf, nh, Value.cells, arrB_set] at hH ⊢)
 refine pm ?_;simp only [nf]
 refine plan_append 0 rfl rfl hH rfl (OwnC.of_bytes rfl) (fun w' hH => ((hv.chg hH.chg)).src) rfl rfl Tryd.underlying22 Tryd.underlying22 (.inl ⟨_, rfl⟩) sz5 bz5 ze5 rfl (by first | omega | (simp <;> omega)) (by first | omega | (simp <;> omega)) ?_
 clear hH
 intro o6 cap7 cs8 w9 hO10 hH
 (try simp only [nf] at hH ⊢)
 (try simp only [nf, nh, Value.cells, arrB_set] at hH ⊢)
 try rw [← List.map_append] at hO10
 (try simp only [Nat.zero_add, List.nil_append, List.length_nil] at hO10 ⊢)
 refine pm ?_;simp only [nf]
 refine plan_buildSlice rfl rfl hH Tryd.underlying22 (by rfl) (bs4 0 0 0 _) ?_
 clear hH
 intro b11 w12 hH
 (try simp only [nf, nh, Value.cells, arrB_set] at hH ⊢)
 refine plan_append 0 rfl rfl hH rfl hO10 (fun w' hH => ((OwnC.sl hH 1 rfl (OwnC.of_bytes rfl))).src) rfl rfl Tryd.underlying22 Tryd.underlying22 (.inl ⟨_, rfl⟩) sz5 bz5 ze5 rfl (by first | omega | (simp <;> omega)) (by first | omega | (simp <;> omega)) ?_
 clear hH
 intro o13 cap14 cs15 w16 hO17 hH
 (try simp only [nf] at hH ⊢)
 (try simp only [nf, nh, Value.cells, arrB_set] at hH ⊢)
 try rw [← List.map_append] at hO17
 (try simp only [Nat.zero_add, List.nil_append, List.length_nil] at hO17 ⊢)
 refine pa ?_;simp only [nf]
 refine plan_nil hH ?_
 clear hH
 intro w18 hH
 refine hK3 _ _ ?_
 (try clear hK3 K3)
 refine wp_ret ?_
 (try simp only [Exit.then, Exit.inBlock, ↓reduceIte, Nat.reduceEqDiff])
 refine BP.ret1 rfl rfl ?_
 simp only [List.length_cons, List.length_nil, hl, Nat.reduceAdd] at *
 exact ⟨_, _, _, rfl, hH.chg, (by assumption), hH.owned 0 rfl⟩

theorem same_not (a b : Value) (al bl : List UInt8) (w : World) (hal : al.length < 9223372036854775808) (ha : Sl w a al) (hb : Sl w b bl) (hl : al.length ≠ bl.length) : Ret Tryd.prog 50 #[a, b] w fun v w' => v = BV (al == bl) ∧ Chg [] w w' := by
 refine Ret.enter Tryd.func50 rfl ?_
 simp only [Tryd.ntmps50, fe, Nat.reduceAdd, Nat.reduceSub]
 have hH := Hp.start [] w
 refine wp_seq_k ?_
 intro K1 hK1
 refine wrt [.p 0] ?_
 refine pa ?_;simp only [nf]
 refine plan_nil hH ?_
 clear hH
 intro w2 hH
 refine hK1 _ _ ?_
 (try clear hK1 K1)
 refine wp_seq_k ?_
 intro K3 hK3
 refine wp_seq_k ?_
 intro K4 hK4
 refine wrt [.p 0, .p 1, .p 2, .p 3, .p 4] ?_
 refine pm ?_;simp only [nf]
 refine pp rfl rfl (pr_len_Sl (ha.chg hH.chg) rfl Tryd.underlying22) ?_;simp only [nf]
 refine pm ?_;simp only [nf]
 refine pp rfl rfl (pr_len_Sl (hb.chg hH.chg) rfl Tryd.underlying22) ?_;simp only [nf]
 refine pp rfl rfl (pr_bin rfl rfl (by first | exact bin_neq_n  | exact bin_neq_i)) ?_;simp only [nf]
 refine plan_nil hH ?_
 clear hH
 intro w5 hH
 refine hK4 _ _ ?_
 (try clear hK4 K4)
 refine wp_cond_true (by show BV _ = _; rw [bne_iff_ne.mpr hl]) ?_
 refine wp_seq_k ?_
 intro K6 hK6
 refine wrt [.p 0] ?_
 refine pa ?_;simp only [nf]
 refine plan_nil hH ?_
 clear hH
 intro w7 hH
 refine hK6 _ _ ?_
 (try clear hK6 K6)
 refine wp_ret ?_
 (try simp only [Exit.then, Exit.inBlock, ↓reduceIte, Nat.reduceEqDiff])
 refine BP.ret1 rfl rfl ?_
 exact ⟨congrArg BV (by symm; rw [beq_eq_false_iff_ne]; rintro rfl; exact hl rfl), hH.chg⟩

theorem same_len (a b : Value) (al bl : List UInt8) (w : World) (hal : al.length < 9223372036854775808) (ha : Sl w a al) (hb : Sl w b bl) (hl : al.length = bl.length) : Ret Tryd.prog 50 #[a, b] w fun v w' => v = BV (al == bl) ∧ Chg [] w w' := by
 refine Ret.enter Tryd.func50 rfl ?_
 simp only [Tryd.ntmps50, fe, Nat.reduceAdd, Nat.reduceSub]
 have hH := Hp.start [] w
 refine wp_seq_k ?_
 intro K1 hK1
 refine wrt [.p 0] ?_
 refine pa ?_;simp only [nf]
 refine plan_nil hH ?_
 clear hH
 intro w2 hH
 refine hK1 _ _ ?_
 (try clear hK1 K1)
 refine wp_seq_k ?_
 intro K3 hK3
 refine wp_seq_k ?_
 intro K4 hK4
 refine wrt [.p 0, .p 1, .p 2, .p 3, .p 4] ?_
 refine pm ?_;simp only [nf]
 refine pp rfl rfl (pr_len_Sl (ha.chg hH.chg) rfl Tryd.underlying22) ?_;simp only [nf]
 refine pm ?_;simp only [nf]
 refine pp rfl rfl (pr_len_Sl (hb.chg hH.chg) rfl Tryd.underlying22) ?_;simp only [nf]
 refine pp rfl rfl (pr_bin rfl rfl (by first | exact bin_neq_n  | exact bin_neq_i)) ?_;simp only [nf]
 refine plan_nil hH ?_
 clear hH
 intro w5 hH
 refine hK4 _ _ ?_
 (try clear hK4 K4)
 refine wp_cond_false (by show BV _ = _; rw [hl, bne_self_eq_false]) ?_
 refine wp_skip ?_
 refine hK3 _ _ ?_
 (try clear hK3 K3)
 refine wp_seq_k ?_
 intro K6 hK6
 refine wrt [.p 0] ?_
 refine pa ?_;simp only [nf]
 refine plan_nil hH ?_
 clear hH
 intro w7 hH
 refine hK6 _ _ ?_
 (try clear hK6 K6)
 refine wp_seq_k ?_
 intro K8 hK8
 refine wp_seq_k ?_
 intro K9 hK9
 refine wrt [.p 0, .p 1, .p 2] ?_
 refine pm ?_;simp only [nf]
 refine pp rfl rfl (pr_len_Sl (ha.chg hH.chg) rfl Tryd.underlying22) ?_;simp only [nf]
 refine pk 0 ?_;simp only [nf]
 refine plan_nil hH ?_
 clear hH
 intro w10 hH
 refine hK9 _ _ ?_
 (try clear hK9 K9)
 refine wp_block ?_
 refine wp_loopT [5, 15] [6, 7, 16, 17, 18, 19, 20, 21, 22, 23, 24, 25, 26, 27, 28] (fun (n11 : Nat) (vs : List Value) (w' : World) => ∃ (i : Nat), vs = [V8 (orD al bl i), I64 (i : Nat)] ∧ Hp [] w w' [] ∧ n11 = al.length - i ∧ i ≤ al.length) (al.length - 0) (by kernel_rfl) ?_ ?_
 ·
  simp only [ga]
  refine ⟨0, rfl, ?_, rfl, ?_⟩
  ·
   exact hH
  · first | omega | (omega)
 clear hH
 intro n11 vs12 w13 hR14 d0
 obtain ⟨i, rfl, hH, hn15, hf16⟩ := hR14
 simp only [putAll, putD, List.set_cons_zero, List.set_cons_succ, Nat.zero_add, Nat.reduceAdd]
 refine wp_seq_k ?_
 intro K17 hK17
 refine wrt [.p 0] ?_
 refine pp rfl rfl (pr_bin rfl rfl (by first | exact bin_lss_n  | exact bin_lss_i)) ?_;simp only [nf]
 refine plan_nil hH ?_
 clear hH
 intro w18 hH
 refine hK17 _ _ ?_
 (try clear hK17 K17)
 refine wp_seq_k ?_
 intro K19 hK19
 refine wp_cond_split rfl (fun hc20 => ?_) (fun hc20 => ?_)
 ·
  (try simp only [cnd] at hc20)
  refine wp_skip ?_
  refine hK19 _ _ ?_
  (try clear hK19 K19)
  refine wp_seq_k ?_
  intro K21 hK21
  refine wp_block ?_
  refine wp_seq_k ?_
  intro K22 hK22
  refine wrt [.p 0, .p 1, .q 2, .p 3, .p 4] ?_
  refine pm ?_;simp only [nf]
  refine pp rfl rfl (pr_idx_Sl (ha.chg hH.chg) rfl rfl Tryd.underlying22 sz5 (by omega)) ?_;simp only [nf]
  refine pq rfl rfl (qr_load1 rfl Tryd.underlying5 rfl (Sl.cell (ha.chg hH.chg) (by omega))) ?_;simp only [nf]
  refine pa (pa ?_);simp only [nf]
  refine plan_nil hH ?_
  clear hH
  intro w23 hH
  refine hK22 _ _ ?_
  (try clear hK22 K22)
  refine wrt [.p 0, .p 1, .p 2, .p 3, .p 4, .q 5, .p 6, .p 7, .p 8] ?_
  refine pm (pm (pm (pm ?_)));simp only [nf]
  refine pp rfl rfl (pr_idx_Sl (hb.chg hH.chg) rfl rfl Tryd.underlying22 sz5 (by omega)) ?_;simp only [nf]
  refine pq rfl rfl (qr_load1 rfl Tryd.underlying5 rfl (Sl.cell (hb.chg hH.chg) (by omega))) ?_;simp only [nf]
  refine pp rfl rfl (pr_bin rfl rfl (bin_xor_u8 _ _)) ?_;simp only [nf]
  refine pp rfl rfl (pr_bin rfl rfl (bin_or_u8 _ _)) ?_;simp only [nf]
  refine pa ?_;simp only [nf]
  refine plan_nil hH ?_
  clear hH
  intro w24 hH
  refine hK21 _ _ ?_
  (try clear hK21 K21)
  refine wrt [.p 0, .p 1] ?_
  refine pp rfl rfl (pr_bin rfl rfl (by first | exact bin_add_n (n := 1) (by omega) | exact bin_add_i (by omega) (by omega))) ?_;simp only [nf]
  refine pm ?_;simp only [nf]
  refine plan_nil hH ?_
  clear hH
  intro w25 hH
  (try simp only [Exit.then, Exit.inBlock, ↓reduceIte, Nat.reduceEqDiff])
  refine ⟨al.length - (i + 1), ?_, _, rfl, by kernel_rfl, ?_⟩
  · first | omega | (omega)
  simp only [ga]
  refine ⟨i + 1, rfl, ?_, rfl, ?_⟩
  ·
   exact hH
  · first | omega | (omega)
 ·
  (try simp only [cnd] at hc20)
  refine wp_exit ?_
  (try simp only [Exit.then, Exit.inBlock, ↓reduceIte, Nat.reduceEqDiff])
  refine hK8 _ _ ?_
  (try clear hK8 K8)
  refine wp_seq_k ?_
  intro K26 hK26
  refine wrt [.p 0, .p 1, .p 2] ?_
  refine pm ?_;simp only [nf]
  refine pp rfl rfl (pr_bin rfl rfl (bin_eql_u8 _ 0)) ?_;simp only [nf]
  refine pa ?_;simp only [nf]
  refine plan_nil hH ?_
  clear hH
  intro w27 hH
  refine hK26 _ _ ?_
  (try clear hK26 K26)
  refine wp_ret ?_
  (try simp only [Exit.then, Exit.inBlock, ↓reduceIte, Nat.reduceEqDiff])
  refine BP.ret1 rfl rfl ?_
  obtain rfl : i = al.length := by omega
  exact ⟨congrArg BV (same_is hl), hH.chg⟩

theorem same_calls (a b : Value) (al bl : List UInt8) (w : World) (hal : al.length < 9223372036854775808) (ha : Sl w a al) (hb : Sl w b bl) : Ret Tryd.prog 50 #[a, b] w fun v w' => v = BV (al == bl) ∧ Chg [] w w' := by
  by_cases hl : al.length = bl.length
  · exact same_len a b al bl w hal ha hb hl
  · exact same_not a b al bl w hal ha hb hl

theorem gnew_calls (key : Value) (l : List UInt8) (w : World) (hk : Sl w key l) (hl : l.length = 16) : Ret Tryd.prog 22 #[key] w fun v w' =>
    ∃ bc bx, v = .tuple #[PT bx 0, I64 (0 : Nat)] ∧ Chg [] w w' ∧ w.heap.size ≤ bc ∧ Blk w' bc 109 (arr8 176 (kexp fun i => l.getD i 0)) ∧ w.heap.size ≤ bx ∧ Blk w' bx 89 #[PT bc 0, V64 (hP (kexp fun i => l.getD i 0)).1, V64 (hP (kexp fun i => l.getD i 0)).2] ∧ bc ≠ bx := by
 refine Ret.enter Tryd.func22 rfl ?_
 simp only [Tryd.ntmps22, fe, Nat.reduceAdd, Nat.reduceSub]
 have hH := Hp.start [] w
 refine wp_seq_k ?_
 intro K1 hK1
 refine wrt [.p 0, .p 1] ?_
 refine pa (pka 0 ?_);simp only [nf]
 refine plan_nil hH ?_
 clear hH
 intro w2 hH
 refine hK1 _ _ ?_
 (try clear hK1 K1)
 refine wp_seq_k ?_
 intro K3 hK3
 refine wrt [.p 0, .x 1, .p 2, .p 3, .p 4, .p 5, .p 6] ?_
 refine pm ?_;simp only [nf]
 refine plan_callx rfl rfl hH cf42 (fun w' hH => new_calls _ _ w' (hk.chg hH.chg) hl) rfl (fun _ _ _ h => h.choose_spec.2.1) ?_
 clear hH
 intro w4 v5 w6 hH hp7
 obtain ⟨b8, rfl, hg, hfr, hbk⟩ := hp7
 replace hH := hH.callnew hg hbk hfr
 clear hg hfr hbk
 (try simp only [nf, nh, Value.cells, arrB_set] at hH ⊢)
 (try simp only [nf])
 refine pm ?_;simp only [nf]
 refine pp rfl rfl (pr_extract rfl rfl) ?_;simp only [nf]
 refine pp rfl rfl (pr_extract rfl rfl) ?_;simp only [nf]
 refine pa (pa ?_);simp only [nf]
 refine plan_nil hH ?_
 clear hH
 intro w9 hH
 refine hK3 _ _ ?_
 (try clear hK3 K3)
 refine wp_seq_k ?_
 intro K10 hK10
 refine wp_seq_k ?_
 intro K11 hK11
 refine wrt [.p 0, .p 1] ?_
 refine pm ?_;simp only [nf]
 refine pp rfl rfl (pr_bin rfl rfl (by first | exact bin_neq_n (n := 0)  | exact bin_neq_i)) ?_;simp only [nf]
 refine plan_nil hH ?_
 clear hH
 intro w12 hH
 refine hK11 _ _ ?_
 (try clear hK11 K11)
 refine wp_cond_false rfl ?_
 refine wp_skip ?_
 refine hK10 _ _ ?_
 (try clear hK10 K10)
 refine wp_seq_k ?_
 intro K13 hK13
 refine wrt [.p 0, .x 1, .x 2, .p 3, .p 4, .p 5, .p 6, .p 7] ?_
 refine pm ?_;simp only [nf]
 refine plan_make (n := 16) (c := 16) rfl rfl hH rfl rfl Tryd.underlying22 sz5 bz5 ze5 rfl (by omega) (by omega) (by omega) ?_
 clear hH
 intro b14 w15 hH
 (try simp only [nf] at hH ⊢)
 rw [made_arr8] at hH
 (try simp only [nf, nh, Value.cells, arrB_set] at hH ⊢)
 refine plan_callx rfl rfl hH cf43 (fun w' hH => block_calls _ _ _ _ w' (hH.blk 0 rfl) (OwnC.sl hH 1 rfl OwnC.made) (by simp)) rfl (fun _ _ _ h => h.choose_spec.2.1) ?_
 clear hH
 intro w16 v17 w18 hH hp19
 obtain ⟨b20, rfl, hg, hfr, hbk⟩ := hp19
 replace hH := hH.callnew hg hbk hfr
 clear hg hfr hbk
 (try simp only [nf, nh, Value.cells, arrB_set] at hH ⊢)
 (try simp only [nf])
 refine pm ?_;simp only [nf]
 refine pp rfl rfl (pr_extract rfl rfl) ?_;simp only [nf]
 refine pp rfl rfl (pr_extract rfl rfl) ?_;simp only [nf]
 refine pa (pa ?_);simp only [nf]
 refine plan_nil hH ?_
 clear hH
 intro w21 hH
 refine hK13 _ _ ?_
 (try clear hK13 K13)
 refine wp_seq_k ?_
 intro K22 hK22
 refine wp_seq_k ?_
 intro K23 hK23
 refine wrt [.p 0, .p 1] ?_
 refine pm ?_;simp only [nf]
 refine pp rfl rfl (pr_bin rfl rfl (by first | exact bin_neq_n (n := 0)  | exact bin_neq_i)) ?_;simp only [nf]
 refine plan_nil hH ?_
 clear hH
 intro w24 hH
 refine hK23 _ _ ?_
 (try clear hK23 K23)
 refine wp_cond_false rfl ?_
 refine wp_skip ?_
 refine hK22 _ _ ?_
 (try clear hK22 K22)
 refine wp_seq_k ?_
 intro K25 hK25
 refine wrt [.p 0, .p 1, .p 2, .q 3, .q 4, .p 5, .x 6, .p 7, .p 8] ?_
 refine pm (pm ?_);simp only [nf]
 refine pp rfl rfl (pr_s2ap rfl Tryd.underlying87 (by omega)) ?_;simp only [nf]
 refine pq rfl rfl (qr_loadW rfl (hH.blk 2 rfl) Tryd.underlying87 rfl sz87 (by simp)) ?_;simp only [nf]
 refine pq rfl rfl (qr_call cf44 (fun w' hw => of_calls _ w') rfl) ?_;simp only [nf]
 refine pp rfl rfl (pr_build (by rfl) (bd89_0_1 _ _ _)) ?_;simp only [nf]
 refine plan_box rfl rfl hH rfl ?_
 clear hH
 intro b26 w27 hH
 (try simp only [nf, nh, Value.cells, arrB_set] at hH ⊢)
 refine pa (pka 0 ?_);simp only [nf]
 refine plan_nil hH ?_
 clear hH
 intro w28 hH
 refine hK25 _ _ ?_
 (try clear hK25 K25)
 refine wp_ret ?_
 (try simp only [Exit.then, Exit.inBlock, ↓reduceIte, Nat.reduceEqDiff])
 refine BP.ret2 rfl rfl rfl ?_
 rw [hP_is] at hH
 exact ⟨_, _, rfl, hH.chg, (hH.mine 0 rfl).resolve_right (by simp), hH.blk 0 rfl, (hH.mine 3 rfl).resolve_right (by simp), hH.blk 3 rfl, hH.other (i := 3) rfl (j := 0) rfl (by decide) rfl⟩

theorem gnew_fails (key : Value) (l : List UInt8) (w : World) (hk : Sl w key l) (hl : l.length ≠ 16) : Ret Tryd.prog 22 #[key] w fun v w' => v = .tuple #[.pointer none, I64 (1 : Nat)] ∧ Chg [] w w' := by
 refine Ret.enter Tryd.func22 rfl ?_
 simp only [Tryd.ntmps22, fe, Nat.reduceAdd, Nat.reduceSub]
 have hH := Hp.start [] w
 refine wp_seq_k ?_
 intro K1 hK1
 refine wrt [.p 0, .p 1] ?_
 refine pa (pka 0 ?_);simp only [nf]
 refine plan_nil hH ?_
 clear hH
 intro w2 hH
 refine hK1 _ _ ?_
 (try clear hK1 K1)
 refine wp_seq_k ?_
 intro K3 hK3
 refine wrt [.p 0, .q 1, .p 2, .p 3, .p 4, .p 5, .p 6] ?_
 refine pm ?_;simp only [nf]
 refine pq rfl rfl (qr_call cf42 (fun w' hw => new_fails _ _ w' ((hk.chg hH.chg).chg hw) hl) rfl) ?_;simp only [nf]
 refine pm ?_;simp only [nf]
 refine pp rfl rfl (pr_extract rfl rfl) ?_;simp only [nf]
 refine pp rfl rfl (pr_extract rfl rfl) ?_;simp only [nf]
 refine pa (pa ?_);simp only [nf]
 refine plan_nil hH ?_
 clear hH
 intro w4 hH
 refine hK3 _ _ ?_
 (try clear hK3 K3)
 refine wp_seq_k ?_
 intro K5 hK5
 refine wp_seq_k ?_
 intro K6 hK6
 refine wrt [.p 0, .p 1] ?_
 refine pm ?_;simp only [nf]
 refine pp rfl rfl (pr_bin rfl rfl (by first | exact bin_neq_n (n := 0)  | exact bin_neq_i)) ?_;simp only [nf]
 refine plan_nil hH ?_
 clear hH
 intro w7 hH
 refine hK6 _ _ ?_
 (try clear hK6 K6)
 refine wp_cond_true rfl ?_
 refine wp_seq_k ?_
 intro K8 hK8
 refine wrt [.p 0, .p 1, .p 2] ?_
 refine pm (pa (pa ?_));simp only [nf]
 refine plan_nil hH ?_
 clear hH
 intro w9 hH
 refine hK8 _ _ ?_
 (try clear hK8 K8)
 refine wp_ret ?_
 (try simp only [Exit.then, Exit.inBlock, ↓reduceIte, Nat.reduceEqDiff])
 refine BP.ret2 rfl rfl rfl ?_
 exact ⟨rfl, hH.chg⟩

theorem seal_calls (bx bc : Nat) (kf : Nat → UInt8) (h : P2) (nv av cv : Value) (nl al cl : List UInt8) (w : World) (hx : Blk w bx 89 #[PT bc 0, V64 h.1, V64 h.2]) (hc : Blk w bc 109 (arr8 176 kf)) (hn : Sl w nv nl) (hl : nl.length = 12) (ha : Sl w av al) (hv : Sl w cv cl) :
    Ret Tryd.prog 47 #[PT bx 0, nv, av, cv] w fun v w' => ∃ o cap cs, v = own o 16 cap ∧ Chg [] w w' ∧ OwnC o 16 cap 1 cs ((sealL kf h nl al cl).map V8) ∧ ∀ bo, o = some bo → w.heap.size ≤ bo ∧ Blk w' bo 5 cs := by
 refine Ret.enter Tryd.func47 rfl ?_
 simp only [Tryd.ntmps47, fe, Nat.reduceAdd, Nat.reduceSub]
 have hH := Hp.start [] w
 refine wp_seq_k ?_
 intro K1 hK1
 refine wrt [.p 0] ?_
 refine pa ?_;simp only [nf]
 refine plan_nil hH ?_
 clear hH
 intro w2 hH
 refine hK1 _ _ ?_
 (try clear hK1 K1)
 refine wp_seq_k ?_
 intro K3 hK3
 refine wrt [.p 0, .p 1, .p 2, .p 3, .q 4, .p 5, .q 6, .x 7, .e 8] ?_
 refine pm (pm ?_);simp only [nf]
 refine pp rfl rfl (pr_build (by rfl) (bd85_ )) ?_;simp only [nf]
 refine pm ?_;simp only [nf]
 refine pq rfl rfl (qr_call cf64 (fun w' hw => take_calls _ _ _ _ (0, 0) _ w' (hw.nil_blk (hH.chg.nil_blk hx)) ((ha.chg hH.chg).chg hw)) rfl) ?_;simp only [nf]
 refine pm ?_;simp only [nf]
 refine pq rfl rfl (qr_call cf64 (fun w' hw => take_calls _ _ _ _ _ _ w' (hw.nil_blk (hH.chg.nil_blk hx)) ((hv.chg hH.chg).chg hw)) rfl) ?_;simp only [nf]
 refine plan_alloc rfl rfl hH zc85 ?_
 clear hH
 intro b4 w5 hH
 (try simp only [nf, nh, Value.cells, arrB_set] at hH ⊢)
 refine plan_storeW 0 rfl rfl hH rfl rfl rfl (by simp [Value.oneCell']) sz85 (by simp) (by simp) ?_
 clear hH
 intro w6 hH
 (try simp only [nf, nh, Value.cells, arrB_set] at hH ⊢)
 refine plan_nil hH ?_
 clear hH
 intro w7 hH
 refine hK3 _ _ ?_
 (try clear hK3 K3)
 refine wp_seq_k ?_
 intro K8 hK8
 refine wrp [.p 0, .p 2, .p 3, .p 4, .p 5, .p 7, .p 9, .p 10, .p 11, .p 12, .p 15, .p 16, .p 17, .q 1, .p 6, .q 8, .p 13, .p 14, .q 18, .q 19, .e 20] ?_
 refine pp rfl rfl (pr_fieldAddr 0 rfl Tryd.underlying85 rfl rfl sz49) ?_;simp only [nf]
 refine pm ?_;simp only [nf]
 refine pp rfl rfl (pr_len_Sl (ha.chg hH.chg) rfl Tryd.underlying22) ?_;simp only [nf]
 refine pp rfl rfl (pr_conv rfl (by first | exact cnv_n_u64 Tryd.underlying3 Tryd.underlying49 | exact cnv_i_u64 Tryd.underlying3 Tryd.underlying49)) ?_;simp only [nf]
 refine pp rfl rfl (pr_bin rfl rfl (bin_shlc_u64 3 3 (by decide) rfl _)) ?_;simp only [nf]
 refine pp rfl rfl (pr_fieldAddr 1 rfl Tryd.underlying85 rfl rfl sz49) ?_;simp only [nf]
 refine pm ?_;simp only [nf]
 refine pp rfl rfl (pr_len_Sl (hv.chg hH.chg) rfl Tryd.underlying22) ?_;simp only [nf]
 refine pp rfl rfl (pr_conv rfl (by first | exact cnv_n_u64 Tryd.underlying3 Tryd.underlying49 | exact cnv_i_u64 Tryd.underlying3 Tryd.underlying49)) ?_;simp only [nf]
 refine pp rfl rfl (pr_bin rfl rfl (bin_shlc_u64 3 3 (by decide) rfl _)) ?_;simp only [nf]
 refine pm ?_;simp only [nf]
 refine pp rfl rfl (pr_nilCheck rfl) ?_;simp only [nf]
 refine pp rfl rfl (pr_fieldAddr 1 rfl Tryd.underlying89 rfl rfl sz85) ?_;simp only [nf]
 refine pq rfl rfl (qr_load1 rfl Tryd.underlying49 rfl ((hH.blk 0 rfl).cell rfl)) ?_;simp only [nf]
 refine pp rfl rfl (pr_bin rfl rfl (bin_xor_u64 _ _)) ?_;simp only [nf]
 refine pq rfl rfl (qr_load1 rfl Tryd.underlying49 rfl ((hH.blk 0 rfl).cell rfl)) ?_;simp only [nf]
 refine pp rfl rfl (pr_bin rfl rfl (bin_xor_u64 _ _)) ?_;simp only [nf]
 refine pp rfl rfl (pr_build (by rfl) (bd85_0_1 _ _)) ?_;simp only [nf]
 refine pq rfl rfl (qr_loadE _ rfl (hH.chg.nil_blk hx) Tryd.underlying85 rfl sz85 (by simp) (ext2 _ _ _ _ rfl)) ?_;simp only [nf]
 refine pq rfl rfl (qr_call cf65 (fun w' hw => gtimes_calls (_, _) (_, _) w') rfl) ?_;simp only [nf]
 refine plan_storeW 0 rfl rfl hH rfl rfl rfl (by simp [Value.oneCell']) sz85 (by simp) (by simp) ?_
 clear hH
 intro w9 hH
 (try simp only [nf, nh, Value.cells, arrB_set] at hH ⊢)
 refine plan_nil hH ?_
 clear hH
 intro w10 hH
 refine hK8 _ _ ?_
 (try clear hK8 K8)
 refine wp_seq_k ?_
 intro K11 hK11
 refine wrt [.q 0, .q 1, .x 2, .e 3] ?_
 refine pq rfl rfl (qr_loadW rfl (hH.blk 0 rfl) Tryd.underlying85 rfl sz85 (by simp)) ?_;simp only [nf]
 refine pq rfl rfl (qr_call cf66 (fun w' hw => bytes_calls _ w') rfl) ?_;simp only [nf]
 refine plan_alloc rfl rfl hH zc87 ?_
 clear hH
 intro b12 w13 hH
 (try simp only [nf, nh, Value.cells, arrB_set] at hH ⊢)
 refine plan_storeW 1 rfl rfl hH rfl rfl rfl one_arr8 sz87 (by simp) (by simp) ?_
 clear hH
 intro w14 hH
 (try simp only [nf, nh, Value.cells, arrB_set] at hH ⊢)
 refine plan_nil hH ?_
 clear hH
 intro w15 hH
 refine hK11 _ _ ?_
 (try clear hK11 K11)
 refine wp_seq_k ?_
 intro K16 hK16
 refine wrp [.p 0, .p 1, .p 2, .p 4, .p 6, .q 3, .x 5, .x 7, .p 8, .p 9, .p 10, .p 11, .p 12] ?_
 refine pm ?_;simp only [nf]
 refine pp rfl rfl (pr_nilCheck rfl) ?_;simp only [nf]
 refine pp rfl rfl (pr_fieldAddr 0 rfl Tryd.underlying89 rfl rfl sz80) ?_;simp only [nf]
 refine pm ?_;simp only [nf]
 refine pp rfl rfl (pr_slice_arr_all rfl Tryd.underlying87 sz5) ?_;simp only [nf]
 (try simp only [Nat.mul_one, Nat.zero_add, Nat.add_sub_cancel_left])
 refine pq rfl rfl (qr_load1 rfl Tryd.underlying80 rfl ((hH.chg.nil_blk hx).cell rfl)) ?_;simp only [nf]
 refine plan_callx rfl rfl hH cf46 (fun w' hH => counter_calls _ _ 1 w' (hn.chg hH.chg) hl) rfl (fun _ _ _ h => by obtain ⟨_, _, _, _, hg, _⟩ := h; exact hg) ?_
 clear hH
 intro w17 v18 w19 hH hp20
 obtain ⟨o21, cap22, cs23, rfl, hg, hO24, hfr⟩ := hp20
 replace hH := hH.callown hg hfr
 clear hg hfr
 (try simp only [nf, nh, Value.cells, arrB_set] at hH ⊢)
 (try simp only [nf])
 refine plan_callx rfl rfl hH cf45 (fun w' hH => stream_calls _ _ (gctr nl 1) _ _ 0 _ _ w' (hH.chg.nil_blk hc) (OwnC.sl hH 2 rfl hO24) (by simp [hl]) (fun i hi => rfl) (Sl.of_arr8 (hH.blk 1 rfl) (by omega) (by omega)) (by omega) (by first | omega | (simp <;> omega))) rfl (fun _ _ _ h => by obtain ⟨_, _, _, _, hg, _⟩ := h; exact hg) ?_
 clear hH
 intro w25 v26 w27 hH hp28
 obtain ⟨o29, cap30, cs31, rfl, hg, hO32, hfr⟩ := hp28
 replace hH := hH.callown hg hfr
 clear hg hfr
 (try simp only [nf, nh, Value.cells, arrB_set] at hH ⊢)
 (try simp only [nf])
 refine pm ?_;simp only [nf]
 refine pp rfl rfl (pr_extract rfl rfl) ?_;simp only [nf]
 refine pp rfl rfl (pr_extract rfl rfl) ?_;simp only [nf]
 refine pa (pa ?_);simp only [nf]
 refine plan_nil hH ?_
 clear hH
 intro w33 hH
 refine hK16 _ _ ?_
 (try clear hK16 K16)
 refine wp_seq_k ?_
 intro K34 hK34
 refine wrt [.p 0, .p 1] ?_
 refine pm (pa ?_);simp only [nf]
 refine plan_nil hH ?_
 clear hH
 intro w35 hH
 refine hK34 _ _ ?_
 (try clear hK34 K34)
 refine wp_ret ?_
 (try simp only [Exit.then, Exit.inBlock, ↓reduceIte, Nat.reduceEqDiff])
 refine BP.ret1 rfl rfl ?_
 simp only [List.length_map, List.length_range] at *
 exact ⟨_, _, _, rfl, hH.chg, (by assumption), hH.owned 3 rfl⟩

theorem Seal_calls (bx bc : Nat) (kf : Nat → UInt8) (h : P2) (nv av bv : Value) (nl al bl : List UInt8) (w : World) (hx : Blk w bx 89 #[PT bc 0, V64 h.1, V64 h.2]) (hc : Blk w bc 109 (arr8 176 kf)) (hn : Sl w nv nl) (hl : nl.length = 12) (ha : Sl w av al) (hb : Sl w bv bl) (hbl : bl.length ≤ 100000000000000) :
    Ret Tryd.prog 23 #[PT bx 0, nv, av, bv] w fun v w' => ∃ o cap cs, v = .tuple #[own o (bl.length + 16) cap, I64 (0 : Nat)] ∧ Chg [] w w' ∧ OwnC o (bl.length + 16) cap 1 cs ((sealedL kf h nl al bl).map V8) ∧ ∀ bo, o = some bo → w.heap.size ≤ bo ∧ Blk w' bo 5 cs := by
 refine Ret.enter Tryd.func23 rfl ?_
 simp only [Tryd.ntmps23, fe, Nat.reduceAdd, Nat.reduceSub]
 have hH := Hp.start [] w
 refine wp_seq_k ?_
 intro K1 hK1
 refine wrt [.p 0, .p 1] ?_
 refine pa (pka 0 ?_);simp only [nf]
 refine plan_nil hH ?_
 clear hH
 intro w2 hH
 refine hK1 _ _ ?_
 (try clear hK1 K1)
 refine wp_seq_k ?_
 intro K3 hK3
 refine wp_seq_k ?_
 intro K4 hK4
 refine wrt [.p 0, .p 1, .p 2, .p 3, .p 4, .p 5, .p 6] ?_
 refine pm ?_;simp only [nf]
 refine pp rfl rfl (pr_bin rfl rfl (bin_eql_pn Tryd.underlying59)) ?_;simp only [nf]
 refine plan_p (v := BV false) rfl rfl (pr_move_v rfl) ?_
 (try simp only [nf])
 refine pp rfl rfl pr_move ?_;simp only [nf]
 refine pp rfl rfl (pr_len_Sl (hn.chg hH.chg) rfl Tryd.underlying22) ?_;simp only [nf]
 refine pp rfl rfl (pr_bin rfl rfl (by first | exact bin_neq_n (n := 12)  | exact bin_neq_i)) ?_;simp only [nf]
 refine pp rfl rfl (pr_pick_f rfl) ?_;simp only [nf]
 refine plan_nil hH ?_
 clear hH
 intro w5 hH
 refine hK4 _ _ ?_
 (try clear hK4 K4)
 refine wp_cond_false (by show BV _ = _; rw [hl]; rfl) ?_
 refine wp_skip ?_
 refine hK3 _ _ ?_
 (try clear hK3 K3)
 refine wp_seq_k ?_
 intro K6 hK6
 refine wrp [.p 0, .p 1, .p 2, .p 4, .p 6, .q 3, .x 5, .x 7, .p 8, .p 9, .p 10, .p 11, .p 12] ?_
 refine pm ?_;simp only [nf]
 refine pp rfl rfl (pr_nilCheck rfl) ?_;simp only [nf]
 refine pp rfl rfl (pr_fieldAddr 0 rfl Tryd.underlying89 rfl rfl sz80) ?_;simp only [nf]
 refine pm (pm ?_);simp only [nf]
 refine pq rfl rfl (qr_load1 rfl Tryd.underlying80 rfl ((hH.chg.nil_blk hx).cell rfl)) ?_;simp only [nf]
 refine plan_callx rfl rfl hH cf46 (fun w' hH => counter_calls _ _ 2 w' (hn.chg hH.chg) hl) rfl (fun _ _ _ h => by obtain ⟨_, _, _, _, hg, _⟩ := h; exact hg) ?_
 clear hH
 intro w7 v8 w9 hH hp10
 obtain ⟨o11, cap12, cs13, rfl, hg, hO14, hfr⟩ := hp10
 replace hH := hH.callown hg hfr
 clear hg hfr
 (try simp only [nf, nh, Value.cells, arrB_set] at hH ⊢)
 (try simp only [nf])
 refine plan_callx rfl rfl hH cf45 (fun w' hH => stream_calls _ _ (gctr nl 2) _ _ 0 _ _ w' (hH.chg.nil_blk hc) (OwnC.sl hH 0 rfl hO14) (by simp [hl]) (fun i hi => rfl) (hb.chg hH.chg) (by omega) (by first | omega | (simp <;> omega))) rfl (fun _ _ _ h => by obtain ⟨_, _, _, _, hg, _⟩ := h; exact hg) ?_
 clear hH
 intro w15 v16 w17 hH hp18
 obtain ⟨o19, cap20, cs21, rfl, hg, hO22, hfr⟩ := hp18
 replace hH := hH.callown hg hfr
 clear hg hfr
 (try simp only [nf, nh, Value.cells, arrB_set] at hH ⊢)
 (try simp only [nf])
 refine pm ?_;simp only [nf]
 refine pp rfl rfl (pr_extract rfl rfl) ?_;simp only [nf]
 refine pp rfl rfl (pr_extract rfl rfl) ?_;simp only [nf]
 refine pa (pa ?_);simp only [nf]
 refine plan_nil hH ?_
 clear hH
 intro w23 hH
 refine hK6 _ _ ?_
 (try clear hK6 K6)
 refine wp_seq_k ?_
 intro K24 hK24
 refine wp_seq_k ?_
 intro K25 hK25
 refine wrt [.p 0, .p 1] ?_
 refine pm ?_;simp only [nf]
 refine pp rfl rfl (pr_bin rfl rfl (by first | exact bin_neq_n (n := 0)  | exact bin_neq_i)) ?_;simp only [nf]
 refine plan_nil hH ?_
 clear hH
 intro w26 hH
 refine hK25 _ _ ?_
 (try clear hK25 K25)
 refine wp_cond_false rfl ?_
 refine wp_skip ?_
 refine hK24 _ _ ?_
 (try clear hK24 K24)
 refine wp_seq_k ?_
 intro K27 hK27
 refine wrt [.p 0, .p 1, .p 2, .p 3, .p 4, .x 5, .e 6, .p 7, .p 8] ?_
 refine pm (pm (pm (pm (pm ?_))));simp only [nf]
 refine plan_callx rfl rfl hH cf47 (fun w' hH => seal_calls _ _ _ _ _ _ _ _ _ _ w' (hH.chg.nil_blk hx) (hH.chg.nil_blk hc) (hn.chg hH.chg) hl (ha.chg hH.chg) (OwnC.sl hH 1 rfl hO22)) rfl (fun _ _ _ h => by obtain ⟨_, _, _, _, hg, _⟩ := h; exact hg) ?_
 clear hH
 intro w28 v29 w30 hH hp31
 obtain ⟨o32, cap33, cs34, rfl, hg, hO35, hfr⟩ := hp31
 replace hH := hH.callown hg hfr
 clear hg hfr
 (try simp only [nf, nh, Value.cells, arrB_set] at hH ⊢)
 (try simp only [nf])
 refine plan_append 1 rfl rfl hH rfl hO22 (fun w' hH => ((OwnC.sl hH 2 rfl hO35)).src) rfl rfl Tryd.underlying22 Tryd.underlying22 (.inl ⟨_, rfl⟩) sz5 bz5 ze5 rfl (by first | omega | (simp only [sealL_len, strm_len]; omega)) (by first | omega | (simp only [sealL_len, strm_len]; omega)) ?_
 clear hH
 intro o36 cap37 cs38 w39 hO40 hH
 (try simp only [nf] at hH ⊢)
 (try simp only [nf, nh, Value.cells, arrB_set] at hH ⊢)
 try rw [← List.map_append] at hO40
 (try simp only [Nat.zero_add, List.nil_append, List.length_nil] at hO40 ⊢)
 refine pa (pka 0 ?_);simp only [nf]
 refine plan_nil hH ?_
 clear hH
 intro w41 hH
 refine hK27 _ _ ?_
 (try clear hK27 K27)
 refine wp_ret ?_
 (try simp only [Exit.then, Exit.inBlock, ↓reduceIte, Nat.reduceEqDiff])
 refine BP.ret2 rfl rfl rfl ?_
 exact ⟨_, _, _, rfl, hH.chg, (by assumption), hH.owned 1 rfl⟩

theorem Seal_nonce (bx : Nat) (nv av bv : Value) (nl bl : List UInt8) (w : World) (hn : Sl w nv nl) (hl : nl.length ≠ 12) (hb : Sl w bv bl) (hbl : bl.length < 9223372036854775808) :
    Ret Tryd.prog 23 #[PT bx 0, nv, av, bv] w fun v w' => v = .tuple #[.slice none 0 0, I64 (1 : Nat)] ∧ Chg [] w w' := by
 refine Ret.enter Tryd.func23 rfl ?_
 simp only [Tryd.ntmps23, fe, Nat.reduceAdd, Nat.reduceSub]
 have hH := Hp.start [] w
 refine wp_seq_k ?_
 intro K1 hK1
 refine wrt [.p 0, .p 1] ?_
 refine pa (pka 0 ?_);simp only [nf]
 refine plan_nil hH ?_
 clear hH
 intro w2 hH
 refine hK1 _ _ ?_
 (try clear hK1 K1)
 refine wp_seq_k ?_
 intro K3 hK3
 refine wp_seq_k ?_
 intro K4 hK4
 refine wrt [.p 0, .p 1, .p 2, .p 3, .p 4, .p 5, .p 6] ?_
 refine pm ?_;simp only [nf]
 refine pp rfl rfl (pr_bin rfl rfl (bin_eql_pn Tryd.underlying59)) ?_;simp only [nf]
 refine plan_p (v := BV false) rfl rfl (pr_move_v rfl) ?_
 (try simp only [nf])
 refine pp rfl rfl pr_move ?_;simp only [nf]
 refine pp rfl rfl (pr_len_Sl (hn.chg hH.chg) rfl Tryd.underlying22) ?_;simp only [nf]
 refine pp rfl rfl (pr_bin rfl rfl (by first | exact bin_neq_n (n := 12)  | exact bin_neq_i)) ?_;simp only [nf]
 refine pp rfl rfl (pr_pick_f rfl) ?_;simp only [nf]
 refine plan_nil hH ?_
 clear hH
 intro w5 hH
 refine hK4 _ _ ?_
 (try clear hK4 K4)
 refine wp_cond_true (by show BV _ = _; rw [bne_iff_ne.mpr hl]) ?_
 refine wp_seq_k ?_
 intro K6 hK6
 refine wrt [.p 0, .p 1] ?_
 refine pa (pka 1 ?_);simp only [nf]
 refine plan_nil hH ?_
 clear hH
 intro w7 hH
 refine hK6 _ _ ?_
 (try clear hK6 K6)
 refine wp_ret ?_
 (try simp only [Exit.then, Exit.inBlock, ↓reduceIte, Nat.reduceEqDiff])
 refine BP.ret2 rfl rfl rfl ?_
 exact ⟨rfl, hH.chg⟩

theorem Seal_nil (nv av bv : Value) (bl : List UInt8) (w : World) (hb : Sl w bv bl) (hbl : bl.length < 9223372036854775808) :
    Ret Tryd.prog 23 #[.pointer none, nv, av, bv] w fun v w' => v = .tuple #[.slice none 0 0, I64 (1 : Nat)] ∧ Chg [] w w' := by
 refine Ret.enter Tryd.func23 rfl ?_
 simp only [Tryd.ntmps23, fe, Nat.reduceAdd, Nat.reduceSub]
 have hH := Hp.start [] w
 refine wp_seq_k ?_
 intro K1 hK1
 refine wrt [.p 0, .p 1] ?_
 refine pa (pka 0 ?_);simp only [nf]
 refine plan_nil hH ?_
 clear hH
 intro w2 hH
 refine hK1 _ _ ?_
 (try clear hK1 K1)
 refine wp_seq_k ?_
 intro K3 hK3
 refine wp_seq_k ?_
 intro K4 hK4
 refine wrt [.p 0, .p 1, .p 2, .p 3, .p 4, .p 5, .p 6] ?_
 refine pm ?_;simp only [nf]
 refine pp rfl rfl (pr_bin rfl rfl (bin_eql_pn Tryd.underlying59)) ?_;simp only [nf]
 refine plan_p (v := BV true) rfl rfl (pr_move_v rfl) ?_
 (try simp only [nf])
 refine plan_ps rfl rfl ?_
 (try simp only [nf])
 refine plan_ps rfl rfl ?_
 (try simp only [nf])
 refine plan_ps rfl rfl ?_
 (try simp only [nf])
 refine pp rfl rfl (pr_pick_t rfl) ?_;simp only [nf]
 refine plan_nil hH ?_
 clear hH
 intro w5 hH
 refine hK4 _ _ ?_
 (try clear hK4 K4)
 refine wp_cond_true rfl ?_
 refine wp_seq_k ?_
 intro K6 hK6
 refine wrt [.p 0, .p 1] ?_
 refine pa (pka 1 ?_);simp only [nf]
 refine plan_nil hH ?_
 clear hH
 intro w7 hH
 refine hK6 _ _ ?_
 (try clear hK6 K6)
 refine wp_ret ?_
 (try simp only [Exit.then, Exit.inBlock, ↓reduceIte, Nat.reduceEqDiff])
 refine BP.ret2 rfl rfl rfl ?_
 exact ⟨rfl, hH.chg⟩

theorem Open_nonce (bx : Nat) (nv av bv : Value) (nl bl : List UInt8) (w : World) (hn : Sl w nv nl) (hl : nl.length ≠ 12) (hb : Sl w bv bl) (hbl : bl.length < 9223372036854775808) :
    Ret Tryd.prog 36 #[PT bx 0, nv, av, bv] w fun v w' => v = .tuple #[.slice none 0 0, I64 (1 : Nat)] ∧ Chg [] w w' := by
 refine Ret.enter Tryd.func36 rfl ?_
 simp only [Tryd.ntmps36, fe, Nat.reduceAdd, Nat.reduceSub]
 have hH := Hp.start [] w
 refine wp_seq_k ?_
 intro K1 hK1
 refine wrt [.p 0, .p 1] ?_
 refine pa (pka 0 ?_);simp only [nf]
 refine plan_nil hH ?_
 clear hH
 intro w2 hH
 refine hK1 _ _ ?_
 (try clear hK1 K1)
 refine wp_seq_k ?_
 intro K3 hK3
 refine wrt [.p 0, .p 1, .p 2, .p 3] ?_
 refine pm ?_;simp only [nf]
 refine pp rfl rfl (pr_len_Sl (hb.chg hH.chg) rfl Tryd.underlying22) ?_;simp only [nf]
 refine pp rfl rfl (pr_bin rfl rfl (by first | exact bin_sub_n (n := 16) (by first | omega | ((have := hbl; omega))) (by first | omega | ((have := hbl; omega))) | exact bin_sub_i (by first | omega | ((have := hbl; omega))) (by first | omega | ((have := hbl; omega))))) ?_;simp only [nf]
 refine pa ?_;simp only [nf]
 refine plan_nil hH ?_
 clear hH
 intro w4 hH
 refine hK3 _ _ ?_
 (try clear hK3 K3)
 refine wp_seq_k ?_
 intro K5 hK5
 refine wp_block ?_
 refine wp_seq_k ?_
 intro K6 hK6
 refine wrt [.p 0, .p 1, .p 2, .p 3, .p 4, .p 5, .p 6, .p 7] ?_
 refine pm ?_;simp only [nf]
 refine pp rfl rfl (pr_bin rfl rfl (bin_eql_pn Tryd.underlying59)) ?_;simp only [nf]
 refine plan_p (v := BV false) rfl rfl (pr_move_v rfl) ?_
 (try simp only [nf])
 refine pp rfl rfl pr_move ?_;simp only [nf]
 refine pp rfl rfl (pr_len_Sl (hn.chg hH.chg) rfl Tryd.underlying22) ?_;simp only [nf]
 refine pp rfl rfl (pr_bin rfl rfl (by first | exact bin_neq_n (n := 12)  | exact bin_neq_i)) ?_;simp only [nf]
 refine pp rfl rfl (pr_pick_f rfl) ?_;simp only [nf]
 refine pa ?_;simp only [nf]
 refine plan_nil hH ?_
 clear hH
 intro w7 hH
 refine hK6 _ _ ?_
 (try clear hK6 K6)
 refine wp_cond_true (by show BV _ = _; rw [bne_iff_ne.mpr hl]) ?_
 refine wp_seq_k ?_
 intro K8 hK8
 refine wrt [.p 0, .p 1] ?_
 refine pa (pka 1 ?_);simp only [nf]
 refine plan_nil hH ?_
 clear hH
 intro w9 hH
 refine hK8 _ _ ?_
 (try clear hK8 K8)
 refine wp_ret ?_
 (try simp only [Exit.then, Exit.inBlock, ↓reduceIte, Nat.reduceEqDiff])
 refine BP.ret2 rfl rfl rfl ?_
 exact ⟨rfl, hH.chg⟩

theorem Open_nil (nv av bv : Value) (bl : List UInt8) (w : World) (hb : Sl w bv bl) (hbl : bl.length < 9223372036854775808) :
    Ret Tryd.prog 36 #[.pointer none, nv, av, bv] w fun v w' => v = .tuple #[.slice none 0 0, I64 (1 : Nat)] ∧ Chg [] w w' := by
 refine Ret.enter Tryd.func36 rfl ?_
 simp only [Tryd.ntmps36, fe, Nat.reduceAdd, Nat.reduceSub]
 have hH := Hp.start [] w
 refine wp_seq_k ?_
 intro K1 hK1
 refine wrt [.p 0, .p 1] ?_
 refine pa (pka 0 ?_);simp only [nf]
 refine plan_nil hH ?_
 clear hH
 intro w2 hH
 refine hK1 _ _ ?_
 (try clear hK1 K1)
 refine wp_seq_k ?_
 intro K3 hK3
 refine wrt [.p 0, .p 1, .p 2, .p 3] ?_
 refine pm ?_;simp only [nf]
 refine pp rfl rfl (pr_len_Sl (hb.chg hH.chg) rfl Tryd.underlying22) ?_;simp only [nf]
 refine pp rfl rfl (pr_bin rfl rfl (by first | exact bin_sub_n (n := 16) (by first | omega | ((have := hbl; omega))) (by first | omega | ((have := hbl; omega))) | exact bin_sub_i (by first | omega | ((have := hbl; omega))) (by first | omega | ((have := hbl; omega))))) ?_;simp only [nf]
 refine pa ?_;simp only [nf]
 refine plan_nil hH ?_
 clear hH
 intro w4 hH
 refine hK3 _ _ ?_
 (try clear hK3 K3)
 refine wp_seq_k ?_
 intro K5 hK5
 refine wp_block ?_
 refine wp_seq_k ?_
 intro K6 hK6
 refine wrt [.p 0, .p 1, .p 2, .p 3, .p 4, .p 5, .p 6, .p 7] ?_
 refine pm ?_;simp only [nf]
 refine pp rfl rfl (pr_bin rfl rfl (bin_eql_pn Tryd.underlying59)) ?_;simp only [nf]
 refine plan_p (v := BV true) rfl rfl (pr_move_v rfl) ?_
 (try simp only [nf])
 refine plan_ps rfl rfl ?_
 (try simp only [nf])
 refine plan_ps rfl rfl ?_
 (try simp only [nf])
 refine plan_ps rfl rfl ?_
 (try simp only [nf])
 refine pp rfl rfl (pr_pick_t rfl) ?_;simp only [nf]
 refine pa ?_;simp only [nf]
 refine plan_nil hH ?_
 clear hH
 intro w7 hH
 refine hK6 _ _ ?_
 (try clear hK6 K6)
 refine wp_cond_true rfl ?_
 refine wp_seq_k ?_
 intro K8 hK8
 refine wrt [.p 0, .p 1] ?_
 refine pa (pka 1 ?_);simp only [nf]
 refine plan_nil hH ?_
 clear hH
 intro w9 hH
 refine hK8 _ _ ?_
 (try clear hK8 K8)
 refine wp_ret ?_
 (try simp only [Exit.then, Exit.inBlock, ↓reduceIte, Nat.reduceEqDiff])
 refine BP.ret2 rfl rfl rfl ?_
 exact ⟨rfl, hH.chg⟩

theorem Open_short (bx : Nat) (nv av bv : Value) (nl bl : List UInt8) (w : World) (hn : Sl w nv nl) (hl : nl.length = 12) (hb : Sl w bv bl) (hbl : bl.length < 16) :
    Ret Tryd.prog 36 #[PT bx 0, nv, av, bv] w fun v w' => v = .tuple #[.slice none 0 0, I64 (3 : Nat)] ∧ Chg [] w w' := by
 refine Ret.enter Tryd.func36 rfl ?_
 simp only [Tryd.ntmps36, fe, Nat.reduceAdd, Nat.reduceSub]
 have hH := Hp.start [] w
 refine wp_seq_k ?_
 intro K1 hK1
 refine wrt [.p 0, .p 1] ?_
 refine pa (pka 0 ?_);simp only [nf]
 refine plan_nil hH ?_
 clear hH
 intro w2 hH
 refine hK1 _ _ ?_
 (try clear hK1 K1)
 refine wp_seq_k ?_
 intro K3 hK3
 refine wrt [.p 0, .p 1, .p 2, .p 3] ?_
 refine pm ?_;simp only [nf]
 refine pp rfl rfl (pr_len_Sl (hb.chg hH.chg) rfl Tryd.underlying22) ?_;simp only [nf]
 refine pp rfl rfl (pr_bin rfl rfl (by first | exact bin_sub_n (n := 16) (by omega) (by omega) | exact bin_sub_i (by omega) (by omega))) ?_;simp only [nf]
 refine pa ?_;simp only [nf]
 refine plan_nil hH ?_
 clear hH
 intro w4 hH
 refine hK3 _ _ ?_
 (try clear hK3 K3)
 refine wp_seq_k ?_
 intro K5 hK5
 refine wp_block ?_
 refine wp_seq_k ?_
 intro K6 hK6
 refine wrt [.p 0, .p 1, .p 2, .p 3, .p 4, .p 5, .p 6, .p 7] ?_
 refine pm ?_;simp only [nf]
 refine pp rfl rfl (pr_bin rfl rfl (bin_eql_pn Tryd.underlying59)) ?_;simp only [nf]
 refine plan_p (v := BV false) rfl rfl (pr_move_v rfl) ?_
 (try simp only [nf])
 refine pp rfl rfl pr_move ?_;simp only [nf]
 refine pp rfl rfl (pr_len_Sl (hn.chg hH.chg) rfl Tryd.underlying22) ?_;simp only [nf]
 refine pp rfl rfl (pr_bin rfl rfl (by first | exact bin_neq_n (n := 12)  | exact bin_neq_i)) ?_;simp only [nf]
 refine pp rfl rfl (pr_pick_f rfl) ?_;simp only [nf]
 refine pa ?_;simp only [nf]
 refine plan_nil hH ?_
 clear hH
 intro w7 hH
 refine hK6 _ _ ?_
 (try clear hK6 K6)
 refine wp_cond_false (by show BV _ = _; rw [hl]; rfl) ?_
 refine wp_seq_k ?_
 intro K8 hK8
 refine wrt [.p 0, .p 1, .p 2] ?_
 refine pm ?_;simp only [nf]
 refine pp rfl rfl (pr_bin rfl rfl (by first | exact bin_lss_n (n := 0)  | exact bin_lss_i)) ?_;simp only [nf]
 refine pa ?_;simp only [nf]
 refine plan_nil hH ?_
 clear hH
 intro w9 hH
 refine hK8 _ _ ?_
 (try clear hK8 K8)
 refine wp_cond_true (by show BV _ = _; exact congrArg BV (decide_eq_true (by omega))) ?_
 refine wp_seq_k ?_
 intro K10 hK10
 refine wrt [.p 0, .p 1] ?_
 refine pa (pka 3 ?_);simp only [nf]
 refine plan_nil hH ?_
 clear hH
 intro w11 hH
 refine hK10 _ _ ?_
 (try clear hK10 K10)
 refine wp_ret ?_
 (try simp only [Exit.then, Exit.inBlock, ↓reduceIte, Nat.reduceEqDiff])
 refine BP.ret2 rfl rfl rfl ?_
 exact ⟨rfl, hH.chg⟩

theorem Open_wrong (bx bc : Nat) (kf : Nat → UInt8) (h : P2) (nv av bv : Value) (nl al bl : List UInt8) (w : World) (hx : Blk w bx 89 #[PT bc 0, V64 h.1, V64 h.2]) (hc : Blk w bc 109 (arr8 176 kf)) (hn : Sl w nv nl) (hl : nl.length = 12) (ha : Sl w av al) (hb : Sl w bv bl) (hbl : bl.length ≤ 140737488355328) (h16 : 16 ≤ bl.length) (hne : sealL kf h nl al (bl.take (bl.length - 16)) ≠ bl.drop (bl.length - 16)) :
    Ret Tryd.prog 36 #[PT bx 0, nv, av, bv] w fun v w' => v = .tuple #[.slice none 0 0, I64 (4 : Nat)] ∧ Chg [] w w' := by
 refine Ret.enter Tryd.func36 rfl ?_
 simp only [Tryd.ntmps36, fe, Nat.reduceAdd, Nat.reduceSub]
 have hH := Hp.start [] w
 refine wp_seq_k ?_
 intro K1 hK1
 refine wrt [.p 0, .p 1] ?_
 refine pa (pka 0 ?_);simp only [nf]
 refine plan_nil hH ?_
 clear hH
 intro w2 hH
 refine hK1 _ _ ?_
 (try clear hK1 K1)
 refine wp_seq_k ?_
 intro K3 hK3
 refine wrt [.p 0, .p 1, .p 2, .p 3] ?_
 refine pm ?_;simp only [nf]
 refine pp rfl rfl (pr_len_Sl (hb.chg hH.chg) rfl Tryd.underlying22) ?_;simp only [nf]
 refine pp rfl rfl (pr_bin rfl rfl (by first | exact bin_sub_n (n := 16) (by omega) (by omega) | exact bin_sub_i (by omega) (by omega))) ?_;simp only [nf]
 refine pa ?_;simp only [nf]
 refine plan_nil hH ?_
 clear hH
 intro w4 hH
 refine hK3 _ _ ?_
 (try clear hK3 K3)
 refine wp_seq_k ?_
 intro K5 hK5
 refine wp_block ?_
 refine wp_seq_k ?_
 intro K6 hK6
 refine wrt [.p 0, .p 1, .p 2, .p 3, .p 4, .p 5, .p 6, .p 7] ?_
 refine pm ?_;simp only [nf]
 refine pp rfl rfl (pr_bin rfl rfl (bin_eql_pn Tryd.underlying59)) ?_;simp only [nf]
 refine plan_p (v := BV false) rfl rfl (pr_move_v rfl) ?_
 (try simp only [nf])
 refine pp rfl rfl pr_move ?_;simp only [nf]
 refine pp rfl rfl (pr_len_Sl (hn.chg hH.chg) rfl Tryd.underlying22) ?_;simp only [nf]
 refine pp rfl rfl (pr_bin rfl rfl (by first | exact bin_neq_n (n := 12)  | exact bin_neq_i)) ?_;simp only [nf]
 refine pp rfl rfl (pr_pick_f rfl) ?_;simp only [nf]
 refine pa ?_;simp only [nf]
 refine plan_nil hH ?_
 clear hH
 intro w7 hH
 refine hK6 _ _ ?_
 (try clear hK6 K6)
 refine wp_cond_false (by show BV _ = _; rw [hl]; rfl) ?_
 refine wp_seq_k ?_
 intro K8 hK8
 refine wrt [.p 0, .p 1, .p 2] ?_
 refine pm ?_;simp only [nf]
 refine pp rfl rfl (pr_bin rfl rfl (by first | exact bin_lss_n (n := 0)  | exact bin_lss_i)) ?_;simp only [nf]
 refine pa ?_;simp only [nf]
 refine plan_nil hH ?_
 clear hH
 intro w9 hH
 refine hK8 _ _ ?_
 (try clear hK8 K8)
 refine wp_cond_false (by show BV _ = _; exact congrArg BV (decide_eq_false (by omega))) ?_
 refine wp_seq_k ?_
 intro K10 hK10
 refine wrp [.p 0, .p 1, .p 2, .p 3, .p 4, .p 5, .p 7, .p 8, .p 9, .x 6, .q 10, .p 11, .p 12] ?_
 refine pm (pm (pm (pm (pm ?_))));simp only [nf]
 refine pp rfl rfl (pr_slice_Sl_h (hb.chg hH.chg) rfl rfl Tryd.underlying22 sz5 (by omega)) ?_;simp only [nf]
 refine pm (pm ?_);simp only [nf]
 refine pp rfl rfl (pr_slice_Sl_l (hb.chg hH.chg) rfl rfl Tryd.underlying22 sz5 (by omega)) ?_;simp only [nf]
 refine plan_callx rfl rfl hH cf47 (fun w' hH => seal_calls _ _ _ _ _ _ _ _ _ _ w' (hH.chg.nil_blk hx) (hH.chg.nil_blk hc) (hn.chg hH.chg) hl (ha.chg hH.chg) (Sl.cuth (hb.chg hH.chg) (by omega))) rfl (fun _ _ _ h => by obtain ⟨_, _, _, _, hg, _⟩ := h; exact hg) ?_
 clear hH
 intro w11 v12 w13 hH hp14
 obtain ⟨o15, cap16, cs17, rfl, hg, hO18, hfr⟩ := hp14
 replace hH := hH.callown hg hfr
 clear hg hfr
 (try simp only [nf, nh, Value.cells, arrB_set] at hH ⊢)
 (try simp only [nf])
 refine pq rfl rfl (qr_call cf50 (fun w' hw => same_calls _ _ _ _ w' (by first | omega | (simp [sealL_len] <;> omega)) ((OwnC.sl hH 0 rfl hO18).chg hw) ((Sl.cutl (hb.chg hH.chg) (by omega)).chg hw)) rfl) ?_;simp only [nf]
 refine pp rfl rfl (pr_not rfl) ?_;simp only [nf]
 refine pa ?_;simp only [nf]
 refine plan_nil hH ?_
 clear hH
 intro w19 hH
 refine hK10 _ _ ?_
 (try clear hK10 K10)
 refine wp_cond_true (by show BV (!_) = _; rw [beq_eq_false_iff_ne.mpr hne]; rfl) ?_
 refine wp_seq_k ?_
 intro K20 hK20
 refine wrt [.p 0, .p 1] ?_
 refine pa (pka 4 ?_);simp only [nf]
 refine plan_nil hH ?_
 clear hH
 intro w21 hH
 refine hK20 _ _ ?_
 (try clear hK20 K20)
 refine wp_ret ?_
 (try simp only [Exit.then, Exit.inBlock, ↓reduceIte, Nat.reduceEqDiff])
 refine BP.ret2 rfl rfl rfl ?_
 exact ⟨rfl, hH.chg⟩

theorem Open_calls (bx bc : Nat) (kf : Nat → UInt8) (h : P2) (nv av bv : Value) (nl al bl : List UInt8) (w : World) (hx : Blk w bx 89 #[PT bc 0, V64 h.1, V64 h.2]) (hc : Blk w bc 109 (arr8 176 kf)) (hn : Sl w nv nl) (hl : nl.length = 12) (ha : Sl w av al) (hb : Sl w bv bl) (hbl : bl.length ≤ 140737488355328) (h16 : 16 ≤ bl.length) (he : sealL kf h nl al (bl.take (bl.length - 16)) = bl.drop (bl.length - 16)) :
    Ret Tryd.prog 36 #[PT bx 0, nv, av, bv] w fun v w' => ∃ o cap cs, v = .tuple #[own o (bl.length - 16) cap, I64 (0 : Nat)] ∧ Chg [] w w' ∧ OwnC o (bl.length - 16) cap 1 cs ((hidL kf nl (bl.take (bl.length - 16))).map V8) ∧ ∀ bo, o = some bo → w.heap.size ≤ bo ∧ Blk w' bo 5 cs := by
 refine Ret.enter Tryd.func36 rfl ?_
 simp only [Tryd.ntmps36, fe, Nat.reduceAdd, Nat.reduceSub]
 have hH := Hp.start [] w
 refine wp_seq_k ?_
 intro K1 hK1
 refine wrt [.p 0, .p 1] ?_
 refine pa (pka 0 ?_);simp only [nf]
 refine plan_nil hH ?_
 clear hH
 intro w2 hH
 refine hK1 _ _ ?_
 (try clear hK1 K1)
 refine wp_seq_k ?_
 intro K3 hK3
 refine wrt [.p 0, .p 1, .p 2, .p 3] ?_
 refine pm ?_;simp only [nf]
 refine pp rfl rfl (pr_len_Sl (hb.chg hH.chg) rfl Tryd.underlying22) ?_;simp only [nf]
 refine pp rfl rfl (pr_bin rfl rfl (by first | exact bin_sub_n (n := 16) (by omega) (by omega) | exact bin_sub_i (by omega) (by omega))) ?_;simp only [nf]
 refine pa ?_;simp only [nf]
 refine plan_nil hH ?_
 clear hH
 intro w4 hH
 refine hK3 _ _ ?_
 (try clear hK3 K3)
 refine wp_seq_k ?_
 intro K5 hK5
 refine wp_block ?_
 refine wp_seq_k ?_
 intro K6 hK6
 refine wrt [.p 0, .p 1, .p 2, .p 3, .p 4, .p 5, .p 6, .p 7] ?_
 refine pm ?_;simp only [nf]
 refine pp rfl rfl (pr_bin rfl rfl (bin_eql_pn Tryd.underlying59)) ?_;simp only [nf]
 refine plan_p (v := BV false) rfl rfl (pr_move_v rfl) ?_
 (try simp only [nf])
 refine pp rfl rfl pr_move ?_;simp only [nf]
 refine pp rfl rfl (pr_len_Sl (hn.chg hH.chg) rfl Tryd.underlying22) ?_;simp only [nf]
 refine pp rfl rfl (pr_bin rfl rfl (by first | exact bin_neq_n (n := 12)  | exact bin_neq_i)) ?_;simp only [nf]
 refine pp rfl rfl (pr_pick_f rfl) ?_;simp only [nf]
 refine pa ?_;simp only [nf]
 refine plan_nil hH ?_
 clear hH
 intro w7 hH
 refine hK6 _ _ ?_
 (try clear hK6 K6)
 refine wp_cond_false (by show BV _ = _; rw [hl]; rfl) ?_
 refine wp_seq_k ?_
 intro K8 hK8
 refine wrt [.p 0, .p 1, .p 2] ?_
 refine pm ?_;simp only [nf]
 refine pp rfl rfl (pr_bin rfl rfl (by first | exact bin_lss_n (n := 0)  | exact bin_lss_i)) ?_;simp only [nf]
 refine pa ?_;simp only [nf]
 refine plan_nil hH ?_
 clear hH
 intro w9 hH
 refine hK8 _ _ ?_
 (try clear hK8 K8)
 refine wp_cond_false (by show BV _ = _; exact congrArg BV (decide_eq_false (by omega))) ?_
 refine wp_seq_k ?_
 intro K10 hK10
 refine wrp [.p 0, .p 1, .p 2, .p 3, .p 4, .p 5, .p 7, .p 8, .p 9, .x 6, .q 10, .p 11, .p 12] ?_
 refine pm (pm (pm (pm (pm ?_))));simp only [nf]
 refine pp rfl rfl (pr_slice_Sl_h (hb.chg hH.chg) rfl rfl Tryd.underlying22 sz5 (by omega)) ?_;simp only [nf]
 refine pm (pm ?_);simp only [nf]
 refine pp rfl rfl (pr_slice_Sl_l (hb.chg hH.chg) rfl rfl Tryd.underlying22 sz5 (by omega)) ?_;simp only [nf]
 refine plan_callx rfl rfl hH cf47 (fun w' hH => seal_calls _ _ _ _ _ _ _ _ _ _ w' (hH.chg.nil_blk hx) (hH.chg.nil_blk hc) (hn.chg hH.chg) hl (ha.chg hH.chg) (Sl.cuth (hb.chg hH.chg) (by omega))) rfl (fun _ _ _ h => by obtain ⟨_, _, _, _, hg, _⟩ := h; exact hg) ?_
 clear hH
 intro w11 v12 w13 hH hp14
 obtain ⟨o15, cap16, cs17, rfl, hg, hO18, hfr⟩ := hp14
 replace hH := hH.callown hg hfr
 clear hg hfr
 (try simp only [nf, nh, Value.cells, arrB_set] at hH ⊢)
 (try simp only [nf])
 refine pq rfl rfl (qr_call cf50 (fun w' hw => same_calls _ _ _ _ w' (by first | omega | (simp [sealL_len] <;> omega)) ((OwnC.sl hH 0 rfl hO18).chg hw) ((Sl.cutl (hb.chg hH.chg) (by omega)).chg hw)) rfl) ?_;simp only [nf]
 refine pp rfl rfl (pr_not rfl) ?_;simp only [nf]
 refine pa ?_;simp only [nf]
 refine plan_nil hH ?_
 clear hH
 intro w19 hH
 refine hK10 _ _ ?_
 (try clear hK10 K10)
 refine wp_cond_false (by show BV (!_) = _; rw [beq_iff_eq.mpr he]; rfl) ?_
 refine wp_skip ?_
 refine hK5 _ _ ?_
 (try clear hK5 K5)
 refine wp_seq_k ?_
 intro K20 hK20
 refine wrp [.p 0, .p 1, .p 2, .p 4, .p 6, .p 7, .p 8, .q 3, .x 5, .x 9, .p 10, .p 11, .p 12, .p 13] ?_
 refine pm ?_;simp only [nf]
 refine pp rfl rfl (pr_nilCheck rfl) ?_;simp only [nf]
 refine pp rfl rfl (pr_fieldAddr 0 rfl Tryd.underlying89 rfl rfl sz80) ?_;simp only [nf]
 refine pm (pm (pm ?_));simp only [nf]
 refine pp rfl rfl (pr_slice_Sl_h (hb.chg hH.chg) rfl rfl Tryd.underlying22 sz5 (by omega)) ?_;simp only [nf]
 refine pq rfl rfl (qr_load1 rfl Tryd.underlying80 rfl ((hH.chg.nil_blk hx).cell rfl)) ?_;simp only [nf]
 refine plan_callx rfl rfl hH cf46 (fun w' hH => counter_calls _ _ 2 w' (hn.chg hH.chg) hl) rfl (fun _ _ _ h => by obtain ⟨_, _, _, _, hg, _⟩ := h; exact hg) ?_
 clear hH
 intro w21 v22 w23 hH hp24
 obtain ⟨o25, cap26, cs27, rfl, hg, hO28, hfr⟩ := hp24
 replace hH := hH.callown hg hfr
 clear hg hfr
 (try simp only [nf, nh, Value.cells, arrB_set] at hH ⊢)
 (try simp only [nf])
 refine plan_callx rfl rfl hH cf45 (fun w' hH => stream_calls _ _ (gctr nl 2) _ _ 0 _ _ w' (hH.chg.nil_blk hc) (OwnC.sl hH 1 rfl hO28) (by simp [hl]) (fun i hi => rfl) (Sl.cuth (hb.chg hH.chg) (by omega)) (by omega) (by first | omega | (simp <;> omega))) rfl (fun _ _ _ h => by obtain ⟨_, _, _, _, hg, _⟩ := h; exact hg) ?_
 clear hH
 intro w29 v30 w31 hH hp32
 obtain ⟨o33, cap34, cs35, rfl, hg, hO36, hfr⟩ := hp32
 replace hH := hH.callown hg hfr
 clear hg hfr
 (try simp only [nf, nh, Value.cells, arrB_set] at hH ⊢)
 (try simp only [nf])
 refine pp rfl rfl (pr_extract rfl rfl) ?_;simp only [nf]
 refine pp rfl rfl (pr_extract rfl rfl) ?_;simp only [nf]
 refine pa (pa ?_);simp only [nf]
 refine plan_nil hH ?_
 clear hH
 intro w37 hH
 refine hK20 _ _ ?_
 (try clear hK20 K20)
 refine wp_ret ?_
 (try simp only [Exit.then, Exit.inBlock, ↓reduceIte, Nat.reduceEqDiff])
 refine BP.ret2 rfl rfl rfl ?_
 rw [show (bl.take (bl.length - 16)).length = bl.length - 16 by simp] at *
 exact ⟨_, _, _, rfl, hH.chg, (by unfold hidL; rw [show (bl.take (bl.length - 16)).length = bl.length - 16 by simp]; assumption), hH.owned 2 rfl⟩

end Go.Proofs.YtmoaddicejohgaaDoor
