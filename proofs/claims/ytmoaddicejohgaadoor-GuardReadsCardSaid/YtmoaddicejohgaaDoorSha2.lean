/- Walks of sha: (*Hash).Sum, Sum, Mac (keys of at most 64 bytes). No further conditions. -/
import Derived.Test.YtmoaddicejohgaaDoorSha1
set_option linter.unusedSimpArgs false
set_option linter.unusedVariables false
set_option maxRecDepth 100000
set_option maxHeartbeats 4000000
namespace Go.Proofs.YtmoaddicejohgaaDoor
open Go
open List (getD_cons_zero getD_cons_succ set_cons_zero set_cons_succ)

/-- How many noughts come behind n bytes; the bytes of the length; the whole; the sum. -/
def shaZ (n : Nat) : Nat := (120 - (n + 1) % 64) % 64
def shaN (n j : Nat) : UInt8 := (if 56 - 8 * j < 64 then UInt64.ofNat n <<< 3 >>> UInt64.ofNat (56 - 8 * j) else 0).toUInt8
def shaPad (l : List UInt8) : List UInt8 := l ++ (128 :: (List.replicate (shaZ l.length) 0 ++ (List.range 8).map (shaN l.length)))
def shaD (l : List UInt8) (i : Nat) : UInt8 := (if 24 - 8 * (i % 4) < 32 then shaReg (shaPad l) ((shaPad l).length / 64) (i / 4) >>> UInt32.ofNat (24 - 8 * (i % 4)) else 0).toUInt8
theorem shaPad_len (l : List UInt8) : (shaPad l).length = l.length + 1 + shaZ l.length + 8 := by
  simp only [shaPad, List.length_append, List.length_cons, List.length_replicate, List.length_map, List.length_range]; omega
/-- A slice of the bytes that wait. -/
theorem Hp.opt2 {S : List Nat} {w0 w : World} {L : List Own} (h : Hp S w0 w L) (i j : Nat) {b : Nat} {t t2 : TypeId} {cs cs2 : Array Value} {o : Option Nat} (hi : L[i]? = some (some b, t, cs)) (hj : L[j]? = some (o, t2, cs2)) (hij : i ≠ j) : ∀ x, o = some x → Blk w x t2 cs2 ∧ x ≠ b := fun x hx => by
  subst hx
  exact ⟨h.blk j hj, h.other hi hj hij rfl⟩
theorem OwnD.rest0 : OwnD none 0 0 0 #[] (restL []) := OwnD.start

theorem shaSum_calls (bh : Nat) (v : Value) (l : List UInt8) (w : World) (hT : Tabs w) (hb : Blk w bh 127 (hashL l v)) (hr : Sl w v (restL l)) (hm : l.length ≤ 140737488350000) :
    Ret Tryd.prog 70 #[PT bh 0] w fun v' w' => v' = .agg (arr8 32 (shaD l)) ∧ Chg [] w w' := by
 unfold hashL at hb
 have hrl := restL_len l
 have hz2 : shaZ l.length = (120 - (l.length + 1) % 64) % 64 := rfl
 have hpl := shaPad_len l
 refine Ret.enter Tryd.func70 rfl ?_
 simp only [Tryd.ntmps70, fe, Nat.reduceAdd, Nat.reduceSub]
 have hH := Hp.start [] w
 refine wp_seq_k ?_
 intro K1 hK1
 refine wrt [.x 0] ?_
 refine plan_alloc rfl rfl hH zc96 ?_
 clear hH
 intro b2 w3 hH
 (try simp only [nf, nh, Value.cells, arrB_set] at hH ⊢)
 refine plan_nil hH ?_
 clear hH
 intro w4 hH
 refine hK1 _ _ ?_
 (try clear hK1 K1)
 refine wp_seq_k ?_
 intro K5 hK5
 refine wp_seq_k ?_
 intro K6 hK6
 refine wrt [.p 0, .p 1] ?_
 refine pm ?_;simp only [nf]
 refine pp rfl rfl (pr_bin rfl rfl (bin_eql_pn Tryd.underlying119)) ?_;simp only [nf]
 refine plan_nil hH ?_
 clear hH
 intro w7 hH
 refine hK6 _ _ ?_
 (try clear hK6 K6)
 refine wp_cond_false rfl ?_
 refine wp_skip ?_
 refine hK5 _ _ ?_
 (try clear hK5 K5)
 refine wp_seq_k ?_
 intro K8 hK8
 refine wrt [.x 0, .p 1, .p 2, .p 3, .q 4, .e 5, .x 6, .e 7, .p 8] ?_
 refine plan_buildSlice rfl rfl hH Tryd.underlying22 (by rfl) (bs0 ) ?_
 clear hH
 intro b9 w10 hH
 (try simp only [nf, nh, Value.cells, arrB_set] at hH ⊢)
 refine pm ?_;simp only [nf]
 refine pp rfl rfl (pr_nilCheck rfl) ?_;simp only [nf]
 refine pp rfl rfl (pr_fieldAddr 8 rfl Tryd.underlying127 rfl rfl sz22) ?_;simp only [nf]
 refine pq rfl rfl (qr_load1 rfl Tryd.underlying22 rfl ((hH.chg.nil_blk hb).cell (by first | exact hashC_rest | exact hashC_n))) ?_;simp only [nf]
 refine plan_append 1 rfl rfl hH rfl (OwnC.of_bytes rfl) (fun w' hH => ((hr.chg hH.chg)).src) rfl rfl Tryd.underlying22 Tryd.underlying22 (.inl ⟨_, rfl⟩) sz5 bz5 ze5 rfl (by first | omega | (simp <;> omega)) (by first | omega | (simp <;> omega)) ?_
 clear hH
 intro o11 cap12 cs13 w14 hO15 hH
 (try simp only [nf] at hH ⊢)
 (try simp only [nf, nh, Value.cells, arrB_set] at hH ⊢)
 try rw [← List.map_append] at hO15
 (try simp only [Nat.zero_add, List.nil_append, List.length_nil] at hO15 ⊢)
 refine plan_buildSlice rfl rfl hH Tryd.underlying22 (by rfl) (bs1 128) ?_
 clear hH
 intro b16 w17 hH
 (try simp only [nf, nh, Value.cells, arrB_set] at hH ⊢)
 refine plan_append 1 rfl rfl hH rfl hO15 (fun w' hH => ((OwnC.sl hH 2 rfl (OwnC.of_bytes rfl))).src) rfl rfl Tryd.underlying22 Tryd.underlying22 (.inl ⟨_, rfl⟩) sz5 bz5 ze5 rfl (by first | omega | (simp <;> omega)) (by first | omega | (simp <;> omega)) ?_
 clear hH
 intro o18 cap19 cs20 w21 hO22 hH
 (try simp only [nf] at hH ⊢)
 (try simp only [nf, nh, Value.cells, arrB_set] at hH ⊢)
 try rw [← List.map_append] at hO22
 (try simp only [Nat.zero_add, List.nil_append, List.length_nil] at hO22 ⊢)
 refine pa ?_;simp only [nf]
 refine plan_nil hH ?_
 clear hH
 intro w23 hH
 refine hK8 _ _ ?_
 (try clear hK8 K8)
 refine wp_seq_k ?_
 intro K24 hK24
 refine wp_block ?_
 obtain ⟨kc25, hkc26, hN⟩ := hH.name 0 rfl
 replace hH := hN; clear hN; simp only [List.set_cons_zero, List.set_cons_succ] at hH
 refine wp_loopT [3] [20, 21, 22, 23, 24, 25, 26] (fun (n27 : Nat) (vs : List Value) (w' : World) => ∃ (q : Nat) (o : Option Nat) (c : Nat) (cs : Array Value), vs = [own o ((restL l).length + 1 + q) c] ∧ Hp [] w w' [(some b2, 96, kc25), (o, 5, cs)] ∧ n27 = shaZ l.length - q ∧ q ≤ shaZ l.length ∧ OwnC o ((restL l).length + 1 + q) c 1 cs ((restL l ++ [128] ++ List.replicate q 0).map V8)) (shaZ l.length - 0) (by kernel_rfl) ?_ ?_
 ·
  simp only [ga]
  refine ⟨0, o18, cap19, cs20, rfl, ?_, rfl, ?_, ?_⟩
  ·
   exact hH.take 2
  · first | omega | (omega)
  · first | omega | (rw [List.replicate_zero, List.append_nil]; exact hO22)
 clear hH
 intro n27 vs28 w29 hR30 d0
 obtain ⟨q, o, c, cs, rfl, hH, hn31, hf32, hO⟩ := hR30
 simp only [putAll, putD, List.set_cons_zero, List.set_cons_succ, Nat.zero_add, Nat.reduceAdd]
 subst hkc26
 refine wp_seq_k ?_
 intro K33 hK33
 refine wp_seq_k ?_
 intro K34 hK34
 refine wrt [.p 0, .p 1, .p 2, .p 3] ?_
 refine pm ?_;simp only [nf]
 refine pp rfl rfl (pr_len_sl rfl Tryd.underlying22) ?_;simp only [nf]
 refine pp rfl rfl (pr_bin rfl rfl (by first | exact bin_rem_n (n := 64) (by omega))) ?_;simp only [nf]
 refine pp rfl rfl (pr_bin rfl rfl (by first | exact bin_neq_n (n := 56)  | exact bin_neq_i)) ?_;simp only [nf]
 refine plan_nil hH ?_
 clear hH
 intro w35 hH
 refine hK34 _ _ ?_
 (try clear hK34 K34)
 refine wp_cond_split rfl (fun hc36 => ?_) (fun hc36 => ?_)
 ·
  (try simp only [cnd] at hc36)
  refine wp_skip ?_
  refine hK33 _ _ ?_
  (try clear hK33 K33)
  refine wp_block ?_
  refine wrt [.p 0, .x 1, .e 2, .p 3] ?_
  refine pm ?_;simp only [nf]
  refine plan_buildSlice rfl rfl hH Tryd.underlying22 (by rfl) (bs1 0) ?_
  clear hH
  intro b37 w38 hH
  (try simp only [nf, nh, Value.cells, arrB_set] at hH ⊢)
  refine plan_append 1 rfl rfl hH rfl hO (fun w' hH => ((OwnC.sl hH 2 rfl (OwnC.of_bytes rfl))).src) rfl rfl Tryd.underlying22 Tryd.underlying22 (.inl ⟨_, rfl⟩) sz5 bz5 ze5 rfl (by first | omega | (simp <;> omega)) (by first | omega | (simp <;> omega)) ?_
  clear hH
  intro o39 cap40 cs41 w42 hO43 hH
  (try simp only [nf] at hH ⊢)
  (try simp only [nf, nh, Value.cells, arrB_set] at hH ⊢)
  try rw [← List.map_append] at hO43
  (try simp only [Nat.zero_add, List.nil_append, List.length_nil] at hO43 ⊢)
  refine pa ?_;simp only [nf]
  refine plan_nil hH ?_
  clear hH
  intro w44 hH
  (try simp only [Exit.then, Exit.inBlock, ↓reduceIte, Nat.reduceEqDiff])
  refine ⟨shaZ l.length - (q + 1), ?_, _, rfl, by kernel_rfl, ?_⟩
  · first | omega | (omega)
  simp only [ga]
  refine ⟨q + 1, o39, cap40, cs41, rfl, ?_, rfl, ?_, ?_⟩
  ·
   exact hH.take 2
  · first | omega | (omega)
  · first | omega | (rw [List.replicate_succ', ← List.append_assoc]; exact hO43)
 ·
  (try simp only [cnd] at hc36)
  obtain rfl : q = shaZ l.length := by omega
  refine wp_exit ?_
  (try simp only [Exit.then, Exit.inBlock, ↓reduceIte, Nat.reduceEqDiff])
  refine hK24 _ _ ?_
  (try clear hK24 K24)
  refine wp_seq_k ?_
  intro K45 hK45
  refine wp_seq_k ?_
  intro K46 hK46
  refine wrt [.p 0] ?_
  refine pka 56 ?_;simp only [nf]
  refine plan_nil hH ?_
  clear hH
  intro w47 hH
  refine hK46 _ _ ?_
  (try clear hK46 K46)
  refine wp_block ?_
  obtain ⟨kc48, hkc49, hN⟩ := hH.name 0 rfl
  replace hH := hN; clear hN; simp only [List.set_cons_zero, List.set_cons_succ] at hH
  refine wp_loopT [3, 4] [27, 28, 29, 30, 31, 32, 33, 34, 35, 36, 37, 38, 39, 40, 41, 42] (fun (n50 : Nat) (vs : List Value) (w' : World) => ∃ (j : Nat) (o : Option Nat) (c : Nat) (cs : Array Value), vs = [own o ((restL l).length + 1 + shaZ l.length + j) c, I64 ((56 : Int) - 8 * (j : Nat))] ∧ Hp [] w w' [(some b2, 96, kc48), (o, 5, cs)] ∧ n50 = 8 - j ∧ j ≤ 8 ∧ OwnC o ((restL l).length + 1 + shaZ l.length + j) c 1 cs ((restL l ++ [128] ++ List.replicate (shaZ l.length) 0 ++ (List.range j).map (shaN l.length)).map V8)) (8 - 0) (by kernel_rfl) ?_ ?_
  ·
   simp only [ga]
   refine ⟨0, o, c, cs, rfl, ?_, rfl, ?_, ?_⟩
   ·
    exact hH.take 2
   · first | omega | (omega)
   · first | omega | (rw [List.range_zero, List.map_nil, List.append_nil]; exact hO)
  clear hH
  intro n50 vs51 w52 hR53 d1
  obtain ⟨j, o, c, cs, rfl, hH, hn54, hf55, hO⟩ := hR53
  simp only [putAll, putD, List.set_cons_zero, List.set_cons_succ, Nat.zero_add, Nat.reduceAdd]
  subst hkc49
  refine wp_seq_k ?_
  intro K56 hK56
  refine wp_seq_k ?_
  intro K57 hK57
  refine wrt [.p 0, .p 1] ?_
  refine pm ?_;simp only [nf]
  refine pp rfl rfl (pr_bin rfl rfl (by first | exact bin_geq_n (n := 0)  | exact bin_geq_i)) ?_;simp only [nf]
  refine plan_nil hH ?_
  clear hH
  intro w58 hH
  refine hK57 _ _ ?_
  (try clear hK57 K57)
  refine wp_cond_split rfl (fun hc59 => ?_) (fun hc59 => ?_)
  ·
   (try simp only [cnd] at hc59)
   simp only [show ((56 : Int) - 8 * (j : Nat)) = ((56 - 8 * j : Nat) : Int) by omega]
   refine wp_skip ?_
   refine hK56 _ _ ?_
   (try clear hK56 K56)
   refine wp_seq_k ?_
   intro K60 hK60
   refine wp_block ?_
   refine wrt [.p 0, .p 1, .p 2, .p 3, .q 4, .p 5, .p 6, .p 7, .p 8, .p 9, .x 10, .e 11, .p 12] ?_
   refine pm (pm ?_);simp only [nf]
   refine pp rfl rfl (pr_nilCheck rfl) ?_;simp only [nf]
   refine pp rfl rfl (pr_fieldAddr 9 rfl Tryd.underlying127 rfl rfl sz3) ?_;simp only [nf]
   refine pq rfl rfl (qr_load1 rfl Tryd.underlying3 rfl ((hH.chg.nil_blk hb).cell (by first | exact hashC_rest | exact hashC_n))) ?_;simp only [nf]
   refine pp rfl rfl (pr_conv rfl (by first | exact cnv_n_u64 Tryd.underlying3 Tryd.underlying49 | exact cnv_i_u64 Tryd.underlying3 Tryd.underlying49)) ?_;simp only [nf]
   refine pp rfl rfl (pr_bin rfl rfl (bin_shlc_u64 3 3 (by decide) rfl _)) ?_;simp only [nf]
   refine pm ?_;simp only [nf]
   refine pp rfl rfl (pr_bin rfl rfl (bin_shr_u64 _ _ _)) ?_;simp only [nf]
   refine pp rfl rfl (pr_conv rfl (cnv_u64_u8 _ Tryd.underlying49 Tryd.underlying5)) ?_;simp only [nf]
   refine plan_buildSlice rfl rfl hH Tryd.underlying22 (by rfl) (bs1 _) ?_
   clear hH
   intro b61 w62 hH
   (try simp only [nf, nh, Value.cells, arrB_set] at hH ⊢)
   refine plan_append 1 rfl rfl hH rfl hO (fun w' hH => ((OwnC.sl hH 2 rfl (OwnC.of_bytes rfl))).src) rfl rfl Tryd.underlying22 Tryd.underlying22 (.inl ⟨_, rfl⟩) sz5 bz5 ze5 rfl (by first | omega | (simp <;> omega)) (by first | omega | (simp <;> omega)) ?_
   clear hH
   intro o63 cap64 cs65 w66 hO67 hH
   (try simp only [nf] at hH ⊢)
   (try simp only [nf, nh, Value.cells, arrB_set] at hH ⊢)
   try rw [← List.map_append] at hO67
   (try simp only [Nat.zero_add, List.nil_append, List.length_nil] at hO67 ⊢)
   refine pa ?_;simp only [nf]
   refine plan_nil hH ?_
   clear hH
   intro w68 hH
   refine hK60 _ _ ?_
   (try clear hK60 K60)
   refine wrt [.p 0, .p 1, .p 2] ?_
   refine pm ?_;simp only [nf]
   refine pp rfl rfl (pr_bin rfl rfl (by first | exact bin_sub_n (n := 8) (by omega) (by omega) | exact bin_sub_i (by omega) (by omega))) ?_;simp only [nf]
   refine pa ?_;simp only [nf]
   refine plan_nil hH ?_
   clear hH
   intro w69 hH
   (try simp only [Exit.then, Exit.inBlock, ↓reduceIte, Nat.reduceEqDiff])
   rw [show (((56 - 8 * j : Nat) : Int) - 8) = 56 - 8 * ((j + 1 : Nat) : Int) by omega]
   refine ⟨8 - (j + 1), ?_, _, rfl, by kernel_rfl, ?_⟩
   · first | omega | (omega)
   simp only [ga]
   refine ⟨j + 1, o63, cap64, cs65, rfl, ?_, rfl, ?_, ?_⟩
   ·
    exact hH.take 2
   · first | omega | (omega)
   · first | omega | (rw [List.range_succ, List.map_append (f := shaN l.length), ← List.append_assoc]; exact hO67)
  ·
   (try simp only [cnd] at hc59)
   obtain rfl : j = 8 := by omega
   refine wp_exit ?_
   (try simp only [Exit.then, Exit.inBlock, ↓reduceIte, Nat.reduceEqDiff])
   refine hK45 _ _ ?_
   (try clear hK45 K45)
   refine wp_seq_k ?_
   intro K70 hK70
   refine wrt [.p 0, .p 1, .p 2, .q 3, .x 4, .e 5] ?_
   refine pm ?_;simp only [nf]
   refine pp rfl rfl (pr_nilCheck rfl) ?_;simp only [nf]
   refine pp rfl rfl (pr_fieldAddr 0 rfl Tryd.underlying127 rfl rfl sz125) ?_;simp only [nf]
   refine pq rfl rfl (qr_loadE _ rfl (hH.chg.nil_blk hb) Tryd.underlying125 rfl sz125 (by rw [hashC_size]; omega) hashC_ext) ?_;simp only [nf]
   refine plan_alloc rfl rfl hH zc125 ?_
   clear hH
   intro b71 w72 hH
   (try simp only [nf, nh, Value.cells, arrB_set] at hH ⊢)
   refine plan_storeW 2 rfl rfl hH rfl rfl rfl one_arr32 sz125 (by simp) (by simp) ?_
   clear hH
   intro w73 hH
   (try simp only [nf, nh, Value.cells, arrB_set] at hH ⊢)
   refine plan_nil hH ?_
   clear hH
   intro w74 hH
   refine hK70 _ _ ?_
   (try clear hK70 K70)
   refine wp_seq_k ?_
   intro K75 hK75
   refine wp_block ?_
   obtain ⟨kc76, hkc77, hN⟩ := hH.name 0 rfl
   replace hH := hN; clear hN; simp only [List.set_cons_zero, List.set_cons_succ] at hH
   refine wp_loopT [3] [47, 48, 49, 50, 51, 52, 53, 54] (fun (n78 : Nat) (vs : List Value) (w' : World) => ∃ (k f m c : Nat), vs = [ownO o f m c] ∧ Hp [] w w' [(some b2, 96, kc76), (o, 5, cs), (some b71, 125, arr32 8 (shaReg (shaPad l) k))] ∧ n78 = m ∧ 64 * k ≤ (shaPad l).length ∧ OwnD o f m c cs ((shaPad l).drop (64 * k))) ((restL l).length + 1 + shaZ l.length + 8) (by kernel_rfl) ?_ ?_
   ·
    simp only [ga]
    refine ⟨l.length / 64, 0, (restL l).length + 1 + shaZ l.length + 8, c, rfl, ?_, rfl, ?_, ?_⟩
    ·
     unfold shaPad
     rw [shaReg_app _ _ _ (by omega)]
     exact hH
    · first | omega | (omega)
    · first | omega | (unfold shaPad; rw [restL_app]; have h := OwnC.d hO; simp only [List.append_assoc, List.cons_append, List.nil_append] at h ⊢; exact h)
   clear hH
   intro n78 vs79 w80 hR81 d2
   obtain ⟨k, f, m, c, rfl, hH, hn82, hf83, hD⟩ := hR81
   simp only [putAll, putD, List.set_cons_zero, List.set_cons_succ, Nat.zero_add, Nat.reduceAdd]
   have hml := hD.len
   rw [List.length_drop] at hml
   subst hkc77
   refine wp_seq_k ?_
   intro K84 hK84
   refine wp_seq_k ?_
   intro K85 hK85
   refine wrt [.p 0, .p 1, .p 2] ?_
   refine pm ?_;simp only [nf]
   refine pp rfl rfl (pr_len_sl rfl Tryd.underlying22) ?_;simp only [nf]
   refine pp rfl rfl (pr_bin rfl rfl (by first | exact bin_gtr_n (n := 0)  | exact bin_gtr_i)) ?_;simp only [nf]
   refine plan_nil hH ?_
   clear hH
   intro w86 hH
   refine hK85 _ _ ?_
   (try clear hK85 K85)
   refine wp_cond_split rfl (fun hc87 => ?_) (fun hc87 => ?_)
   ·
    (try simp only [cnd] at hc87)
    refine wp_skip ?_
    refine hK84 _ _ ?_
    (try clear hK84 K84)
    refine wp_seq_k ?_
    intro K88 hK88
    refine wp_block ?_
    refine wrt [.q 0, .p 1, .q 2, .e 3] ?_
    refine pq rfl rfl (qr_loadW rfl (hH.blk 2 rfl) Tryd.underlying125 rfl sz125 (by simp)) ?_;simp only [nf]
    refine pm ?_;simp only [nf]
    refine pq rfl rfl (qr_call cf76 (fun w' hw => shamix_calls _ _ _ w' (hT.grow (hH.chg.trans hw)) ((OwnD.sl hH 1 rfl hD).chg hw) (by first | omega | (simp <;> omega))) rfl) ?_;simp only [nf]
    refine plan_storeW 2 rfl rfl hH rfl rfl rfl one_arr32 sz125 (by simp) (by simp) ?_
    clear hH
    intro w89 hH
    (try simp only [nf, nh, Value.cells, arrB_set] at hH ⊢)
    refine plan_nil hH ?_
    clear hH
    intro w90 hH
    refine hK88 _ _ ?_
    (try clear hK88 K88)
    refine wrt [.p 0, .p 1, .p 2] ?_
    refine pm ?_;simp only [nf]
    refine pp rfl rfl (pr_slice_D (lo := 64) rfl rfl Tryd.underlying22 sz5 (by omega)) ?_;simp only [nf]
    refine pa ?_;simp only [nf]
    refine plan_nil hH ?_
    clear hH
    intro w91 hH
    (try simp only [Exit.then, Exit.inBlock, ↓reduceIte, Nat.reduceEqDiff])
    refine ⟨m - 64, ?_, _, rfl, by kernel_rfl, ?_⟩
    · first | omega | (omega)
    simp only [ga]
    refine ⟨k + 1, cutO f 64 c, m - 64, c - 64, rfl, ?_, rfl, ?_, ?_⟩
    ·
     rw [shaReg_succ] at hH
     exact hH
    · first | omega | (omega)
    · first | omega | (exact OwnD.next hD (by omega))
   ·
    (try simp only [cnd] at hc87)
    obtain rfl : k = (shaPad l).length / 64 := by omega
    refine wp_exit ?_
    (try simp only [Exit.then, Exit.inBlock, ↓reduceIte, Nat.reduceEqDiff])
    refine hK75 _ _ ?_
    (try clear hK75 K75)
    refine wp_seq_k ?_
    intro K92 hK92
    refine wrt [.x 0] ?_
    refine plan_alloc rfl rfl hH zc96 ?_
    clear hH
    intro b93 w94 hH
    (try simp only [nf, nh, Value.cells, arrB_set] at hH ⊢)
    refine plan_nil hH ?_
    clear hH
    intro w95 hH
    refine hK92 _ _ ?_
    (try clear hK92 K92)
    refine wp_seq_k ?_
    intro K96 hK96
    refine wp_seq_k ?_
    intro K97 hK97
    refine wrt [.p 0] ?_
    refine pk 0 ?_;simp only [nf]
    refine plan_nil hH ?_
    clear hH
    intro w98 hH
    refine hK97 _ _ ?_
    (try clear hK97 K97)
    refine wp_block ?_
    obtain ⟨kc99, hkc100, hN⟩ := hH.name 0 rfl
    replace hH := hN; clear hN; simp only [List.set_cons_zero, List.set_cons_succ] at hH
    refine wp_loopT [55] [7, 56, 57, 58, 59, 60, 61, 62, 63, 64, 65, 66, 67, 68, 69, 70] (fun (n101 : Nat) (vs : List Value) (w' : World) => ∃ (i : Nat), vs = [I64 (i : Nat)] ∧ Hp [] w w' [(some b2, 96, kc99), (o, 5, cs), (some b71, 125, arr32 8 (shaReg (shaPad l) ((shaPad l).length / 64))), (some b93, 96, arr8 32 fun j => if j < i then shaD l j else 0)] ∧ n101 = 32 - i ∧ i ≤ 32) (32 - 0) (by kernel_rfl) ?_ ?_
    ·
     simp only [ga]
     refine ⟨0, rfl, ?_, rfl, ?_⟩
     ·
      exact hH.say 3 rfl (arr8_congr fun j hj => by rw [if_neg (by omega)])
     · first | omega | (omega)
    clear hH
    intro n101 vs102 w103 hR104 d3
    obtain ⟨i, rfl, hH, hn105, hf106⟩ := hR104
    simp only [putAll, putD, List.set_cons_zero, List.set_cons_succ, Nat.zero_add, Nat.reduceAdd]
    subst hkc100
    refine wp_seq_k ?_
    intro K107 hK107
    refine wrt [.p 0] ?_
    refine pp rfl rfl (pr_bin rfl rfl (by first | exact bin_lss_n (n := 32)  | exact bin_lss_i)) ?_;simp only [nf]
    refine plan_nil hH ?_
    clear hH
    intro w108 hH
    refine hK107 _ _ ?_
    (try clear hK107 K107)
    refine wp_seq_k ?_
    intro K109 hK109
    refine wp_cond_split rfl (fun hc110 => ?_) (fun hc110 => ?_)
    ·
     (try simp only [cnd] at hc110)
     refine wp_skip ?_
     refine hK109 _ _ ?_
     (try clear hK109 K109)
     refine wp_seq_k ?_
     intro K111 hK111
     refine wp_block ?_
     refine wp_seq_k ?_
     intro K112 hK112
     refine wrt [.p 0, .p 1] ?_
     refine pm (pa ?_);simp only [nf]
     refine plan_nil hH ?_
     clear hH
     intro w113 hH
     refine hK112 _ _ ?_
     (try clear hK112 K112)
     refine wrt [.p 0, .p 1, .p 2, .p 3, .q 4, .p 5, .p 6, .p 7, .p 8, .p 9, .p 10, .p 11, .e 12] ?_
     refine pm (pm ?_);simp only [nf]
     refine pp rfl rfl (pr_bin rfl rfl (by first | exact bin_quo_n (n := 4) (by omega) (by omega))) ?_;simp only [nf]
     refine pp rfl rfl (pr_idxA1 rfl rfl Tryd.underlying125 sz113 (by omega)) ?_;simp only [nf]
     refine pq rfl rfl (qr_load1 rfl Tryd.underlying113 rfl ((hH.blk 2 rfl).cell (arr32_get (by omega)))) ?_;simp only [nf]
     refine pm ?_;simp only [nf]
     refine pp rfl rfl (pr_bin rfl rfl (by first | exact bin_rem_n (n := 4) (by omega))) ?_;simp only [nf]
     refine pp rfl rfl (pr_bin rfl rfl (by first | exact bin_mul_n (m := 8) (by omega) | exact bin_mul_i (by omega) (by omega))) ?_;simp only [nf]
     refine pp rfl rfl (pr_bin rfl rfl (by first | exact bin_sub_n (m := 24) (by omega) (by omega) | exact bin_sub_i (by omega) (by omega))) ?_;simp only [nf]
     refine pp rfl rfl (pr_bin rfl rfl (bin_shr_u32 _ _ _)) ?_;simp only [nf]
     refine pp rfl rfl (pr_conv rfl (cnv_u32_u8 _ Tryd.underlying113 Tryd.underlying5)) ?_;simp only [nf]
     refine pp rfl rfl (pr_idxA1 rfl rfl Tryd.underlying96 sz5 (by omega)) ?_;simp only [nf]
     refine plan_store1 3 rfl rfl hH rfl rfl rfl rfl sz5 (by simp <;> omega) ?_
     clear hH
     intro w114 hH
     (try simp only [nf, nh, Value.cells, arrB_set] at hH ⊢)
     refine plan_nil hH ?_
     clear hH
     intro w115 hH
     refine hK111 _ _ ?_
     (try clear hK111 K111)
     refine wrt [.p 0, .p 1] ?_
     refine pp rfl rfl (pr_bin rfl rfl (by first | exact bin_add_n (n := 1) (by omega) | exact bin_add_i (by omega) (by omega))) ?_;simp only [nf]
     refine pm ?_;simp only [nf]
     refine plan_nil hH ?_
     clear hH
     intro w116 hH
     (try simp only [Exit.then, Exit.inBlock, ↓reduceIte, Nat.reduceEqDiff])
     refine ⟨32 - (i + 1), ?_, _, rfl, by kernel_rfl, ?_⟩
     · first | omega | (omega)
     simp only [ga]
     refine ⟨i + 1, rfl, ?_, rfl, ?_⟩
     ·
      exact hH.say 3 rfl (arr8_congr fun j hj => upd_lt (g := shaD l) (z := fun _ => 0) rfl j)
     · first | omega | (omega)
    ·
     (try simp only [cnd] at hc110)
     obtain rfl : i = 32 := by omega
     replace hH := hH.say 3 rfl (arr8_congr (g := shaD l) fun j hj => if_pos hj)
     simp only [List.set_cons_zero, List.set_cons_succ] at hH
     refine wp_exit ?_
     (try simp only [Exit.then, Exit.inBlock, ↓reduceIte, Nat.reduceEqDiff])
     refine hK96 _ _ ?_
     (try clear hK96 K96)
     refine wp_seq_k ?_
     intro K117 hK117
     refine wrt [.q 0, .e 1] ?_
     refine pq rfl rfl (qr_loadW rfl (hH.blk 3 rfl) Tryd.underlying96 rfl sz96 (by simp)) ?_;simp only [nf]
     refine plan_storeW 0 rfl rfl hH rfl rfl rfl one_arr8 sz96 (by simp) (by simp) ?_
     clear hH
     intro w118 hH
     (try simp only [nf, nh, Value.cells, arrB_set] at hH ⊢)
     refine plan_nil hH ?_
     clear hH
     intro w119 hH
     refine hK117 _ _ ?_
     (try clear hK117 K117)
     refine wp_ret ?_
     (try simp only [Exit.then, Exit.inBlock, ↓reduceIte, Nat.reduceEqDiff])
     refine BP.retc rfl rfl (hH.blk 0 rfl) Tryd.underlying96 rfl sz96 (by simp) ?_
     exact ⟨rfl, hH.chg⟩

theorem shaOf_calls (v : Value) (l : List UInt8) (w : World) (hT : Tabs w) (hv : Sl w v l) (hm : l.length ≤ 140737488350000) : Ret Tryd.prog 67 #[v] w fun v' w' => v' = .agg (arr8 32 (shaD l)) ∧ Chg [] w w' := by
 refine Ret.enter Tryd.func67 rfl ?_
 simp only [Tryd.ntmps67, fe, Nat.reduceAdd, Nat.reduceSub]
 have hH := Hp.start [] w
 refine wp_seq_k ?_
 intro K1 hK1
 refine wrt [.x 0] ?_
 refine plan_alloc rfl rfl hH zc96 ?_
 clear hH
 intro b2 w3 hH
 (try simp only [nf, nh, Value.cells, arrB_set] at hH ⊢)
 refine plan_nil hH ?_
 clear hH
 intro w4 hH
 refine hK1 _ _ ?_
 (try clear hK1 K1)
 refine wp_seq_k ?_
 intro K5 hK5
 refine wrt [.x 0, .p 1] ?_
 refine plan_callx rfl rfl hH cf68 (fun w' hH => shaNew_calls w' (hT.grow hH.chg)) rfl (fun _ _ _ h => h.choose_spec.2.1) ?_
 clear hH
 intro w6 v7 w8 hH hp9
 obtain ⟨b10, rfl, hg, hfr, hbk⟩ := hp9
 replace hH := (hH.callnew hg hbk hfr).addnone 5 #[]
 clear hg hfr hbk
 (try simp only [nf, nh, Value.cells, arrB_set] at hH ⊢)
 (try simp only [nf])
 refine pa ?_;simp only [nf]
 refine plan_nil hH ?_
 clear hH
 intro w11 hH
 refine hK5 _ _ ?_
 (try clear hK5 K5)
 refine wp_seq_k ?_
 intro K12 hK12
 refine wrt [.p 0, .p 1, .e 2] ?_
 refine pm (pm ?_);simp only [nf]
 refine plan_calle rfl rfl hH cf69 (fun w' hH => shaWrite_calls _ _ _ _ _ _ _ _ _ w' (hT.grow hH.chg) (hH.no hT 1 2 rfl rfl (by decide)) (hH.no hT 1 2 rfl rfl (by decide)) (hH.blk 1 rfl) OwnD.rest0 (hH.opt2 1 2 rfl rfl (by decide)) (fun w2 hc => (hv.chg (hH.sure2 1 2 rfl rfl hc))) (by first | omega | (simp <;> omega))) rfl ?_
 clear hH
 intro w13 v14 w15 hH hp16
 obtain ⟨rfl, o17, f18, n19, c20, cs21, hg, hbk, hO22, hox⟩ := hp16
 replace hH := hH.callw2 1 2 rfl rfl (by decide) hg hbk hox
 clear hg hbk hox
 (try simp only [nf, nh, Value.cells, arrB_set] at hH ⊢)
 refine plan_nil hH ?_
 clear hH
 intro w23 hH
 refine hK12 _ _ ?_
 (try clear hK12 K12)
 refine wp_seq_k ?_
 intro K24 hK24
 refine wrt [.p 0, .q 1, .e 2] ?_
 refine pm ?_;simp only [nf]
 refine pq rfl rfl (qr_call cf70 (fun w' hw => shaSum_calls _ _ _ w' (hT.grow (hH.chg.trans hw)) (hw.nil_blk (hH.blk 1 rfl)) ((OwnD.sl hH 2 rfl hO22).chg hw) (by first | omega | (simp <;> omega))) rfl) ?_;simp only [nf]
 refine plan_storeW 0 rfl rfl hH rfl rfl rfl one_arr8 sz96 (by simp) (by simp) ?_
 clear hH
 intro w25 hH
 (try simp only [nf, nh, Value.cells, arrB_set] at hH ⊢)
 refine plan_nil hH ?_
 clear hH
 intro w26 hH
 refine hK24 _ _ ?_
 (try clear hK24 K24)
 refine wp_ret ?_
 (try simp only [Exit.then, Exit.inBlock, ↓reduceIte, Nat.reduceEqDiff])
 refine BP.retc rfl rfl (hH.blk 0 rfl) Tryd.underlying96 rfl sz96 (by simp) ?_
 exact ⟨rfl, hH.chg⟩

/-- A key's bytes, and noughts behind them; what is ahead of the bytes inside and outside. -/
def macK (kl : List UInt8) (i : Nat) : UInt8 := kl.getD i 0
def macI (kl : List UInt8) (n : Nat) : List UInt8 := (List.range n).map fun i => macK kl i ^^^ 54
def macO (kl : List UInt8) (n : Nat) : List UInt8 := (List.range n).map fun i => macK kl i ^^^ 92
@[simp] theorem macI_len (kl : List UInt8) (n : Nat) : (macI kl n).length = n := by simp [macI]
@[simp] theorem macO_len (kl : List UInt8) (n : Nat) : (macO kl n).length = n := by simp [macO]
theorem macI_succ (kl : List UInt8) (n : Nat) : macI kl n ++ [macK kl n ^^^ 54] = macI kl (n + 1) := by simp [macI, List.range_succ]
theorem macO_succ (kl : List UInt8) (n : Nat) : macO kl n ++ [macK kl n ^^^ 92] = macO kl (n + 1) := by simp [macO, List.range_succ]
def macD (kl bl : List UInt8) (i : Nat) : UInt8 := shaD (macO kl 64 ++ (List.range 32).map (shaD (macI kl 64 ++ bl))) i
theorem copy_key (l : List UInt8) (hl : l.length ≤ 64) (j : Nat) : (if 0 ≤ j ∧ j < min l.length 64 then l.getD (j - 0) 0 else 0) = macK l j := by
  unfold macK
  by_cases h : j < l.length
  · rw [if_pos ⟨Nat.zero_le _, by omega⟩, Nat.sub_zero]
  · rw [if_neg (by omega)]; simp [List.getD, List.getElem?_eq_none (Nat.le_of_not_lt h)]

theorem mac_calls (kv bv : Value) (kl bl : List UInt8) (w : World) (hT : Tabs w) (hk : Sl w kv kl) (hb : Sl w bv bl) (h64 : kl.length ≤ 64) (hm : bl.length ≤ 140737488340000) :
    Ret Tryd.prog 51 #[kv, bv] w fun v' w' => v' = .agg (arr8 32 (macD kl bl)) ∧ Chg [] w w' := by
 refine Ret.enter Tryd.func51 rfl ?_
 simp only [Tryd.ntmps51, fe, Nat.reduceAdd, Nat.reduceSub]
 have hH := Hp.start [] w
 refine wp_seq_k ?_
 intro K1 hK1
 refine wrt [.x 0] ?_
 refine plan_alloc rfl rfl hH zc96 ?_
 clear hH
 intro b2 w3 hH
 (try simp only [nf, nh, Value.cells, arrB_set] at hH ⊢)
 refine plan_nil hH ?_
 clear hH
 intro w4 hH
 refine hK1 _ _ ?_
 (try clear hK1 K1)
 refine wp_seq_k ?_
 intro K5 hK5
 refine wrt [.x 0] ?_
 refine plan_alloc rfl rfl hH zc117 ?_
 clear hH
 intro b6 w7 hH
 (try simp only [nf, nh, Value.cells, arrB_set] at hH ⊢)
 refine plan_nil hH ?_
 clear hH
 intro w8 hH
 refine hK5 _ _ ?_
 (try clear hK5 K5)
 refine wp_seq_k ?_
 intro K9 hK9
 refine wp_seq_k ?_
 intro K10 hK10
 refine wrt [.p 0, .p 1, .p 2] ?_
 refine pm ?_;simp only [nf]
 refine pp rfl rfl (pr_len_Sl (hk.chg hH.chg) rfl Tryd.underlying22) ?_;simp only [nf]
 refine pp rfl rfl (pr_bin rfl rfl (by first | exact bin_gtr_n (n := 64)  | exact bin_gtr_i)) ?_;simp only [nf]
 refine plan_nil hH ?_
 clear hH
 intro w11 hH
 refine hK10 _ _ ?_
 (try clear hK10 K10)
 refine wp_cond_false (by show BV _ = _; exact congrArg BV (decide_eq_false (by omega))) ?_
 refine wrt [.p 0, .p 1, .e 2] ?_
 refine pp rfl rfl (pr_slice_arr_all rfl Tryd.underlying117 sz5) ?_;simp only [nf]
 (try simp only [Nat.mul_one, Nat.zero_add, Nat.add_sub_cancel_left])
 refine pm ?_;simp only [nf]
 refine plan_copy 1 rfl rfl hH rfl (fun w' hH => ((hk.chg hH.chg)).csrc) rfl rfl Tryd.underlying22 sz5 (by omega) ?_
 clear hH
 intro w12 hH
 (try simp only [nf, nh, Value.cells, arrB_set] at hH ⊢)
 refine plan_nil hH ?_
 clear hH
 intro w13 hH
 replace hH := hH.say 1 rfl (arr8_congr (g := macK kl) fun j hj => copy_key kl h64 j)
 simp only [List.set_cons_zero, List.set_cons_succ] at hH
 refine hK9 _ _ ?_
 (try clear hK9 K9)
 refine wp_seq_k ?_
 intro K14 hK14
 refine wrt [.x 0, .x 1, .p 2, .p 3] ?_
 refine plan_callx rfl rfl hH cf68 (fun w' hH => shaNew_calls w' (hT.grow hH.chg)) rfl (fun _ _ _ h => h.choose_spec.2.1) ?_
 clear hH
 intro w15 v16 w17 hH hp18
 obtain ⟨b19, rfl, hg, hfr, hbk⟩ := hp18
 replace hH := (hH.callnew hg hbk hfr).addnone 5 #[]
 clear hg hfr hbk
 (try simp only [nf, nh, Value.cells, arrB_set] at hH ⊢)
 (try simp only [nf])
 refine plan_callx rfl rfl hH cf68 (fun w' hH => shaNew_calls w' (hT.grow hH.chg)) rfl (fun _ _ _ h => h.choose_spec.2.1) ?_
 clear hH
 intro w20 v21 w22 hH hp23
 obtain ⟨b24, rfl, hg, hfr, hbk⟩ := hp23
 replace hH := (hH.callnew hg hbk hfr).addnone 5 #[]
 clear hg hfr hbk
 (try simp only [nf, nh, Value.cells, arrB_set] at hH ⊢)
 (try simp only [nf])
 refine pa (pa ?_);simp only [nf]
 refine plan_nil hH ?_
 clear hH
 intro w25 hH
 refine hK14 _ _ ?_
 (try clear hK14 K14)
 refine wp_seq_k ?_
 intro K26 hK26
 refine wp_seq_k ?_
 intro K27 hK27
 refine wrt [.q 0, .p 1] ?_
 refine pq rfl rfl (qr_loadW rfl (hH.blk 1 rfl) Tryd.underlying117 rfl sz117 (by simp)) ?_;simp only [nf]
 refine pk 0 ?_;simp only [nf]
 refine plan_nil hH ?_
 clear hH
 intro w28 hH
 refine hK27 _ _ ?_
 (try clear hK27 K27)
 refine wp_block ?_
 obtain ⟨kc29, hkc30, hN⟩ := hH.name 0 rfl
 replace hH := hN; clear hN; simp only [List.set_cons_zero, List.set_cons_succ] at hH
 obtain ⟨kc31, hkc32, hN⟩ := hH.name 1 rfl
 replace hH := hN; clear hN; simp only [List.set_cons_zero, List.set_cons_succ] at hH
 refine wp_loopT [26] [10, 27, 28, 29, 30, 31, 32, 33, 34, 35, 36, 37, 38, 39] (fun (n33 : Nat) (vs : List Value) (w' : World) => ∃ (i : Nat) (oa : Option Nat) (fa na ca : Nat) (sa : Array Value) (ob : Option Nat) (fb nb cb : Nat) (sb : Array Value), vs = [I64 (i : Nat)] ∧ Hp [] w w' [(some b2, 96, kc29), (some b6, 117, kc31), (some b19, 127, hashL (macI kl i) (ownO oa fa na ca)), (oa, 5, sa), (some b24, 127, hashL (macO kl i) (ownO ob fb nb cb)), (ob, 5, sb)] ∧ n33 = 64 - i ∧ i ≤ 64 ∧ OwnD oa fa na ca sa (restL (macI kl i)) ∧ OwnD ob fb nb cb sb (restL (macO kl i))) (64 - 0) (by kernel_rfl) ?_ ?_
 ·
  simp only [ga]
  refine ⟨0, none, 0, 0, 0, #[], none, 0, 0, 0, #[], rfl, ?_, rfl, ?_, ?_, ?_⟩
  ·
   exact hH
  · first | omega | (omega)
  · first | omega | (exact OwnD.rest0)
  · first | omega | (exact OwnD.rest0)
 clear hH
 intro n33 vs34 w35 hR36 d0
 obtain ⟨i, oa, fa, na, ca, sa, ob, fb, nb, cb, sb, rfl, hH, hn37, hf38, hOa, hOb⟩ := hR36
 simp only [putAll, putD, List.set_cons_zero, List.set_cons_succ, Nat.zero_add, Nat.reduceAdd]
 subst hkc30 hkc32
 refine wp_seq_k ?_
 intro K39 hK39
 refine wrt [.p 0] ?_
 refine pp rfl rfl (pr_bin rfl rfl (by first | exact bin_lss_n (n := 64)  | exact bin_lss_i)) ?_;simp only [nf]
 refine plan_nil hH ?_
 clear hH
 intro w40 hH
 refine hK39 _ _ ?_
 (try clear hK39 K39)
 refine wp_seq_k ?_
 intro K41 hK41
 refine wp_cond_split rfl (fun hc42 => ?_) (fun hc42 => ?_)
 ·
  (try simp only [cnd] at hc42)
  refine wp_skip ?_
  refine hK41 _ _ ?_
  (try clear hK41 K41)
  refine wp_seq_k ?_
  intro K43 hK43
  refine wp_block ?_
  refine wp_seq_k ?_
  intro K44 hK44
  refine wrt [.p 0, .p 1] ?_
  refine pp rfl rfl (pr_index_arr rfl rfl Tryd.underlying117 sz5 (notAgg Tryd.underlying5 rfl) (by first | omega | exact lt_u8 _) (arr8_get (by first | omega | exact lt_u8 _))) ?_;simp only [nf]
  refine pa ?_;simp only [nf]
  refine plan_nil hH ?_
  clear hH
  intro w45 hH
  refine hK44 _ _ ?_
  (try clear hK44 K44)
  refine wp_seq_k ?_
  intro K46 hK46
  refine wrt [.p 0, .p 1, .p 2, .x 3, .e 4] ?_
  refine pm (pm ?_);simp only [nf]
  refine pp rfl rfl (pr_bin rfl rfl (bin_xor_u8 _ 54)) ?_;simp only [nf]
  refine plan_buildSlice rfl rfl hH Tryd.underlying22 (by rfl) (bs1 _) ?_
  clear hH
  intro b47 w48 hH
  (try simp only [nf, nh, Value.cells, arrB_set] at hH ⊢)
  refine plan_calle rfl rfl hH cf69 (fun w' hH => shaWrite_calls _ _ _ _ _ _ _ _ _ w' (hT.grow hH.chg) (hH.no hT 2 3 rfl rfl (by decide)) (hH.no hT 2 3 rfl rfl (by decide)) (hH.blk 2 rfl) hOa (hH.opt2 2 3 rfl rfl (by decide)) (fun w2 hc => (OwnC.sl (hH.keep2 2 3 6 rfl rfl rfl (by decide) (by decide) hc) 0 rfl (OwnC.of_bytes rfl))) (by first | omega | (simp <;> omega))) rfl ?_
  clear hH
  intro w49 v50 w51 hH hp52
  obtain ⟨rfl, o53, f54, n55, c56, cs57, hg, hbk, hO58, hox⟩ := hp52
  replace hH := hH.callw2 2 3 rfl rfl (by decide) hg hbk hox
  clear hg hbk hox
  (try simp only [nf, nh, Value.cells, arrB_set] at hH ⊢)
  refine plan_nil hH ?_
  clear hH
  intro w59 hH
  refine hK46 _ _ ?_
  (try clear hK46 K46)
  refine wrt [.p 0, .p 1, .p 2, .x 3, .e 4] ?_
  refine pm (pm ?_);simp only [nf]
  refine pp rfl rfl (pr_bin rfl rfl (bin_xor_u8 _ 92)) ?_;simp only [nf]
  refine plan_buildSlice rfl rfl hH Tryd.underlying22 (by rfl) (bs1 _) ?_
  clear hH
  intro b60 w61 hH
  (try simp only [nf, nh, Value.cells, arrB_set] at hH ⊢)
  refine plan_calle rfl rfl hH cf69 (fun w' hH => shaWrite_calls _ _ _ _ _ _ _ _ _ w' (hT.grow hH.chg) (hH.no hT 4 5 rfl rfl (by decide)) (hH.no hT 4 5 rfl rfl (by decide)) (hH.blk 4 rfl) hOb (hH.opt2 4 5 rfl rfl (by decide)) (fun w2 hc => (OwnC.sl (hH.keep2 4 5 7 rfl rfl rfl (by decide) (by decide) hc) 0 rfl (OwnC.of_bytes rfl))) (by first | omega | (simp <;> omega))) rfl ?_
  clear hH
  intro w62 v63 w64 hH hp65
  obtain ⟨rfl, o66, f67, n68, c69, cs70, hg, hbk, hO71, hox⟩ := hp65
  replace hH := hH.callw2 4 5 rfl rfl (by decide) hg hbk hox
  clear hg hbk hox
  (try simp only [nf, nh, Value.cells, arrB_set] at hH ⊢)
  refine plan_nil hH ?_
  clear hH
  intro w72 hH
  refine hK43 _ _ ?_
  (try clear hK43 K43)
  refine wrt [.p 0, .p 1] ?_
  refine pp rfl rfl (pr_bin rfl rfl (by first | exact bin_add_n (n := 1) (by omega) | exact bin_add_i (by omega) (by omega))) ?_;simp only [nf]
  refine pm ?_;simp only [nf]
  refine plan_nil hH ?_
  clear hH
  intro w73 hH
  (try simp only [Exit.then, Exit.inBlock, ↓reduceIte, Nat.reduceEqDiff])
  refine ⟨64 - (i + 1), ?_, _, rfl, by kernel_rfl, ?_⟩
  · first | omega | (omega)
  simp only [ga]
  refine ⟨i + 1, o53, f54, n55, c56, cs57, o66, f67, n68, c69, cs70, rfl, ?_, rfl, ?_, ?_, ?_⟩
  ·
   rw [macI_succ, macO_succ] at hH
   exact hH.take 6
  · first | omega | (omega)
  · first | omega | (rw [← macI_succ]; exact hO58)
  · first | omega | (rw [← macO_succ]; exact hO71)
 ·
  (try simp only [cnd] at hc42)
  obtain rfl : i = 64 := by omega
  refine wp_exit ?_
  (try simp only [Exit.then, Exit.inBlock, ↓reduceIte, Nat.reduceEqDiff])
  refine hK26 _ _ ?_
  (try clear hK26 K26)
  refine wp_seq_k ?_
  intro K74 hK74
  refine wrt [.p 0, .p 1, .e 2] ?_
  refine pm (pm ?_);simp only [nf]
  refine plan_calle rfl rfl hH cf69 (fun w' hH => shaWrite_calls _ _ _ _ _ _ _ _ _ w' (hT.grow hH.chg) (hH.no hT 2 3 rfl rfl (by decide)) (hH.no hT 2 3 rfl rfl (by decide)) (hH.blk 2 rfl) hOa (hH.opt2 2 3 rfl rfl (by decide)) (fun w2 hc => (hb.chg (hH.sure2 2 3 rfl rfl hc))) (by first | omega | (simp <;> omega))) rfl ?_
  clear hH
  intro w75 v76 w77 hH hp78
  obtain ⟨rfl, o79, f80, n81, c82, cs83, hg, hbk, hO84, hox⟩ := hp78
  replace hH := hH.callw2 2 3 rfl rfl (by decide) hg hbk hox
  clear hg hbk hox
  (try simp only [nf, nh, Value.cells, arrB_set] at hH ⊢)
  refine plan_nil hH ?_
  clear hH
  intro w85 hH
  refine hK74 _ _ ?_
  (try clear hK74 K74)
  refine wp_seq_k ?_
  intro K86 hK86
  refine wrt [.p 0, .q 1, .x 2, .e 3] ?_
  refine pm ?_;simp only [nf]
  refine pq rfl rfl (qr_call cf70 (fun w' hw => shaSum_calls _ _ _ w' (hT.grow (hH.chg.trans hw)) (hw.nil_blk (hH.blk 2 rfl)) ((OwnD.sl hH 3 rfl hO84).chg hw) (by first | omega | (simp <;> omega))) rfl) ?_;simp only [nf]
  refine plan_alloc rfl rfl hH zc96 ?_
  clear hH
  intro b87 w88 hH
  (try simp only [nf, nh, Value.cells, arrB_set] at hH ⊢)
  refine plan_storeW 6 rfl rfl hH rfl rfl rfl one_arr8 sz96 (by simp) (by simp) ?_
  clear hH
  intro w89 hH
  (try simp only [nf, nh, Value.cells, arrB_set] at hH ⊢)
  refine plan_nil hH ?_
  clear hH
  intro w90 hH
  refine hK86 _ _ ?_
  (try clear hK86 K86)
  refine wp_seq_k ?_
  intro K91 hK91
  refine wrt [.p 0, .p 1, .e 2] ?_
  refine pm ?_;simp only [nf]
  refine pp rfl rfl (pr_slice_arr_all rfl Tryd.underlying96 sz5) ?_;simp only [nf]
  (try simp only [Nat.mul_one, Nat.zero_add, Nat.add_sub_cancel_left])
  refine plan_calle rfl rfl hH cf69 (fun w' hH => shaWrite_calls _ _ _ _ _ _ _ _ _ w' (hT.grow hH.chg) (hH.no hT 4 5 rfl rfl (by decide)) (hH.no hT 4 5 rfl rfl (by decide)) (hH.blk 4 rfl) hOb (hH.opt2 4 5 rfl rfl (by decide)) (fun w2 hc => (Sl.of_arr8 ((hH.keep2 4 5 6 rfl rfl rfl (by decide) (by decide) hc).blk 0 rfl) (by omega) (by omega))) (by first | omega | (simp <;> omega))) rfl ?_
  clear hH
  intro w92 v93 w94 hH hp95
  obtain ⟨rfl, o96, f97, n98, c99, cs100, hg, hbk, hO101, hox⟩ := hp95
  replace hH := hH.callw2 4 5 rfl rfl (by decide) hg hbk hox
  clear hg hbk hox
  (try simp only [nf, nh, Value.cells, arrB_set] at hH ⊢)
  refine plan_nil hH ?_
  clear hH
  intro w102 hH
  refine hK91 _ _ ?_
  (try clear hK91 K91)
  refine wp_seq_k ?_
  intro K103 hK103
  refine wrt [.p 0, .q 1, .e 2] ?_
  refine pm ?_;simp only [nf]
  refine pq rfl rfl (qr_call cf70 (fun w' hw => shaSum_calls _ _ _ w' (hT.grow (hH.chg.trans hw)) (hw.nil_blk (hH.blk 4 rfl)) ((OwnD.sl hH 5 rfl hO101).chg hw) (by first | omega | (simp <;> omega))) rfl) ?_;simp only [nf]
  refine plan_storeW 0 rfl rfl hH rfl rfl rfl one_arr8 sz96 (by simp) (by simp) ?_
  clear hH
  intro w104 hH
  (try simp only [nf, nh, Value.cells, arrB_set] at hH ⊢)
  refine plan_nil hH ?_
  clear hH
  intro w105 hH
  refine hK103 _ _ ?_
  (try clear hK103 K103)
  refine wp_ret ?_
  (try simp only [Exit.then, Exit.inBlock, ↓reduceIte, Nat.reduceEqDiff])
  refine BP.retc rfl rfl (hH.blk 0 rfl) Tryd.underlying96 rfl sz96 (by simp) ?_
  exact ⟨rfl, hH.chg⟩

end Go.Proofs.YtmoaddicejohgaaDoor
