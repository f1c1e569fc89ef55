/- Walks of bits.RotateLeft32 and of sha's mix, where the words of the rounds lie as the program's text lays them. No further conditions. -/
import Derived.Test.YtmoaddicejohgaaDoorBuilds
set_option linter.unusedSimpArgs false
set_option linter.unusedVariables false
set_option maxRecDepth 100000
set_option maxHeartbeats 4000000
namespace Go.Proofs.YtmoaddicejohgaaDoor
open Go
open List (getD_cons_zero getD_cons_succ set_cons_zero set_cons_succ)

/-- The words of the rounds, the register at first. -/
def shaKL : List UInt32 := [1116352408, 1899447441, 3049323471, 3921009573, 961987163, 1508970993, 2453635748, 2870763221, 3624381080, 310598401, 607225278, 1426881987, 1925078388, 2162078206, 2614888103, 3248222580, 3835390401, 4022224774, 264347078, 604807628, 770255983, 1249150122, 1555081692, 1996064986, 2554220882, 2821834349, 2952996808, 3210313671, 3336571891, 3584528711, 113926993, 338241895, 666307205, 773529912, 1294757372, 1396182291, 1695183700, 1986661051, 2177026350, 2456956037, 2730485921, 2820302411, 3259730800, 3345764771, 3516065817, 3600352804, 4094571909, 275423344, 430227734, 506948616, 659060556, 883997877, 958139571, 1322822218, 1537002063, 1747873779, 1955562222, 2024104815, 2227730452, 2361852424, 2428436474, 2756734187, 3204031479, 3329325298]
def shaHL : List UInt32 := [1779033703, 3144134277, 1013904242, 2773480762, 1359893119, 2600822924, 528734635, 1541459225]
def shaK (i : Nat) : UInt32 := shaKL.getD i 0
def shaH (i : Nat) : UInt32 := shaHL.getD i 0
/-- A variable of words: what it holds. -/
def Cel (w : World) (g n : Nat) (f : Nat → UInt32) : Prop := ∀ i, i < n → w.cell? ⟨g, i, none⟩ = some (V32 (f i))
theorem Cel.chg {w w' : World} {g n : Nat} {f : Nat → UInt32} (h : Cel w g n f) {S : List Nat} (hc : Chg S w w') (hn : g ∉ S) : Cel w' g n f := fun i hi => hc.cell (h i hi) hn
theorem Cel.grow {w w' : World} {g n : Nat} {f : Nat → UInt32} (h : Cel w g n f) (hc : Chg [] w w') : Cel w' g n f := h.chg hc (by simp)
/-- What sha reads: its two variables. -/
def Tabs (w : World) : Prop := Cel w 0 8 shaH ∧ Cel w 1 64 shaK
theorem Tabs.grow {w w' : World} (h : Tabs w) (hc : Chg [] w w') : Tabs w' := ⟨h.1.grow hc, h.2.grow hc⟩
theorem Tabs.chg {w w' : World} (h : Tabs w) {S : List Nat} (hc : Chg S w w') (h0 : 0 ∉ S) (h1 : 1 ∉ S) : Tabs w' := ⟨h.1.chg hc h0, h.2.chg hc h1⟩
section
variable {P : Program} {a : Act} {w : World} {d : Option Tmp} {ty : TypeId} {pos : String} {af : Array Edge} {g : Option (Nat × Bool)} {x : Operand} {t : TypeId}
theorem qr_cel1 {D : TypeDesc} {b n i : Nat} {f : Nat → UInt32} (h : Cel w b n f) (hx : a.eval x = PT b i) (hu : P.underlying t = some D) (hD : isAggD D = false) (hi : i < n) : QRun P ⟨d, .load t x, ty, pos, af, g⟩ a w (V32 (f i)) := qr_load1 hx hu hD (h i hi)
theorem qr_celN {D : TypeDesc} {b n : Nat} {f : Nat → UInt32} (h : Cel w b n f) (hx : a.eval x = PT b 0) (hu : P.underlying t = some D) (hD : isAggD D = true) (hs : szc P t = some n) : QRun P ⟨d, .load t x, ty, pos, af, g⟩ a w (.agg (arr32 n f)) := .of_l fun w' hw => by
  refine run_ok_value (w := w') ?_
  have hl := run_loadN (P := P) (w := w') (b := b) (o := 0) (cs := arr32 n f) hu hD hs (fun j hj => by rw [Nat.zero_add, (h.grow hw) j hj, arr32_get hj]) (by simp)
  simp only [hx, Instr.loadAt, Instr.sureAddr, Sem.run_bind, Sem.run_pure, Result.andThen_ok]
  rw [hl, Nat.zero_add, show (arr32 n f).extract 0 n = arr32 n f by rw [← arr32_size n f]; simp]
end
/-- A word turned. -/
def rotS (k : Int) : UInt64 := UInt64.ofNat (k % 18446744073709551616).toNat &&& 31
def rotF (x : UInt32) (k : Int) : UInt32 := (if (rotS k).toNat < 32 then x <<< UInt32.ofNat (rotS k).toNat else 0) ||| (if (32 - rotS k).toNat < 32 then x >>> UInt32.ofNat (32 - rotS k).toNat else 0)
def shaWord (p : Nat → UInt8) (i : Nat) : UInt32 := (p (4 * i)).toUInt32 <<< 24 ||| (p (4 * i + 1)).toUInt32 <<< 16 ||| (p (4 * i + 2)).toUInt32 <<< 8 ||| (p (4 * i + 3)).toUInt32
/-- The words of a block, one behind the other. -/
def shaW (p : Nat → UInt8) (n : Nat) : UInt32 :=
  if n < 16 then shaWord p n
  else shaW p (n - 16) + (rotF (shaW p (n - 15)) (-7) ^^^ rotF (shaW p (n - 15)) (-18) ^^^ shaW p (n - 15) >>> 3) + shaW p (n - 7) + (rotF (shaW p (n - 2)) (-17) ^^^ rotF (shaW p (n - 2)) (-19) ^^^ shaW p (n - 2) >>> 10)
termination_by n
decreasing_by all_goals omega
theorem shaW_lo (p : Nat → UInt8) {n : Nat} (h : n < 16) : shaW p n = shaWord p n := by rw [shaW, if_pos h]
theorem shaW_hi (p : Nat → UInt8) {n : Nat} (h : ¬ n < 16) : shaW p n = shaW p (n - 16) + (rotF (shaW p (n - 15)) (-7) ^^^ rotF (shaW p (n - 15)) (-18) ^^^ shaW p (n - 15) >>> 3) + shaW p (n - 7) + (rotF (shaW p (n - 2)) (-17) ^^^ rotF (shaW p (n - 2)) (-19) ^^^ shaW p (n - 2) >>> 10) := by
  rw [shaW, if_neg h]
/-- What a round puts together. -/
def shaT (s : Nat → UInt32) (k x : UInt32) : UInt32 := s 7 + (rotF (s 4) (-6) ^^^ rotF (s 4) (-11) ^^^ rotF (s 4) (-25)) + (s 6 ^^^ s 4 &&& (s 5 ^^^ s 6)) + k + x
def shaU (s : Nat → UInt32) : UInt32 := rotF (s 0) (-2) ^^^ rotF (s 0) (-13) ^^^ rotF (s 0) (-22)
def shaM (s : Nat → UInt32) : UInt32 := s 0 &&& s 1 ||| s 2 &&& (s 0 ||| s 1)
/-- The eight words behind n rounds. -/
def shaR (r w : Nat → UInt32) : Nat → Nat → UInt32
  | 0 => r
  | n + 1 => fun j => if j = 0 then shaT (shaR r w n) (shaK n) (w n) + (shaU (shaR r w n) + shaM (shaR r w n)) else if j = 4 then shaR r w n 3 + shaT (shaR r w n) (shaK n) (w n) else shaR r w n (j - 1)
def shaB (r : Nat → UInt32) (p : Nat → UInt8) (j : Nat) : UInt32 := r j + shaR r (shaW p) 64 j

theorem rot_calls (x : UInt32) (k : Int) (w : World) : Ret Tryd.prog 79 #[V32 x, I64 k] w fun v w' => v = V32 (rotF x k) ∧ Chg [] w w' := by
 refine Ret.enter Tryd.func79 rfl ?_
 simp only [Tryd.ntmps79, fe, Nat.reduceAdd, Nat.reduceSub]
 have hH := Hp.start [] w
 refine wp_seq_k ?_
 intro K1 hK1
 refine wrt [.p 0] ?_
 refine pa ?_;simp only [nf]
 refine plan_nil hH ?_
 clear hH
 intro w2 hH
 refine hK1 _ _ ?_
 (try clear hK1 K1)
 refine wp_seq_k ?_
 intro K3 hK3
 refine wrt [.p 0, .p 1, .p 2, .p 3] ?_
 refine pm ?_;simp only [nf]
 refine pp rfl rfl (pr_conv rfl (by first | exact cnv_n_u64 Tryd.underlying3 Tryd.underlying71 | exact cnv_i_u64 Tryd.underlying3 Tryd.underlying71)) ?_;simp only [nf]
 refine pp rfl rfl (pr_bin rfl rfl (bin_and_u64 _ 31)) ?_;simp only [nf]
 refine pa ?_;simp only [nf]
 refine plan_nil hH ?_
 clear hH
 intro w4 hH
 refine hK3 _ _ ?_
 (try clear hK3 K3)
 refine wp_seq_k ?_
 intro K5 hK5
 refine wrt [.p 0, .p 1, .p 2, .p 3, .p 4, .p 5, .p 6, .p 7, .p 8] ?_
 refine pm (pm ?_);simp only [nf]
 refine pp rfl rfl (pr_bin rfl rfl (bin_shl_u32 _ _ _)) ?_;simp only [nf]
 refine pm (pm ?_);simp only [nf]
 refine pp rfl rfl (pr_bin rfl rfl (bin_sub_u64 32 _)) ?_;simp only [nf]
 refine pp rfl rfl (pr_bin rfl rfl (bin_shr_u32 _ _ _)) ?_;simp only [nf]
 refine pp rfl rfl (pr_bin rfl rfl (bin_or_u32 _ _)) ?_;simp only [nf]
 refine pa ?_;simp only [nf]
 refine plan_nil hH ?_
 clear hH
 intro w6 hH
 refine hK5 _ _ ?_
 (try clear hK5 K5)
 refine wp_ret ?_
 (try simp only [Exit.then, Exit.inBlock, ↓reduceIte, Nat.reduceEqDiff])
 refine BP.ret1 rfl rfl ?_
 exact ⟨rfl, hH.chg⟩

theorem list8 (f : Nat → UInt32) (q : Nat) (h : q < 8) : [f 0, f 1, f 2, f 3, f 4, f 5, f 6, f 7].getD q 0 = f q := by
  have : q = 0 ∨ q = 1 ∨ q = 2 ∨ q = 3 ∨ q = 4 ∨ q = 5 ∨ q = 6 ∨ q = 7 := by omega
  rcases this with rfl | rfl | rfl | rfl | rfl | rfl | rfl | rfl <;> rfl

theorem shamix_calls (r : Nat → UInt32) (v : Value) (l : List UInt8) (w : World) (hT : Tabs w) (hv : Sl w v l) (h64 : 64 ≤ l.length) : Ret Tryd.prog 76 #[.agg (arr32 8 r), v] w fun v' w' => v' = .agg (arr32 8 (shaB r (fun i => l.getD i 0))) ∧ Chg [] w w' := by
 refine Ret.enter Tryd.func76 rfl ?_
 simp only [Tryd.ntmps76, fe, Nat.reduceAdd, Nat.reduceSub]
 have hH := Hp.start [] w
 refine wp_seq_k ?_
 intro K1 hK1
 refine wrt [.x 0, .x 1] ?_
 refine plan_box rfl rfl hH rfl ?_
 clear hH
 intro b2 w3 hH
 (try simp only [nf, nh, Value.cells, arrB_set] at hH ⊢)
 refine plan_alloc rfl rfl hH zc125 ?_
 clear hH
 intro b4 w5 hH
 (try simp only [nf, nh, Value.cells, arrB_set] at hH ⊢)
 refine plan_nil hH ?_
 clear hH
 intro w6 hH
 refine hK1 _ _ ?_
 (try clear hK1 K1)
 refine wp_seq_k ?_
 intro K7 hK7
 refine wrt [.x 0] ?_
 refine plan_alloc rfl rfl hH zc133 ?_
 clear hH
 intro b8 w9 hH
 (try simp only [nf, nh, Value.cells, arrB_set] at hH ⊢)
 refine plan_nil hH ?_
 clear hH
 intro w10 hH
 refine hK7 _ _ ?_
 (try clear hK7 K7)
 refine wp_seq_k ?_
 intro K11 hK11
 refine wp_seq_k ?_
 intro K12 hK12
 refine wrt [.p 0] ?_
 refine pk 0 ?_;simp only [nf]
 refine plan_nil hH ?_
 clear hH
 intro w13 hH
 refine hK12 _ _ ?_
 (try clear hK12 K12)
 refine wp_block ?_
 obtain ⟨kc14, hkc15, hN⟩ := hH.name 1 rfl
 replace hH := hN; clear hN; simp only [List.set_cons_zero, List.set_cons_succ] at hH
 refine wp_loopT [23] [6, 7, 8, 24, 25, 26, 27, 28, 29, 30, 31, 32, 33, 34, 35, 36, 37, 38, 39, 40, 41, 42, 43, 44, 45, 46, 47, 48, 49, 50, 51, 52, 53, 54, 55, 56, 57, 58, 59, 60, 61, 62, 63, 64, 65, 66, 67, 68, 69, 70, 71, 72, 73, 74, 75, 76, 77, 78, 79, 80, 81, 82, 83, 84, 85, 86, 87, 88, 89, 90, 91, 92, 93, 94, 95, 96, 97, 98, 99, 100, 101, 102] (fun (n16 : Nat) (vs : List Value) (w' : World) => ∃ (i : Nat), vs = [I64 (i : Nat)] ∧ Hp [] w w' [(some b2, 125, arr32 8 r), (some b4, 125, kc14), (some b8, 133, arr32 64 fun j => if j < i then shaW (fun i => l.getD i 0) j else 0)] ∧ n16 = 64 - i ∧ i ≤ 64) (64 - 0) (by kernel_rfl) ?_ ?_
 ·
  simp only [ga]
  refine ⟨0, rfl, ?_, rfl, ?_⟩
  ·
   exact hH.say 2 rfl (arr32_congr fun j hj => by rw [if_neg (by omega)])
  · first | omega | (omega)
 clear hH
 intro n16 vs17 w18 hR19 d0
 obtain ⟨i, rfl, hH, hn20, hf21⟩ := hR19
 simp only [putAll, putD, List.set_cons_zero, List.set_cons_succ, Nat.zero_add, Nat.reduceAdd]
 subst hkc15
 refine wp_seq_k ?_
 intro K22 hK22
 refine wrt [.p 0] ?_
 refine pp rfl rfl (pr_bin rfl rfl (by first | exact bin_lss_n (n := 64)  | exact bin_lss_i)) ?_;simp only [nf]
 refine plan_nil hH ?_
 clear hH
 intro w23 hH
 refine hK22 _ _ ?_
 (try clear hK22 K22)
 refine wp_seq_k ?_
 intro K24 hK24
 refine wp_cond_split rfl (fun hc25 => ?_) (fun hc25 => ?_)
 ·
  (try simp only [cnd] at hc25)
  refine wp_skip ?_
  refine hK24 _ _ ?_
  (try clear hK24 K24)
  refine wp_seq_k ?_
  intro K26 hK26
  refine wp_block ?_
  refine wp_seq_k ?_
  intro K27 hK27
  refine wrt [.p 0, .p 1] ?_
  refine pm (pa ?_);simp only [nf]
  refine plan_nil hH ?_
  clear hH
  intro w28 hH
  refine hK27 _ _ ?_
  (try clear hK27 K27)
  refine wp_seq_k ?_
  intro K29 hK29
  refine wp_seq_k ?_
  intro K30 hK30
  refine wrt [.p 0, .p 1] ?_
  refine pm ?_;simp only [nf]
  refine pp rfl rfl (pr_bin rfl rfl (by first | exact bin_lss_n (n := 16)  | exact bin_lss_i)) ?_;simp only [nf]
  refine plan_nil hH ?_
  clear hH
  intro w31 hH
  refine hK30 _ _ ?_
  (try clear hK30 K30)
  refine wp_cond_split rfl (fun hc32 => ?_) (fun hc32 => ?_)
  ·
   (try simp only [cnd] at hc32)
   refine wp_seq_k ?_
   intro K33 hK33
   refine wrp [.p 0, .p 1, .p 2, .p 3, .p 4, .p 8, .p 9, .p 10, .p 11, .p 12, .p 17, .p 18, .p 19, .p 20, .p 21, .p 26, .p 27, .p 28, .p 29, .p 30, .q 5, .p 6, .p 7, .q 13, .p 14, .p 15, .p 16, .q 22, .p 23, .p 24, .p 25, .q 31, .p 32, .p 33, .p 34, .e 35] ?_
   refine pm (pm (pm ?_));simp only [nf]
   refine pp rfl rfl (pr_bin rfl rfl (by first | exact bin_mul_n (m := 4) (by omega) | exact bin_mul_i (by omega) (by omega))) ?_;simp only [nf]
   refine pp rfl rfl (pr_idx_Sl (hv.chg hH.chg) rfl rfl Tryd.underlying22 sz5 (by omega)) ?_;simp only [nf]
   refine pm (pm ?_);simp only [nf]
   refine pp rfl rfl (pr_bin rfl rfl (by first | exact bin_mul_n (m := 4) (by omega) | exact bin_mul_i (by omega) (by omega))) ?_;simp only [nf]
   refine pp rfl rfl (pr_bin rfl rfl (by first | exact bin_add_n (n := 1) (by omega) | exact bin_add_i (by omega) (by omega))) ?_;simp only [nf]
   refine pp rfl rfl (pr_idx_Sl (hv.chg hH.chg) rfl rfl Tryd.underlying22 sz5 (by omega)) ?_;simp only [nf]
   refine pm (pm ?_);simp only [nf]
   refine pp rfl rfl (pr_bin rfl rfl (by first | exact bin_mul_n (m := 4) (by omega) | exact bin_mul_i (by omega) (by omega))) ?_;simp only [nf]
   refine pp rfl rfl (pr_bin rfl rfl (by first | exact bin_add_n (n := 2) (by omega) | exact bin_add_i (by omega) (by omega))) ?_;simp only [nf]
   refine pp rfl rfl (pr_idx_Sl (hv.chg hH.chg) rfl rfl Tryd.underlying22 sz5 (by omega)) ?_;simp only [nf]
   refine pm (pm ?_);simp only [nf]
   refine pp rfl rfl (pr_bin rfl rfl (by first | exact bin_mul_n (m := 4) (by omega) | exact bin_mul_i (by omega) (by omega))) ?_;simp only [nf]
   refine pp rfl rfl (pr_bin rfl rfl (by first | exact bin_add_n (n := 3) (by omega) | exact bin_add_i (by omega) (by omega))) ?_;simp only [nf]
   refine pp rfl rfl (pr_idx_Sl (hv.chg hH.chg) rfl rfl Tryd.underlying22 sz5 (by omega)) ?_;simp only [nf]
   refine pq rfl rfl (qr_load1 rfl Tryd.underlying5 rfl (Sl.cell (hv.chg hH.chg) (by omega))) ?_;simp only [nf]
   refine pp rfl rfl (pr_conv rfl (cnv_u8_u32 _ Tryd.underlying5 Tryd.underlying113)) ?_;simp only [nf]
   refine pp rfl rfl (pr_bin rfl rfl (bin_shlc_u32 24 24 (by decide) rfl _)) ?_;simp only [nf]
   refine pq rfl rfl (qr_load1 rfl Tryd.underlying5 rfl (Sl.cell (hv.chg hH.chg) (by omega))) ?_;simp only [nf]
   refine pp rfl rfl (pr_conv rfl (cnv_u8_u32 _ Tryd.underlying5 Tryd.underlying113)) ?_;simp only [nf]
   refine pp rfl rfl (pr_bin rfl rfl (bin_shlc_u32 16 16 (by decide) rfl _)) ?_;simp only [nf]
   refine pp rfl rfl (pr_bin rfl rfl (bin_or_u32 _ _)) ?_;simp only [nf]
   refine pq rfl rfl (qr_load1 rfl Tryd.underlying5 rfl (Sl.cell (hv.chg hH.chg) (by omega))) ?_;simp only [nf]
   refine pp rfl rfl (pr_conv rfl (cnv_u8_u32 _ Tryd.underlying5 Tryd.underlying113)) ?_;simp only [nf]
   refine pp rfl rfl (pr_bin rfl rfl (bin_shlc_u32 8 8 (by decide) rfl _)) ?_;simp only [nf]
   refine pp rfl rfl (pr_bin rfl rfl (bin_or_u32 _ _)) ?_;simp only [nf]
   refine pq rfl rfl (qr_load1 rfl Tryd.underlying5 rfl (Sl.cell (hv.chg hH.chg) (by omega))) ?_;simp only [nf]
   refine pp rfl rfl (pr_conv rfl (cnv_u8_u32 _ Tryd.underlying5 Tryd.underlying113)) ?_;simp only [nf]
   refine pp rfl rfl (pr_bin rfl rfl (bin_or_u32 _ _)) ?_;simp only [nf]
   refine pp rfl rfl (pr_idxA1 rfl rfl Tryd.underlying133 sz113 (by omega)) ?_;simp only [nf]
   refine plan_store1 2 rfl rfl hH rfl rfl rfl rfl sz113 (by simp <;> omega) ?_
   clear hH
   intro w34 hH
   (try simp only [nf, nh, Value.cells, arrB_set] at hH ⊢)
   refine plan_nil hH ?_
   clear hH
   intro w35 hH
   refine hK33 _ _ ?_
   (try clear hK33 K33)
   refine wp_exit ?_
   (try simp only [Exit.then, Exit.inBlock, ↓reduceIte, Nat.reduceEqDiff])
   refine hK26 _ _ ?_
   (try clear hK26 K26)
   refine wrt [.p 0, .p 1] ?_
   refine pp rfl rfl (pr_bin rfl rfl (by first | exact bin_add_n (n := 1) (by omega) | exact bin_add_i (by omega) (by omega))) ?_;simp only [nf]
   refine pm ?_;simp only [nf]
   refine plan_nil hH ?_
   clear hH
   intro w36 hH
   (try simp only [Exit.then, Exit.inBlock, ↓reduceIte, Nat.reduceEqDiff])
   refine ⟨64 - (i + 1), ?_, _, rfl, by kernel_rfl, ?_⟩
   · first | omega | (omega)
   simp only [ga]
   refine ⟨i + 1, rfl, ?_, rfl, ?_⟩
   ·
    exact hH.say 2 rfl (arr32_congr fun j hj => upd_lt (g := shaW (fun i => l.getD i 0)) (z := fun _ => 0) (by rw [shaW_lo _ (by assumption)]; rfl) j)
   · first | omega | (omega)
  ·
   (try simp only [cnd] at hc32)
   refine wp_skip ?_
   refine hK29 _ _ ?_
   (try clear hK29 K29)
   refine wp_seq_k ?_
   intro K37 hK37
   refine wrp [.p 0, .p 1, .p 2, .p 4, .p 5, .p 6, .q 3, .p 8, .q 7, .p 9] ?_
   refine pm ?_;simp only [nf]
   refine pp rfl rfl (pr_bin rfl rfl (by first | exact bin_sub_n (n := 15) (by omega) (by omega) | exact bin_sub_i (by omega) (by omega))) ?_;simp only [nf]
   refine pp rfl rfl (pr_idxA1 rfl rfl Tryd.underlying133 sz113 (by omega)) ?_;simp only [nf]
   refine pm ?_;simp only [nf]
   refine pp rfl rfl (pr_bin rfl rfl (by first | exact bin_sub_n (n := 2) (by omega) (by omega) | exact bin_sub_i (by omega) (by omega))) ?_;simp only [nf]
   refine pp rfl rfl (pr_idxA1 rfl rfl Tryd.underlying133 sz113 (by omega)) ?_;simp only [nf]
   refine pq rfl rfl (qr_load1 rfl Tryd.underlying113 rfl ((hH.blk 2 rfl).cell (arr32_get (by omega)))) ?_;simp only [nf]
   refine pa ?_;simp only [nf]
   refine pq rfl rfl (qr_load1 rfl Tryd.underlying113 rfl ((hH.blk 2 rfl).cell (arr32_get (by omega)))) ?_;simp only [nf]
   refine pa ?_;simp only [nf]
   refine plan_nil hH ?_
   clear hH
   intro w38 hH
   refine hK37 _ _ ?_
   (try clear hK37 K37)
   refine wp_seq_k ?_
   intro K39 hK39
   refine wrt [.p 0, .q 1, .p 2, .q 3, .p 4, .p 5, .p 6, .p 7, .p 8] ?_
   refine pm ?_;simp only [nf]
   refine pq rfl rfl (qr_call cf79 (fun w' hw => rot_calls _ _ w') rfl) ?_;simp only [nf]
   refine pm ?_;simp only [nf]
   refine pq rfl rfl (qr_call cf79 (fun w' hw => rot_calls _ _ w') rfl) ?_;simp only [nf]
   refine pp rfl rfl (pr_bin rfl rfl (bin_xor_u32 _ _)) ?_;simp only [nf]
   refine pm ?_;simp only [nf]
   refine pp rfl rfl (pr_bin rfl rfl (bin_shrc_u32 3 3 (by decide) rfl _)) ?_;simp only [nf]
   refine pp rfl rfl (pr_bin rfl rfl (bin_xor_u32 _ _)) ?_;simp only [nf]
   refine pa ?_;simp only [nf]
   refine plan_nil hH ?_
   clear hH
   intro w40 hH
   refine hK39 _ _ ?_
   (try clear hK39 K39)
   refine wp_seq_k ?_
   intro K41 hK41
   refine wrt [.p 0, .q 1, .p 2, .q 3, .p 4, .p 5, .p 6, .p 7, .p 8] ?_
   refine pm ?_;simp only [nf]
   refine pq rfl rfl (qr_call cf79 (fun w' hw => rot_calls _ _ w') rfl) ?_;simp only [nf]
   refine pm ?_;simp only [nf]
   refine pq rfl rfl (qr_call cf79 (fun w' hw => rot_calls _ _ w') rfl) ?_;simp only [nf]
   refine pp rfl rfl (pr_bin rfl rfl (bin_xor_u32 _ _)) ?_;simp only [nf]
   refine pm ?_;simp only [nf]
   refine pp rfl rfl (pr_bin rfl rfl (bin_shrc_u32 10 10 (by decide) rfl _)) ?_;simp only [nf]
   refine pp rfl rfl (pr_bin rfl rfl (bin_xor_u32 _ _)) ?_;simp only [nf]
   refine pa ?_;simp only [nf]
   refine plan_nil hH ?_
   clear hH
   intro w42 hH
   refine hK41 _ _ ?_
   (try clear hK41 K41)
   refine wrp [.p 0, .p 1, .p 2, .p 3, .p 5, .p 7, .p 8, .p 9, .p 12, .q 4, .p 6, .q 10, .p 11, .p 13, .p 14, .e 15] ?_
   refine pm (pm ?_);simp only [nf]
   refine pp rfl rfl (pr_bin rfl rfl (by first | exact bin_sub_n (n := 16) (by omega) (by omega) | exact bin_sub_i (by omega) (by omega))) ?_;simp only [nf]
   refine pp rfl rfl (pr_idxA1 rfl rfl Tryd.underlying133 sz113 (by omega)) ?_;simp only [nf]
   refine pm (pm ?_);simp only [nf]
   refine pp rfl rfl (pr_bin rfl rfl (by first | exact bin_sub_n (n := 7) (by omega) (by omega) | exact bin_sub_i (by omega) (by omega))) ?_;simp only [nf]
   refine pp rfl rfl (pr_idxA1 rfl rfl Tryd.underlying133 sz113 (by omega)) ?_;simp only [nf]
   refine pm ?_;simp only [nf]
   refine pq rfl rfl (qr_load1 rfl Tryd.underlying113 rfl ((hH.blk 2 rfl).cell (arr32_get (by omega)))) ?_;simp only [nf]
   refine pp rfl rfl (pr_bin rfl rfl (bin_add_u32 _ _)) ?_;simp only [nf]
   refine pq rfl rfl (qr_load1 rfl Tryd.underlying113 rfl ((hH.blk 2 rfl).cell (arr32_get (by omega)))) ?_;simp only [nf]
   refine pp rfl rfl (pr_bin rfl rfl (bin_add_u32 _ _)) ?_;simp only [nf]
   refine pp rfl rfl (pr_bin rfl rfl (bin_add_u32 _ _)) ?_;simp only [nf]
   refine pp rfl rfl (pr_idxA1 rfl rfl Tryd.underlying133 sz113 (by omega)) ?_;simp only [nf]
   refine plan_store1 2 rfl rfl hH rfl rfl rfl rfl sz113 (by simp <;> omega) ?_
   clear hH
   intro w43 hH
   (try simp only [nf, nh, Value.cells, arrB_set] at hH ⊢)
   refine plan_nil hH ?_
   clear hH
   intro w44 hH
   refine hK26 _ _ ?_
   (try clear hK26 K26)
   refine wrt [.p 0, .p 1] ?_
   refine pp rfl rfl (pr_bin rfl rfl (by first | exact bin_add_n (n := 1) (by omega) | exact bin_add_i (by omega) (by omega))) ?_;simp only [nf]
   refine pm ?_;simp only [nf]
   refine plan_nil hH ?_
   clear hH
   intro w45 hH
   (try simp only [Exit.then, Exit.inBlock, ↓reduceIte, Nat.reduceEqDiff])
   refine ⟨64 - (i + 1), ?_, _, rfl, by kernel_rfl, ?_⟩
   · first | omega | (omega)
   simp only [ga]
   refine ⟨i + 1, rfl, ?_, rfl, ?_⟩
   ·
    exact hH.say 2 rfl (arr32_congr fun j hj => upd_lt (g := shaW (fun i => l.getD i 0)) (z := fun _ => 0) (by
      simp only [show i - 16 < i by omega, show i - 15 < i by omega, show i - 7 < i by omega, show i - 2 < i by omega, if_true]
      exact (shaW_hi _ (by omega)).symm) j)
   · first | omega | (omega)
 ·
  (try simp only [cnd] at hc25)
  obtain rfl : i = 64 := by omega
  replace hH := hH.say 2 rfl (arr32_congr (g := shaW (fun i => l.getD i 0)) fun j hj => if_pos hj)
  simp only [set_cons_zero, set_cons_succ] at hH
  refine wp_exit ?_
  (try simp only [Exit.then, Exit.inBlock, ↓reduceIte, Nat.reduceEqDiff])
  refine hK11 _ _ ?_
  (try clear hK11 K11)
  refine wp_seq_k ?_
  intro K46 hK46
  refine wrp [.p 0, .p 2, .p 4, .p 6, .p 8, .p 10, .p 12, .p 14, .q 1, .p 16, .q 3, .p 17, .q 5, .p 18, .q 7, .p 19, .q 9, .p 20, .q 11, .p 21, .q 13, .p 22, .q 15, .p 23] ?_
  refine pp rfl rfl (pr_idxA1 (i := 0) rfl rfl Tryd.underlying125 sz113 (by omega)) ?_;simp only [nf]
  refine pp rfl rfl (pr_idxA1 (i := 1) rfl rfl Tryd.underlying125 sz113 (by omega)) ?_;simp only [nf]
  refine pp rfl rfl (pr_idxA1 (i := 2) rfl rfl Tryd.underlying125 sz113 (by omega)) ?_;simp only [nf]
  refine pp rfl rfl (pr_idxA1 (i := 3) rfl rfl Tryd.underlying125 sz113 (by omega)) ?_;simp only [nf]
  refine pp rfl rfl (pr_idxA1 (i := 4) rfl rfl Tryd.underlying125 sz113 (by omega)) ?_;simp only [nf]
  refine pp rfl rfl (pr_idxA1 (i := 5) rfl rfl Tryd.underlying125 sz113 (by omega)) ?_;simp only [nf]
  refine pp rfl rfl (pr_idxA1 (i := 6) rfl rfl Tryd.underlying125 sz113 (by omega)) ?_;simp only [nf]
  refine pp rfl rfl (pr_idxA1 (i := 7) rfl rfl Tryd.underlying125 sz113 (by omega)) ?_;simp only [nf]
  refine pq rfl rfl (qr_load1 rfl Tryd.underlying113 rfl ((hH.blk 0 rfl).cell (arr32_get (by omega)))) ?_;simp only [nf]
  refine pa ?_;simp only [nf]
  refine pq rfl rfl (qr_load1 rfl Tryd.underlying113 rfl ((hH.blk 0 rfl).cell (arr32_get (by omega)))) ?_;simp only [nf]
  refine pa ?_;simp only [nf]
  refine pq rfl rfl (qr_load1 rfl Tryd.underlying113 rfl ((hH.blk 0 rfl).cell (arr32_get (by omega)))) ?_;simp only [nf]
  refine pa ?_;simp only [nf]
  refine pq rfl rfl (qr_load1 rfl Tryd.underlying113 rfl ((hH.blk 0 rfl).cell (arr32_get (by omega)))) ?_;simp only [nf]
  refine pa ?_;simp only [nf]
  refine pq rfl rfl (qr_load1 rfl Tryd.underlying113 rfl ((hH.blk 0 rfl).cell (arr32_get (by omega)))) ?_;simp only [nf]
  refine pa ?_;simp only [nf]
  refine pq rfl rfl (qr_load1 rfl Tryd.underlying113 rfl ((hH.blk 0 rfl).cell (arr32_get (by omega)))) ?_;simp only [nf]
  refine pa ?_;simp only [nf]
  refine pq rfl rfl (qr_load1 rfl Tryd.underlying113 rfl ((hH.blk 0 rfl).cell (arr32_get (by omega)))) ?_;simp only [nf]
  refine pa ?_;simp only [nf]
  refine pq rfl rfl (qr_load1 rfl Tryd.underlying113 rfl ((hH.blk 0 rfl).cell (arr32_get (by omega)))) ?_;simp only [nf]
  refine pa ?_;simp only [nf]
  refine plan_nil hH ?_
  clear hH
  intro w47 hH
  refine hK46 _ _ ?_
  (try clear hK46 K46)
  refine wp_seq_k ?_
  intro K48 hK48
  refine wp_seq_k ?_
  intro K49 hK49
  refine wrt [.q 0, .p 1] ?_
  refine pq rfl rfl (qr_loadW rfl (hH.blk 2 rfl) Tryd.underlying133 rfl sz133 (by simp)) ?_;simp only [nf]
  refine pk 0 ?_;simp only [nf]
  refine plan_nil hH ?_
  clear hH
  intro w50 hH
  refine hK49 _ _ ?_
  (try clear hK49 K49)
  refine wp_block ?_
  obtain ⟨kc51, hkc52, hN⟩ := hH.name 1 rfl
  replace hH := hN; clear hN; simp only [List.set_cons_zero, List.set_cons_succ] at hH
  refine wp_loopT [9, 10, 11, 12, 13, 14, 15, 16, 120] [17, 18, 19, 20, 121, 122, 123, 124, 125, 126, 127, 128, 129, 130, 131, 132, 133, 134, 135, 136, 137, 138, 139, 140, 141, 142, 143, 144, 145, 146, 147, 148, 149, 150, 151, 152, 153, 154, 155, 156, 157, 158, 159, 160, 161, 162, 163, 164, 165, 166, 167, 168, 169, 170, 171, 172, 173, 174, 175, 176, 177, 178] (fun (n53 : Nat) (vs : List Value) (w' : World) => ∃ (n : Nat), vs = [V32 (shaR r (shaW (fun i => l.getD i 0)) n 0), V32 (shaR r (shaW (fun i => l.getD i 0)) n 1), V32 (shaR r (shaW (fun i => l.getD i 0)) n 2), V32 (shaR r (shaW (fun i => l.getD i 0)) n 3), V32 (shaR r (shaW (fun i => l.getD i 0)) n 4), V32 (shaR r (shaW (fun i => l.getD i 0)) n 5), V32 (shaR r (shaW (fun i => l.getD i 0)) n 6), V32 (shaR r (shaW (fun i => l.getD i 0)) n 7), I64 (n : Nat)] ∧ Hp [] w w' [(some b2, 125, arr32 8 r), (some b4, 125, kc51), (some b8, 133, arr32 64 (shaW (fun i => l.getD i 0)))] ∧ n53 = 64 - n ∧ n ≤ 64) (64 - 0) (by kernel_rfl) ?_ ?_
  ·
   simp only [ga]
   refine ⟨0, rfl, ?_, rfl, ?_⟩
   ·
    exact hH
   · first | omega | (omega)
  clear hH
  intro n53 vs54 w55 hR56 d1
  obtain ⟨n, rfl, hH, hn57, hf58⟩ := hR56
  simp only [putAll, putD, List.set_cons_zero, List.set_cons_succ, Nat.zero_add, Nat.reduceAdd]
  subst hkc52
  refine wp_seq_k ?_
  intro K59 hK59
  refine wrt [.p 0] ?_
  refine pp rfl rfl (pr_bin rfl rfl (by first | exact bin_lss_n (n := 64)  | exact bin_lss_i)) ?_;simp only [nf]
  refine plan_nil hH ?_
  clear hH
  intro w60 hH
  refine hK59 _ _ ?_
  (try clear hK59 K59)
  refine wp_seq_k ?_
  intro K61 hK61
  refine wp_cond_split rfl (fun hc62 => ?_) (fun hc62 => ?_)
  ·
   (try simp only [cnd] at hc62)
   refine wp_skip ?_
   refine hK61 _ _ ?_
   (try clear hK61 K61)
   refine wp_seq_k ?_
   intro K63 hK63
   refine wp_block ?_
   refine wp_seq_k ?_
   intro K64 hK64
   refine wrt [.p 0, .p 1, .p 2, .p 3] ?_
   refine pm ?_;simp only [nf]
   refine pp rfl rfl (pr_index_arr rfl rfl Tryd.underlying133 sz113 (notAgg Tryd.underlying113 rfl) (by first | omega | exact lt_u8 _) (arr32_get (by first | omega | exact lt_u8 _))) ?_;simp only [nf]
   refine pa (pa ?_);simp only [nf]
   refine plan_nil hH ?_
   clear hH
   intro w65 hH
   refine hK64 _ _ ?_
   (try clear hK64 K64)
   refine wp_seq_k ?_
   intro K66 hK66
   refine wrp [.p 0, .p 1, .p 3, .p 6, .p 10, .p 11, .p 12, .p 13, .p 14, .p 15, .p 16, .p 18, .p 19, .p 22, .q 2, .q 4, .p 5, .q 7, .p 8, .p 9, .p 17, .q 20, .p 21, .p 23, .p 24] ?_
   refine pm (pm (pm (pm (pm (pm ?_)))));simp only [nf]
   refine pm (pm ?_);simp only [nf]
   refine pp rfl rfl (pr_bin rfl rfl (bin_xor_u32 _ _)) ?_;simp only [nf]
   refine pp rfl rfl (pr_bin rfl rfl (bin_and_u32 _ _)) ?_;simp only [nf]
   refine pp rfl rfl (pr_bin rfl rfl (bin_xor_u32 _ _)) ?_;simp only [nf]
   refine pm ?_;simp only [nf]
   refine pp rfl rfl (pr_idxA1 rfl rfl Tryd.underlying133 sz113 (by omega)) ?_;simp only [nf]
   refine pm ?_;simp only [nf]
   refine pq rfl rfl (qr_call cf79 (fun w' hw => rot_calls _ _ w') rfl) ?_;simp only [nf]
   refine pq rfl rfl (qr_call cf79 (fun w' hw => rot_calls _ _ w') rfl) ?_;simp only [nf]
   refine pp rfl rfl (pr_bin rfl rfl (bin_xor_u32 _ _)) ?_;simp only [nf]
   refine pq rfl rfl (qr_call cf79 (fun w' hw => rot_calls _ _ w') rfl) ?_;simp only [nf]
   refine pp rfl rfl (pr_bin rfl rfl (bin_xor_u32 _ _)) ?_;simp only [nf]
   refine pp rfl rfl (pr_bin rfl rfl (bin_add_u32 _ _)) ?_;simp only [nf]
   refine pp rfl rfl (pr_bin rfl rfl (bin_add_u32 _ _)) ?_;simp only [nf]
   refine pq rfl rfl (qr_cel1 (hT.grow hH.chg).2 rfl Tryd.underlying113 rfl (by omega)) ?_;simp only [nf]
   refine pp rfl rfl (pr_bin rfl rfl (bin_add_u32 _ _)) ?_;simp only [nf]
   refine pp rfl rfl (pr_bin rfl rfl (bin_add_u32 _ _)) ?_;simp only [nf]
   refine pa ?_;simp only [nf]
   refine plan_nil hH ?_
   clear hH
   intro w67 hH
   refine hK66 _ _ ?_
   (try clear hK66 K66)
   refine wp_seq_k ?_
   intro K68 hK68
   refine wrt [.p 0, .q 1, .p 2, .q 3, .p 4, .p 5, .q 6, .p 7, .p 8, .p 9, .p 10, .p 11, .p 12, .p 13, .p 14, .p 15, .p 16, .p 17, .p 18] ?_
   refine pm ?_;simp only [nf]
   refine pq rfl rfl (qr_call cf79 (fun w' hw => rot_calls _ _ w') rfl) ?_;simp only [nf]
   refine pm ?_;simp only [nf]
   refine pq rfl rfl (qr_call cf79 (fun w' hw => rot_calls _ _ w') rfl) ?_;simp only [nf]
   refine pp rfl rfl (pr_bin rfl rfl (bin_xor_u32 _ _)) ?_;simp only [nf]
   refine pm ?_;simp only [nf]
   refine pq rfl rfl (qr_call cf79 (fun w' hw => rot_calls _ _ w') rfl) ?_;simp only [nf]
   refine pp rfl rfl (pr_bin rfl rfl (bin_xor_u32 _ _)) ?_;simp only [nf]
   refine pm (pm ?_);simp only [nf]
   refine pp rfl rfl (pr_bin rfl rfl (bin_and_u32 _ _)) ?_;simp only [nf]
   refine pm (pm (pm ?_));simp only [nf]
   refine pp rfl rfl (pr_bin rfl rfl (bin_or_u32 _ _)) ?_;simp only [nf]
   refine pp rfl rfl (pr_bin rfl rfl (bin_and_u32 _ _)) ?_;simp only [nf]
   refine pp rfl rfl (pr_bin rfl rfl (bin_or_u32 _ _)) ?_;simp only [nf]
   refine pp rfl rfl (pr_bin rfl rfl (bin_add_u32 _ _)) ?_;simp only [nf]
   refine pa ?_;simp only [nf]
   refine plan_nil hH ?_
   clear hH
   intro w69 hH
   refine hK68 _ _ ?_
   (try clear hK68 K68)
   refine wrt [.p 0, .p 1, .p 2, .p 3, .p 4, .p 5, .p 6, .p 7, .p 8, .p 9, .p 10, .p 11, .p 12, .p 13, .p 14, .p 15, .p 16, .p 17, .p 18, .p 19] ?_
   refine pm (pm ?_);simp only [nf]
   refine pp rfl rfl (pr_bin rfl rfl (bin_add_u32 _ _)) ?_;simp only [nf]
   refine pm (pm (pm (pm (pm ?_))));simp only [nf]
   refine pp rfl rfl (pr_bin rfl rfl (bin_add_u32 _ _)) ?_;simp only [nf]
   refine pm (pm (pm (pa (pa (pa ?_)))));simp only [nf]
   refine pa (pa (pa (pa (pa ?_))));simp only [nf]
   refine plan_nil hH ?_
   clear hH
   intro w70 hH
   refine hK63 _ _ ?_
   (try clear hK63 K63)
   refine wrt [.p 0, .p 1] ?_
   refine pp rfl rfl (pr_bin rfl rfl (by first | exact bin_add_n (n := 1) (by omega) | exact bin_add_i (by omega) (by omega))) ?_;simp only [nf]
   refine pm ?_;simp only [nf]
   refine plan_nil hH ?_
   clear hH
   intro w71 hH
   (try simp only [Exit.then, Exit.inBlock, ↓reduceIte, Nat.reduceEqDiff])
   refine ⟨64 - (n + 1), ?_, _, rfl, by kernel_rfl, ?_⟩
   · first | omega | (omega)
   simp only [ga]
   refine ⟨n + 1, rfl, ?_, rfl, ?_⟩
   ·
    exact hH
   · first | omega | (omega)
  ·
   (try simp only [cnd] at hc62)
   obtain rfl : n = 64 := by omega
   refine wp_exit ?_
   (try simp only [Exit.then, Exit.inBlock, ↓reduceIte, Nat.reduceEqDiff])
   refine hK48 _ _ ?_
   (try clear hK48 K48)
   refine wp_seq_k ?_
   intro K72 hK72
   refine wp_seq_k ?_
   intro K73 hK73
   refine wrt [.p 0, .p 1, .p 2, .p 3, .p 4, .p 5, .p 6, .p 7, .p 8, .p 9] ?_
   refine pm (pm (pm (pm (pm (pm ?_)))));simp only [nf]
   refine pm (pm ?_);simp only [nf]
   refine pp rfl rfl (pr_build (by rfl) (ba125 _ _ _ _ _ _ _ _)) ?_;simp only [nf]
   refine pk 0 ?_;simp only [nf]
   refine plan_nil hH ?_
   clear hH
   intro w74 hH
   refine hK73 _ _ ?_
   (try clear hK73 K73)
   refine wp_block ?_
   obtain ⟨kc75, hkc76, hN⟩ := hH.name 1 rfl
   replace hH := hN; clear hN; simp only [List.set_cons_zero, List.set_cons_succ] at hH
   refine wp_loopT [188] [21, 22, 189, 190, 191, 192, 193, 194, 195, 196, 197, 198] (fun (n77 : Nat) (vs : List Value) (w' : World) => ∃ (q : Nat), vs = [I64 (q : Nat)] ∧ Hp [] w w' [(some b2, 125, arr32 8 fun j => if j < q then shaB r (fun i => l.getD i 0) j else r j), (some b4, 125, kc75), (some b8, 133, arr32 64 (shaW (fun i => l.getD i 0)))] ∧ n77 = 8 - q ∧ q ≤ 8) (8 - 0) (by kernel_rfl) ?_ ?_
   ·
    simp only [ga]
    refine ⟨0, rfl, ?_, rfl, ?_⟩
    ·
     exact hH.say 0 rfl (arr32_congr fun j hj => by rw [if_neg (by omega)])
    · first | omega | (omega)
   clear hH
   intro n77 vs78 w79 hR80 d2
   obtain ⟨q, rfl, hH, hn81, hf82⟩ := hR80
   simp only [putAll, putD, List.set_cons_zero, List.set_cons_succ, Nat.zero_add, Nat.reduceAdd]
   subst hkc76
   refine wp_seq_k ?_
   intro K83 hK83
   refine wrt [.p 0] ?_
   refine pp rfl rfl (pr_bin rfl rfl (by first | exact bin_lss_n (n := 8)  | exact bin_lss_i)) ?_;simp only [nf]
   refine plan_nil hH ?_
   clear hH
   intro w84 hH
   refine hK83 _ _ ?_
   (try clear hK83 K83)
   refine wp_seq_k ?_
   intro K85 hK85
   refine wp_cond_split rfl (fun hc86 => ?_) (fun hc86 => ?_)
   ·
    (try simp only [cnd] at hc86)
    refine wp_skip ?_
    refine hK85 _ _ ?_
    (try clear hK85 K85)
    refine wp_seq_k ?_
    intro K87 hK87
    refine wp_block ?_
    refine wp_seq_k ?_
    intro K88 hK88
    refine wrt [.p 0, .p 1, .p 2, .p 3] ?_
    refine pm ?_;simp only [nf]
    refine pp rfl rfl (pr_index_arr rfl rfl Tryd.underlying125 sz113 (notAgg Tryd.underlying113 rfl) (by first | omega | exact lt_u8 _) (arr32_get (by first | omega | exact lt_u8 _))) ?_;simp only [nf]
    refine pa (pa ?_);simp only [nf]
    refine plan_nil hH ?_
    clear hH
    intro w89 hH
    refine hK88 _ _ ?_
    (try clear hK88 K88)
    refine wrt [.p 0, .p 1, .q 2, .p 3, .p 4, .p 5, .e 6] ?_
    refine pm ?_;simp only [nf]
    refine pp rfl rfl (pr_idxA1 rfl rfl Tryd.underlying125 sz113 (by omega)) ?_;simp only [nf]
    refine pq rfl rfl (qr_load1 rfl Tryd.underlying113 rfl ((hH.blk 0 rfl).cell (arr32_get (by omega)))) ?_;simp only [nf]
    refine pm ?_;simp only [nf]
    refine pp rfl rfl (pr_bin rfl rfl (bin_add_u32 _ _)) ?_;simp only [nf]
    refine pp rfl rfl (pr_idxA1 rfl rfl Tryd.underlying125 sz113 (by omega)) ?_;simp only [nf]
    refine plan_store1 0 rfl rfl hH rfl rfl rfl rfl sz113 (by simp <;> omega) ?_
    clear hH
    intro w90 hH
    (try simp only [nf, nh, Value.cells, arrB_set] at hH ⊢)
    refine plan_nil hH ?_
    clear hH
    intro w91 hH
    refine hK87 _ _ ?_
    (try clear hK87 K87)
    refine wrt [.p 0, .p 1] ?_
    refine pp rfl rfl (pr_bin rfl rfl (by first | exact bin_add_n (n := 1) (by omega) | exact bin_add_i (by omega) (by omega))) ?_;simp only [nf]
    refine pm ?_;simp only [nf]
    refine plan_nil hH ?_
    clear hH
    intro w92 hH
    (try simp only [Exit.then, Exit.inBlock, ↓reduceIte, Nat.reduceEqDiff])
    refine ⟨8 - (q + 1), ?_, _, rfl, by kernel_rfl, ?_⟩
    · first | omega | (omega)
    simp only [ga]
    refine ⟨q + 1, rfl, ?_, rfl, ?_⟩
    ·
     exact hH.say 0 rfl (arr32_congr fun j hj => upd_lt (g := shaB r (fun i => l.getD i 0)) (z := r) (by rw [if_neg (Nat.lt_irrefl _), list8 (shaR r (shaW (fun i => l.getD i 0)) 64) q (by assumption)]; rfl) j)
    · first | omega | (omega)
   ·
    (try simp only [cnd] at hc86)
    refine wp_exit ?_
    (try simp only [Exit.then, Exit.inBlock, ↓reduceIte, Nat.reduceEqDiff])
    refine hK72 _ _ ?_
    (try clear hK72 K72)
    refine wp_seq_k ?_
    intro K93 hK93
    refine wrt [.q 0, .e 1] ?_
    refine pq rfl rfl (qr_loadW rfl (hH.blk 0 rfl) Tryd.underlying125 rfl sz125 (by simp)) ?_;simp only [nf]
    refine plan_storeW 1 rfl rfl hH rfl rfl rfl one_arr32 sz125 (by simp) (by simp) ?_
    clear hH
    intro w94 hH
    (try simp only [nf, nh, Value.cells, arrB_set] at hH ⊢)
    refine plan_nil hH ?_
    clear hH
    intro w95 hH
    refine hK93 _ _ ?_
    (try clear hK93 K93)
    refine wp_ret ?_
    (try simp only [Exit.then, Exit.inBlock, ↓reduceIte, Nat.reduceEqDiff])
    refine BP.retc rfl rfl (hH.blk 1 rfl) Tryd.underlying125 rfl sz125 (by simp) ?_
    obtain rfl : q = 8 := by omega
    exact ⟨by rw [arr32_congr fun i hi => if_pos hi], hH.chg⟩

end Go.Proofs.YtmoaddicejohgaaDoor
