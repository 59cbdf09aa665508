import Derived.Test.YthckiolgpgplpaaDoorPx8
namespace Go.Proofs.YthckiolgpgplpaaDoor.YD
set_option maxHeartbeats 8000000
set_option maxRecDepth 100000
open Go.RowKit YC YA YB
attribute [local go_sem] eF eD fD fE dS dU eG eO
set_option linter.unusedVariables false
set_option linter.unusedSimpArgs false
def dz.f (k : Nat) (a0 : Int) : Option (Int) := (dA.f k 0 a0).bind fun t243 => (some t243)
theorem dz.calls (k : Nat) (a0 : Int) (r : Int) (w : World) (h : dz.f k a0 = some r) :
  Calls Tryd.prog 70 #[.int .i64 a0] w fun e w' => e = .returned (.int .i64 r) ∧ Below w.heap.size w w' := by
 have HB := aa.mk (Below.refl w.heap.size w); have H : ((dA.f k 0 a0).bind fun t243 => (some t243)) = some r := h; clear h; replace H := ob H; obtain ⟨t243, A2, H⟩ := H; obtain rfl := Zg H; go_enter Tryd.func70, Tryd.ntmps70
 go_wp2_with (first | ((with_reducible refine ah (f := 65) rfl ?_); refine gl 4 Tryd.func65 #[.int .i64 0, .int .i64 a0] ?_; (with_reducible refine (dA.calls k 0 a0 t243 _ A2.out).mono ?_); rintro e w3 ⟨rfl, hb⟩; refine ⟨_, rfl, ?_⟩; have n0_ := aa.mk (aj bl hb); clear HB; have HB := n0_; clear n0_; (try clear hb)))
 go_ret; exact ⟨pe, bl⟩
def bT.f (k : Nat) (a0 : Int) : Option (Int) := if a0 < 0 then ((dz.f k a0).bind fun t244 => (some (IntKind.u64.wrap (t244)))) else (some (IntKind.u64.wrap (a0)))
theorem bT.calls (k : Nat) (a0 : Int) (r : Int) (w : World) (h : bT.f k a0 = some r) :
  Calls Tryd.prog 81 #[.int .i64 a0] w fun e w' => e = .returned (.int .u64 r) ∧ Below w.heap.size w w' := by
 have HB := aa.mk (Below.refl w.heap.size w); have H : (if a0 < 0 then ((dz.f k a0).bind fun t244 => (some (IntKind.u64.wrap (t244)))) else (some (IntKind.u64.wrap (a0)))) = some r := h; clear h
 by_cases c2 : a0 < 0
 ·rw [if_pos c2] at H; have c2b0 := Za c2; clear c2; replace H := ob H; obtain ⟨t244, A3, H⟩ := H; obtain rfl := Zg H; go_enter Tryd.func81, Tryd.ntmps81
  go_wp2_with (first | ((with_reducible refine ah (f := 70) rfl ?_); refine gl 6 Tryd.func70 #[.int .i64 a0] ?_; (with_reducible refine (dz.calls k a0 t244 _ A3.out).mono ?_); rintro e w4 ⟨rfl, hb⟩; refine ⟨_, rfl, ?_⟩; have n0_ := aa.mk (aj bl hb); clear HB; have HB := n0_; clear n0_; (try clear hb)))
  go_ret; exact ⟨pe, bl⟩
 ·rw [if_neg c2] at H; have c2b0 := Zb c2; clear c2; obtain rfl := Zg H; go_enter Tryd.func81, Tryd.ntmps81; go_wp2; go_ret; exact ⟨pe, bl⟩
def bz.l0 : Nat → Int → ByteArray → Int → Option (ByteArray)
 | 0, _, _, _ => none
 | k + 1, x0, x3, x4 => if x3.toList = ([] : List UInt8) then ((some (([(IntKind.u64.wrap (48 + (Int.tmod x4 10))) % 256] : List Int) : List Int)).bind fun y246 => (if (strOfNums y246).size + x3.size ≤ 9223372036854775807 then (bz.l0 k x0 ((strOfNums y246) ++ x3) (IntKind.u64.wrap (Int.tdiv x4 10))) else (none))) else (if x4 > 0 then ((some (([(IntKind.u64.wrap (48 + (Int.tmod x4 10))) % 256] : List Int) : List Int)).bind fun y249 => (if (strOfNums y249).size + x3.size ≤ 9223372036854775807 then (bz.l0 k x0 ((strOfNums y249) ++ x3) (IntKind.u64.wrap (Int.tdiv x4 10))) else (none))) else (if x0 < 0 then (if 1 + x3.size ≤ 9223372036854775807 then (some ((⟨#[45]⟩ : ByteArray) ++ x3)) else (none)) else (some x3)))
def bz.f (k : Nat) (a0 : Int) : Option (ByteArray) := (bT.f k a0).bind fun t245 => (bz.l0 k a0 (⟨#[]⟩ : ByteArray) t245)
theorem bz.calls (k : Nat) (a0 : Int) (r : ByteArray) (w : World) (h : bz.f k a0 = some r) :
  Calls Tryd.prog 92 #[.int .i64 a0] w fun e w' => e = .returned (.string r) ∧ Below w.heap.size w w' := by
 have HB := aa.mk (Below.refl w.heap.size w); have H : ((bT.f k a0).bind fun t245 => (bz.l0 k a0 (⟨#[]⟩ : ByteArray) t245)) = some r := h; clear h; replace H := ob H; obtain ⟨t245, A2, H⟩ := H; have H' := aa.mk H; clear H; go_enter Tryd.func92, Tryd.ntmps92
 go_wp2_with (first | ((with_reducible refine ah (f := 81) rfl ?_); refine gl 6 Tryd.func81 #[.int .i64 a0] ?_; (with_reducible refine (bT.calls k a0 t245 _ A2.out).mono ?_); rintro e w3 ⟨rfl, hb⟩; refine ⟨_, rfl, ?_⟩; have n0_ := aa.mk (aj bl hb); clear HB; have HB := n0_; clear n0_; (try clear hb)))
 go_loopg [3, 4] k (fun kq v3 v4 w' => ∃ (x3_1 : ByteArray) (x4_1 : Int), v3 = .string x3_1 ∧ v4 = .int .u64 x4_1 ∧ aa (bz.l0 kq a0 x3_1 x4_1 = some r) ∧ aa (kq ≤ k) ∧ aa (Below w.heap.size w w'))
 case atStart => exact ⟨((⟨#[]⟩ : ByteArray)), (t245), pr, pr, H', ⟨Zd _⟩, ⟨bl⟩⟩
 case round =>
  clear H'; obtain ⟨x3_1, x4_1, rfl, rfl, HA, HK1, HB⟩ := hrel
  cases gk with
  | zero => exact absurd HA.out (by simp [bz.l0])
  | succ k1 =>
   have H := HA.out; clear HA; simp only [bz.l0] at H
   by_cases c4 : x3_1.toList = ([] : List UInt8)
   ·rw [if_pos c4] at H; obtain ⟨c4b0, c4b1⟩ := eqs c4; clear c4; obtain ⟨y246, hy246⟩ : ∃ y_ : List Int, y_ = (([(IntKind.u64.wrap (48 + (Int.tmod x4_1 10))) % 256] : List Int)) := ⟨_, rfl⟩; (first | replace H := hs hy246 H | rw [← hy246] at H)
    have Ny246 := aa.mk hy246; clear hy246
    replace H := it (c := (strOfNums y246).size + x3_1.size ≤ 9223372036854775807) H; obtain ⟨c5, H⟩ := H; have c5b0 := eq_true c5; have c5b1 := Za c5
    try have c5b2 : (9223372036854775807 < (strOfNums y246).size + x3_1.size) = False := eq_false (Nat.not_lt.2 c5)
    have H' := aa.mk H; clear H
    go_wp2_with (first | ((with_reducible refine aY (N := 17) rfl ?_); refine Kd.fJ (Kd.int .u8) _ 5 ?hg (N := 17) ?hd (xs := ([(IntKind.u64.wrap (48 + (Int.tmod x4_1 10))) % 256] : List Int)) (inner := [.int .u8 ((IntKind.u64.wrap (48 + (Int.tmod x4_1 10))) % 256)]) (ok := fun _ => True) (okp := fun _ => True) ?hr ?hp (fun _ hk => hk) trivial (Below.refl _ _) (Zd _) (by simp) ?_; (case hd => rfl); (case hg => rfl); (case hr => first | (go_simp; done) | (go_simp; rfl)); (case hp => exact (bJ.one (show Kd.M (Kd.int .u8) _ _ _ ((IntKind.u64.wrap (48 + (Int.tmod x4_1 10))) % 256) [.int .u8 ((IntKind.u64.wrap (48 + (Int.tmod x4_1 10))) % 256)] from rfl) (bJ.none _ _))); intro v247 w6 ho7 hb hg_ hnew_; clear hg_ hnew_; (first | rw [← Ny246.out] at ho7 | (simp only [Int.reduceToNat] at ho7; rw [← Ny246.out] at ho7)); have n_ := an2 (Kd.bU ho7 (aK bl)) (aj bl hb); clear HB; obtain ⟨HO248, HB⟩ := n_; clear hb ho7; have hcv8 := lD (P := Tryd.prog) Tryd.underlying134 Tryd.underlying5 Tryd.underlying9 (Kd.iM HO248.out)))
    go_roundg k1
    case measure => have := HK1.out; omega
    case rel => exact ⟨((strOfNums y246) ++ x3_1), (IntKind.u64.wrap (Int.tdiv x4_1 10)), pr, pr, H', ⟨by have := HK1.out; omega⟩, ⟨bl⟩⟩
   ·rw [if_neg c4] at H; obtain ⟨c4b0, c4b1⟩ := eqf c4
    by_cases c9 : x4_1 > 0
    ·rw [if_pos c9] at H; have c9b0 : decide (0 < x4_1) = true := Za c9; clear c9; obtain ⟨y249, hy249⟩ : ∃ y_ : List Int, y_ = (([(IntKind.u64.wrap (48 + (Int.tmod x4_1 10))) % 256] : List Int)) := ⟨_, rfl⟩; (first | replace H := hs hy249 H | rw [← hy249] at H)
     have Ny249 := aa.mk hy249; clear hy249
     replace H := it (c := (strOfNums y249).size + x3_1.size ≤ 9223372036854775807) H; obtain ⟨c10, H⟩ := H; have c10b0 := eq_true c10; have c10b1 := Za c10
     try have c10b2 : (9223372036854775807 < (strOfNums y249).size + x3_1.size) = False := eq_false (Nat.not_lt.2 c10)
     have H' := aa.mk H; clear H
     go_wp2_with (first | ((with_reducible refine aY (N := 17) rfl ?_); refine Kd.fJ (Kd.int .u8) _ 5 ?hg (N := 17) ?hd (xs := ([(IntKind.u64.wrap (48 + (Int.tmod x4_1 10))) % 256] : List Int)) (inner := [.int .u8 ((IntKind.u64.wrap (48 + (Int.tmod x4_1 10))) % 256)]) (ok := fun _ => True) (okp := fun _ => True) ?hr ?hp (fun _ hk => hk) trivial (Below.refl _ _) (Zd _) (by simp) ?_; (case hd => rfl); (case hg => rfl); (case hr => first | (go_simp; done) | (go_simp; rfl)); (case hp => exact (bJ.one (show Kd.M (Kd.int .u8) _ _ _ ((IntKind.u64.wrap (48 + (Int.tmod x4_1 10))) % 256) [.int .u8 ((IntKind.u64.wrap (48 + (Int.tmod x4_1 10))) % 256)] from rfl) (bJ.none _ _))); intro v250 w11 ho12 hb hg_ hnew_; clear hg_ hnew_; (first | rw [← Ny249.out] at ho12 | (simp only [Int.reduceToNat] at ho12; rw [← Ny249.out] at ho12)); have n_ := an2 (Kd.bU ho12 (aK bl)) (aj bl hb); clear HB; obtain ⟨HO251, HB⟩ := n_; clear hb ho12; have hcv13 := lD (P := Tryd.prog) Tryd.underlying134 Tryd.underlying5 Tryd.underlying9 (Kd.iM HO251.out)))
     go_roundg k1
     case measure => have := HK1.out; omega
     case rel => exact ⟨((strOfNums y249) ++ x3_1), (IntKind.u64.wrap (Int.tdiv x4_1 10)), pr, pr, H', ⟨by have := HK1.out; omega⟩, ⟨bl⟩⟩
    ·rw [if_neg c9] at H; have c9b0 : decide (0 < x4_1) = false := Zb c9; clear c9
     by_cases c14 : a0 < 0
     ·rw [if_pos c14] at H; have c14b0 := Za c14; clear c14
      replace H := it (c := 1 + x3_1.size ≤ 9223372036854775807) H; obtain ⟨c15, H⟩ := H; have c15b0 := eq_true c15; have c15b1 := Za c15
      try have c15b2 : (9223372036854775807 < 1 + x3_1.size) = False := eq_false (Nat.not_lt.2 c15)
      obtain rfl := Zg H; go_wp2; go_ret; exact ⟨pe, bl⟩
     ·rw [if_neg c14] at H; have c14b0 := Zb c14; clear c14; obtain rfl := Zg H; go_wp2; go_ret; exact ⟨pe, bl⟩
def aX.j0 : Nat → Bool → Int → Int → Int → ByteArray → Int → Int → Int → Option (ByteArray × Int)
 | 0, _, _, _, _, _, _, _, _ => none
 | k + 1, x31, x253000, x253001, x253002, x258000, x258001, x258002, x258003 => if x31 = true then (some ((⟨#[]⟩ : ByteArray), 61)) else (if x258001 > 0 then (if x258000.size + 1 ≤ 9223372036854775807 then ((bz.f k x253001).bind fun t258 => (if (x258000 ++ (⟨#[32]⟩ : ByteArray)).size + t258.size ≤ 9223372036854775807 then (if x258001 > 1 then (if ((x258000 ++ (⟨#[32]⟩ : ByteArray)) ++ t258).size + 1 ≤ 9223372036854775807 then ((bz.f k x253002).bind fun t259 => (if (((x258000 ++ (⟨#[32]⟩ : ByteArray)) ++ t258) ++ (⟨#[32]⟩ : ByteArray)).size + t259.size ≤ 9223372036854775807 then (some ((((x258000 ++ (⟨#[32]⟩ : ByteArray)) ++ t258) ++ (⟨#[32]⟩ : ByteArray)) ++ t259, 0)) else (none))) else (none)) else (some ((x258000 ++ (⟨#[32]⟩ : ByteArray)) ++ t258, 0))) else (none))) else (none)) else (if x258001 > 1 then (if x258000.size + 1 ≤ 9223372036854775807 then ((bz.f k x253002).bind fun t260 => (if (x258000 ++ (⟨#[32]⟩ : ByteArray)).size + t260.size ≤ 9223372036854775807 then (some ((x258000 ++ (⟨#[32]⟩ : ByteArray)) ++ t260, 0)) else (none))) else (none)) else (some (x258000, 0))))
def aX.f (k : Nat) (a0_0 : Int) (a0_1 : Int) (a0_2 : Int) : Option (ByteArray × Int) := (bV.f a0_0).bind fun bt253 => (if bt253.1.toList = ([] : List UInt8) then (aX.j0 k true a0_0 a0_1 a0_2 bt253.1 bt253.2.1 bt253.2.2.1 bt253.2.2.2) else (if bt253.2.1 < 1 then (if a0_1 = 0 then (if bt253.2.1 < 2 then (aX.j0 k (a0_2 != 0) a0_0 a0_1 a0_2 bt253.1 bt253.2.1 bt253.2.2.1 bt253.2.2.2) else (aX.j0 k false a0_0 a0_1 a0_2 bt253.1 bt253.2.1 bt253.2.2.1 bt253.2.2.2)) else (aX.j0 k true a0_0 a0_1 a0_2 bt253.1 bt253.2.1 bt253.2.2.1 bt253.2.2.2)) else (if bt253.2.1 < 2 then (aX.j0 k (a0_2 != 0) a0_0 a0_1 a0_2 bt253.1 bt253.2.1 bt253.2.2.1 bt253.2.2.2) else (aX.j0 k false a0_0 a0_1 a0_2 bt253.1 bt253.2.1 bt253.2.2.1 bt253.2.2.2))))
theorem aX.calls (k : Nat) (a0_0 : Int) (a0_1 : Int) (a0_2 : Int) (r1 : ByteArray) (r2 : Int) (w : World) (h : aX.f k a0_0 a0_1 a0_2 = some (r1, r2)) :
  Calls Tryd.prog 87 #[.agg #[.int .i64 a0_0, .int .i64 a0_1, .int .i64 a0_2]] w fun e w' => e = .returned (.tuple #[.string r1, .int .i64 r2]) ∧ Below w.heap.size w w' := by
 have hu43 := Tryd.underlying43; have hu94 := Tryd.underlying94; have HB := aa.mk (Below.refl w.heap.size w); have H : ((bV.f a0_0).bind fun bt253 => (if bt253.1.toList = ([] : List UInt8) then (aX.j0 k true a0_0 a0_1 a0_2 bt253.1 bt253.2.1 bt253.2.2.1 bt253.2.2.2) else (if bt253.2.1 < 1 then (if a0_1 = 0 then (if bt253.2.1 < 2 then (aX.j0 k (a0_2 != 0) a0_0 a0_1 a0_2 bt253.1 bt253.2.1 bt253.2.2.1 bt253.2.2.2) else (aX.j0 k false a0_0 a0_1 a0_2 bt253.1 bt253.2.1 bt253.2.2.1 bt253.2.2.2)) else (aX.j0 k true a0_0 a0_1 a0_2 bt253.1 bt253.2.1 bt253.2.2.1 bt253.2.2.2)) else (if bt253.2.1 < 2 then (aX.j0 k (a0_2 != 0) a0_0 a0_1 a0_2 bt253.1 bt253.2.1 bt253.2.2.1 bt253.2.2.2) else (aX.j0 k false a0_0 a0_1 a0_2 bt253.1 bt253.2.1 bt253.2.2.1 bt253.2.2.2))))) = some (r1, r2) := h; clear h; replace H := ob H; obtain ⟨⟨t253, t254, t255, t256⟩, A2, H⟩ := H; have HC3 := aa.mk H; clear H; go_enter Tryd.func87, Tryd.ntmps87
 go_upto_region 2 with (first | ((with_reducible refine aY (N := 1) rfl ?_); refine bx 1 #[.int .i64 a0_0, .int .i64 a0_1, .int .i64 a0_2] 43 ?_; intro gb252 hg w4 hbox hb; have n_ := an4 (aj bl hb) (hbox) (bg hg) (bg hg); clear HB; obtain ⟨HB, BK252, GW252, GE252⟩ := n_; clear hb hbox hg; obtain ⟨hcz5_0, hcz5_1, hcz5_2⟩ := bd3 BK252.out; have hfz5_0 := ai BK252.out 0; have hfz5_1 := ai BK252.out 1; have hfz5_2 := ai BK252.out 2) | ((with_reducible refine ah (f := 54) rfl ?_); refine gl 8 Tryd.func54 #[.int .i64 a0_0] ?_; (with_reducible refine (bV.calls a0_0 t253 t254 t255 t256 _ A2.out).mono ?_); rintro e w6 ⟨rfl, hb⟩; refine ⟨_, rfl, ?_⟩; have n_ := an2 (bu BK252.out hb) (aj bl hb); clear BK252 HB; obtain ⟨BK252, HB⟩ := n_; (try clear hb)) | ((with_reducible refine aY (N := 4) rfl ?_); refine bx 4 #[.string (⟨#[]⟩ : ByteArray), .int .i64 0, .int .i64 0, .int .i64 0] 94 ?_; intro gb257 hg w7 hbox hb; have n_ := an7 (bu BK252.out hb) (aj bl hb) (hbox) (bg hg) (bg hg) ((by rw [hg]; exact Nat.ne_of_lt (bF (g := gb252) (o := .cells #[.int .i64 a0_0, .int .i64 a0_1, .int .i64 a0_2] 43 (0, 0)) bk) : gb252 ≠ gb257)) ((by rw [hg]; exact Nat.ne_of_gt (bF (g := gb252) (o := .cells #[.int .i64 a0_0, .int .i64 a0_1, .int .i64 a0_2] 43 (0, 0)) bk) : gb257 ≠ gb252)); clear BK252 HB; obtain ⟨BK252, HB, BK257, GW257, GE257, NB252_257, NB257_252⟩ := n_; clear hb hbox hg; have hnb8 := NB257_252.out; have hnc8 := NB252_257.out; obtain ⟨hcz9_0, hcz9_1, hcz9_2, hcz9_3⟩ := bd4 BK257.out; have hfz9_0 := ai BK257.out 0; have hfz9_1 := ai BK257.out 1; have hfz9_2 := ai BK257.out 2; have hfz9_3 := ai BK257.out 3))
 (try simp only [Act.put, List.setIfInBounds_toArray, List.set_cons_zero, List.set_cons_succ])
 go_cut [31] (fun v31 wc => ∃ (kq : Nat) (x31_2 : Bool), v31 = .bool x31_2 ∧ aa (aX.j0 kq x31_2 a0_0 a0_1 a0_2 t253 t254 t255 t256 = some (r1, r2)) ∧ aa (kq ≤ k) ∧ aa (wc.heap[gb252]? = some (.cells #[.int .i64 a0_0, .int .i64 a0_1, .int .i64 a0_2] 43 (0, 0))) ∧ aa (wc.heap[gb257]? = some (.cells #[.string t253, .int .i64 t254, .int .i64 t255, .int .i64 t256] 94 (0, 0))) ∧ aa (Below w.heap.size w wc))
 case first =>
  have H := HC3.out; clear HC3
  by_cases c10 : t253.toList = ([] : List UInt8)
  ·rw [if_pos c10] at H; obtain ⟨c10b0, c10b1⟩ := eqs c10; clear c10; (first | rw [c10b0] | (simp only [dI, dK]; rw [c10b0]) | skip); have H' := aa.mk H; clear H; have hnb11 := NB257_252.out; have hnc11 := NB252_257.out; obtain ⟨hcz12_0, hcz12_1, hcz12_2, hcz12_3, hfz12_0, hfz12_1, hfz12_2, hfz12_3⟩ := bc4 BK257.out; go_wp2; go_meet
   case rel => exact ⟨_, (true), pr, H', ⟨by first | omega | exact Zd _⟩, ⟨by (with_reducible repeat (first | refine bI ?_ _ | refine bD ?_ | refine bv ?_ _)); refine dF ?_ NB252_257.out _; exact bf3 (bq BK252.out) NB252_257.out⟩, ⟨by exact bp4 (bq BK257.out)⟩, ⟨bl⟩⟩
  ·rw [if_neg c10] at H; obtain ⟨c10b0, c10b1⟩ := eqf c10; (first | rw [c10b0] | (simp only [dI, dK]; rw [c10b0]) | skip); have HH_ := aa.mk H; clear H; have hnb16 := NB257_252.out; have hnc16 := NB252_257.out; obtain ⟨hcz17_0, hcz17_1, hcz17_2, hcz17_3, hfz17_0, hfz17_1, hfz17_2, hfz17_3⟩ := bc4 BK257.out; have H := HH_.out; clear HH_
   by_cases c13 : t254 < 1
   ·rw [if_pos c13] at H; have c13b0 := Za c13; clear c13; have HH_ := aa.mk H; clear H; obtain ⟨hcz18_0, hcz18_1, hcz18_2, hfz18_0, hfz18_1, hfz18_2⟩ := bc3 BK252.out; have H := HH_.out; clear HH_
    by_cases c14 : a0_1 = 0
    ·rw [if_pos c14] at H; obtain ⟨c14b0, c14b1⟩ := eqs c14; clear c14; have HH_ := aa.mk H; clear H; have H := HH_.out; clear HH_
     by_cases c15 : t254 < 2
     ·rw [if_pos c15] at H; have c15b0 := Za c15; clear c15; have H' := aa.mk H; clear H; go_wp2; go_meet
      case rel => exact ⟨_, ((a0_2 != 0)), pr, H', ⟨by first | omega | exact Zd _⟩, ⟨by (with_reducible repeat (first | refine bI ?_ _ | refine bD ?_ | refine bv ?_ _)); refine dF ?_ NB252_257.out _; exact bf3 (bq BK252.out) NB252_257.out⟩, ⟨by exact bp4 (bq BK257.out)⟩, ⟨bl⟩⟩
     ·rw [if_neg c15] at H; have c15b0 := Zb c15; clear c15; have H' := aa.mk H; clear H; go_wp2; go_meet
      case rel => exact ⟨_, (false), pr, H', ⟨by first | omega | exact Zd _⟩, ⟨by (with_reducible repeat (first | refine bI ?_ _ | refine bD ?_ | refine bv ?_ _)); refine dF ?_ NB252_257.out _; exact bf3 (bq BK252.out) NB252_257.out⟩, ⟨by exact bp4 (bq BK257.out)⟩, ⟨bl⟩⟩
    ·rw [if_neg c14] at H; obtain ⟨c14b0, c14b1⟩ := eqf c14; have H' := aa.mk H; clear H; go_wp2; go_meet
     case rel => exact ⟨_, (true), pr, H', ⟨by first | omega | exact Zd _⟩, ⟨by (with_reducible repeat (first | refine bI ?_ _ | refine bD ?_ | refine bv ?_ _)); refine dF ?_ NB252_257.out _; exact bf3 (bq BK252.out) NB252_257.out⟩, ⟨by exact bp4 (bq BK257.out)⟩, ⟨bl⟩⟩
   ·rw [if_neg c13] at H; have c13b0 := Zb c13; clear c13; have HH_ := aa.mk H; clear H; have H := HH_.out; clear HH_
    by_cases c25 : t254 < 2
    ·rw [if_pos c25] at H; have c25b0 := Za c25; clear c25; have H' := aa.mk H; clear H; obtain ⟨hcz28_0, hcz28_1, hcz28_2, hfz28_0, hfz28_1, hfz28_2⟩ := bc3 BK252.out; go_wp2; go_meet
     case rel => exact ⟨_, ((a0_2 != 0)), pr, H', ⟨by first | omega | exact Zd _⟩, ⟨by (with_reducible repeat (first | refine bI ?_ _ | refine bD ?_ | refine bv ?_ _)); refine dF ?_ NB252_257.out _; exact bf3 (bq BK252.out) NB252_257.out⟩, ⟨by exact bp4 (bq BK257.out)⟩, ⟨bl⟩⟩
    ·rw [if_neg c25] at H; have c25b0 := Zb c25; clear c25; have H' := aa.mk H; clear H; go_wp2; go_meet
     case rel => exact ⟨_, (false), pr, H', ⟨by first | omega | exact Zd _⟩, ⟨by (with_reducible repeat (first | refine bI ?_ _ | refine bD ?_ | refine bv ?_ _)); refine dF ?_ NB252_257.out _; exact bf3 (bq BK252.out) NB252_257.out⟩, ⟨by exact bp4 (bq BK257.out)⟩, ⟨bl⟩⟩
 case rest =>
  clear HC3; (try clear hcz5_0); (try clear hcz5_1); (try clear hcz5_2); (try clear hcz9_0); (try clear hcz9_1); (try clear hcz9_2); (try clear hcz9_3); (try clear hfz5_0); (try clear hfz5_1); (try clear hfz5_2); (try clear hfz9_0); (try clear hfz9_1); (try clear hfz9_2); (try clear hfz9_3); obtain ⟨kq, x31_2, rfl, HA, HJ2, BK252, BK257, HB⟩ := hcut
  cases kq with
  | zero => exact absurd HA.out (by simp [aX.j0])
  | succ kj2 =>
   have H := HA.out; clear HA; simp only [aX.j0] at H
   by_cases c31 : x31_2 = true
   ·subst c31; rw [if_pos rfl] at H; simp only [Zl, Zm] at H; obtain ⟨rfl, rfl⟩ := H; go_wp2; go_ret2; exact ⟨pe, bl⟩
   ·replace c31 := Zj c31; subst c31; rw [if_neg (show ¬ (false = true) by decide)] at H
    by_cases c32 : t254 > 0
    ·rw [if_pos c32] at H; have c32b0 : decide (0 < t254) = true := Za c32; clear c32
     replace H := it (c := t253.size + 1 ≤ 9223372036854775807) H; obtain ⟨c33, H⟩ := H; have c33b0 := eq_true c33; have c33b1 := Za c33
     try have c33b2 : (9223372036854775807 < t253.size + 1) = False := eq_false (Nat.not_lt.2 c33)
     replace H := ob H; obtain ⟨t258, A34, H⟩ := H
     replace H := it (c := (t253 ++ (⟨#[32]⟩ : ByteArray)).size + t258.size ≤ 9223372036854775807) H; obtain ⟨c35, H⟩ := H; have c35b0 := eq_true c35; have c35b1 := Za c35
     try have c35b2 : (9223372036854775807 < (t253 ++ (⟨#[32]⟩ : ByteArray)).size + t258.size) = False := eq_false (Nat.not_lt.2 c35)
     try have c35b3 : (9223372036854775807 < t253.size + 1 + t258.size) = False := eq_false (Nat.not_lt.2 (show t253.size + 1 + t258.size ≤ 9223372036854775807 from by have h_ := c35; simp only [ByteArray.size_append] at h_; exact h_))
     by_cases c36 : t254 > 1
     ·rw [if_pos c36] at H; have c36b0 : decide (1 < t254) = true := Za c36; clear c36
      replace H := it (c := ((t253 ++ (⟨#[32]⟩ : ByteArray)) ++ t258).size + 1 ≤ 9223372036854775807) H; obtain ⟨c37, H⟩ := H; have c37b0 := eq_true c37; have c37b1 := Za c37
      try have c37b2 : (9223372036854775807 < ((t253 ++ (⟨#[32]⟩ : ByteArray)) ++ t258).size + 1) = False := eq_false (Nat.not_lt.2 c37)
      try have c37b3 : (9223372036854775807 < t253.size + 1 + t258.size + 1) = False := eq_false (Nat.not_lt.2 (show t253.size + 1 + t258.size + 1 ≤ 9223372036854775807 from by have h_ := c37; simp only [ByteArray.size_append] at h_; exact h_))
      replace H := ob H; obtain ⟨t259, A38, H⟩ := H
      replace H := it (c := (((t253 ++ (⟨#[32]⟩ : ByteArray)) ++ t258) ++ (⟨#[32]⟩ : ByteArray)).size + t259.size ≤ 9223372036854775807) H; obtain ⟨c39, H⟩ := H; have c39b0 := eq_true c39; have c39b1 := Za c39
      try have c39b2 : (9223372036854775807 < (((t253 ++ (⟨#[32]⟩ : ByteArray)) ++ t258) ++ (⟨#[32]⟩ : ByteArray)).size + t259.size) = False := eq_false (Nat.not_lt.2 c39)
      try have c39b3 : (9223372036854775807 < t253.size + 1 + t258.size + 1 + t259.size) = False := eq_false (Nat.not_lt.2 (show t253.size + 1 + t258.size + 1 + t259.size ≤ 9223372036854775807 from by have h_ := c39; simp only [ByteArray.size_append] at h_; exact h_))
      simp only [Zl, Zm] at H; obtain ⟨rfl, rfl⟩ := H; have hnb40 := NB257_252.out; have hnc40 := NB252_257.out; obtain ⟨hcz41_0, hcz41_1, hcz41_2, hcz41_3, hfz41_0, hfz41_1, hfz41_2, hfz41_3⟩ := bc4 BK257.out; obtain ⟨hcz42_0, hcz42_1, hcz42_2, hfz42_0, hfz42_1, hfz42_2⟩ := bc3 BK252.out
      go_wp2_with (first | ((with_reducible refine ah (f := 92) rfl ?_); refine gl 41 Tryd.func92 #[.int .i64 a0_1] ?_; (with_reducible refine (bz.calls kj2 a0_1 t258 _ A34.out).mono ?_); rintro e w43 ⟨rfl, hb⟩; refine ⟨_, rfl, ?_⟩; have n_ := an3 (bu BK252.out hb) (bu BK257.out hb) (aj bl hb); clear BK252 BK257 HB; obtain ⟨BK252, BK257, HB⟩ := n_; (try clear hb); obtain ⟨hcz44_0, hcz44_1, hcz44_2, hcz44_3, hfz44_0, hfz44_1, hfz44_2, hfz44_3⟩ := bc4 BK257.out; obtain ⟨hcz45_0, hcz45_1, hcz45_2⟩ := bd3 BK252.out; have hfz45_0 := ai BK252.out 0; have hfz45_1 := ai BK252.out 1; have hfz45_2 := ai BK252.out 2) | ((with_reducible refine ah (f := 92) rfl ?_); refine gl 50 Tryd.func92 #[.int .i64 a0_2] ?_; (with_reducible refine (bz.calls kj2 a0_2 t259 _ A38.out).mono ?_); rintro e w46 ⟨rfl, hb⟩; refine ⟨_, rfl, ?_⟩; have n_ := an3 (bu BK252.out hb) (bu BK257.out hb) (aj bl hb); clear BK252 BK257 HB; obtain ⟨BK252, BK257, HB⟩ := n_; (try clear hb)))
      go_ret2; exact ⟨pe, bl⟩
     ·rw [if_neg c36] at H; have c36b0 : decide (1 < t254) = false := Zb c36; clear c36; simp only [Zl, Zm] at H; obtain ⟨rfl, rfl⟩ := H; have hnb47 := NB257_252.out; have hnc47 := NB252_257.out; obtain ⟨hcz48_0, hcz48_1, hcz48_2, hcz48_3, hfz48_0, hfz48_1, hfz48_2, hfz48_3⟩ := bc4 BK257.out; obtain ⟨hcz49_0, hcz49_1, hcz49_2, hfz49_0, hfz49_1, hfz49_2⟩ := bc3 BK252.out
      go_wp2_with (first | ((with_reducible refine ah (f := 92) rfl ?_); refine gl 41 Tryd.func92 #[.int .i64 a0_1] ?_; (with_reducible refine (bz.calls kj2 a0_1 t258 _ A34.out).mono ?_); rintro e w50 ⟨rfl, hb⟩; refine ⟨_, rfl, ?_⟩; have n_ := an3 (bu BK252.out hb) (bu BK257.out hb) (aj bl hb); clear BK252 BK257 HB; obtain ⟨BK252, BK257, HB⟩ := n_; (try clear hb); obtain ⟨hcz51_0, hcz51_1, hcz51_2, hcz51_3⟩ := bd4 BK257.out; have hfz51_0 := ai BK257.out 0; have hfz51_1 := ai BK257.out 1; have hfz51_2 := ai BK257.out 2; have hfz51_3 := ai BK257.out 3))
      go_ret2; exact ⟨pe, bl⟩
    ·rw [if_neg c32] at H; have c32b0 : decide (0 < t254) = false := Zb c32; clear c32
     by_cases c52 : t254 > 1
     ·rw [if_pos c52] at H; have c52b0 : decide (1 < t254) = true := Za c52; clear c52
      replace H := it (c := t253.size + 1 ≤ 9223372036854775807) H; obtain ⟨c53, H⟩ := H; have c53b0 := eq_true c53; have c53b1 := Za c53
      try have c53b2 : (9223372036854775807 < t253.size + 1) = False := eq_false (Nat.not_lt.2 c53)
      replace H := ob H; obtain ⟨t260, A54, H⟩ := H
      replace H := it (c := (t253 ++ (⟨#[32]⟩ : ByteArray)).size + t260.size ≤ 9223372036854775807) H; obtain ⟨c55, H⟩ := H; have c55b0 := eq_true c55; have c55b1 := Za c55
      try have c55b2 : (9223372036854775807 < (t253 ++ (⟨#[32]⟩ : ByteArray)).size + t260.size) = False := eq_false (Nat.not_lt.2 c55)
      try have c55b3 : (9223372036854775807 < t253.size + 1 + t260.size) = False := eq_false (Nat.not_lt.2 (show t253.size + 1 + t260.size ≤ 9223372036854775807 from by have h_ := c55; simp only [ByteArray.size_append] at h_; exact h_))
      simp only [Zl, Zm] at H; obtain ⟨rfl, rfl⟩ := H; have hnb56 := NB257_252.out; have hnc56 := NB252_257.out; obtain ⟨hcz57_0, hcz57_1, hcz57_2, hcz57_3, hfz57_0, hfz57_1, hfz57_2, hfz57_3⟩ := bc4 BK257.out; obtain ⟨hcz58_0, hcz58_1, hcz58_2, hfz58_0, hfz58_1, hfz58_2⟩ := bc3 BK252.out
      go_wp2_with (first | ((with_reducible refine ah (f := 92) rfl ?_); refine gl 50 Tryd.func92 #[.int .i64 a0_2] ?_; (with_reducible refine (bz.calls kj2 a0_2 t260 _ A54.out).mono ?_); rintro e w59 ⟨rfl, hb⟩; refine ⟨_, rfl, ?_⟩; have n_ := an3 (bu BK252.out hb) (bu BK257.out hb) (aj bl hb); clear BK252 BK257 HB; obtain ⟨BK252, BK257, HB⟩ := n_; (try clear hb)))
      go_ret2; exact ⟨pe, bl⟩
     ·rw [if_neg c52] at H; have c52b0 : decide (1 < t254) = false := Zb c52; clear c52; simp only [Zl, Zm] at H; obtain ⟨rfl, rfl⟩ := H; have hnb60 := NB257_252.out; have hnc60 := NB252_257.out; obtain ⟨hcz61_0, hcz61_1, hcz61_2, hcz61_3, hfz61_0, hfz61_1, hfz61_2, hfz61_3⟩ := bc4 BK257.out; go_wp2; go_ret2; exact ⟨pe, bl⟩
def dC.f (l0_0 : List (S43)) (a0_1 : Int) (a0_2 : Int) (a0_3 : Bool) (a1 : Int) (a2 : Int) : Option (Bool) := if a1 ≥ 0 then (if a2 ≥ 1 then (if a2 ≤ a0_1 then (some (decide (a1 ≤ (wrap64 (a0_1 - a2))))) else (some false)) else (some false)) else (some false)
theorem dC.calls (A0_0 : Option Addr) (c0_0 : Nat) (l0_0 : List (S43)) (a0_1 : Int) (a0_2 : Int) (a0_3 : Bool) (a1 : Int) (a2 : Int) (r : Bool) (w : World) (hr0_0 : Kd.C k43 w A0_0 l0_0.length l0_0) (hc0_0 : l0_0.length ≤ c0_0) (h : dC.f l0_0 a0_1 a0_2 a0_3 a1 a2 = some r) :
  Calls Tryd.prog 88 #[.agg #[.slice A0_0 l0_0.length c0_0, .int .i64 a0_1, .int .i64 a0_2, .bool a0_3], .int .i64 a1, .int .i64 a2] w fun e w' => e = .returned (.bool r) ∧ Below w.heap.size w w' := by
 have hu46 := Tryd.underlying46; have HR0_0 := aa.mk hr0_0; have HC0_0 := aa.mk hc0_0; clear hr0_0 hc0_0; have HB := aa.mk (Below.refl w.heap.size w); have H : (if a1 ≥ 0 then (if a2 ≥ 1 then (if a2 ≤ a0_1 then (some (decide (a1 ≤ (wrap64 (a0_1 - a2))))) else (some false)) else (some false)) else (some false)) = some r := h; clear h; have HH_ := aa.mk H; clear H; go_enter Tryd.func88, Tryd.ntmps88
 go_wp2_with (first | ((with_reducible refine aY (N := 3) rfl ?_); refine bx 3 #[.slice A0_0 l0_0.length c0_0, .int .i64 a0_1, .int .i64 a0_2, .bool a0_3] 46 ?_; intro gb261 hg w7 hbox hb; have n_ := an4 (aj bl hb) (hbox) (bg hg) (bg hg); clear HB; obtain ⟨HB, BK261, GW261, GE261⟩ := n_; clear hb hbox hg; obtain ⟨hcz8_0, hcz8_1, hcz8_2, hcz8_3, hfz8_0, hfz8_1, hfz8_2, hfz8_3⟩ := bc4 BK261.out; refine ?roundEnd))
 case roundEnd =>
  have H := HH_.out; clear HH_
  by_cases c4 : a1 ≥ 0
  ·rw [if_pos c4] at H; have c4b0 : decide (0 ≤ a1) = true := Za c4; clear c4; have HH_ := aa.mk H; clear H; refine ?roundEnd; go_wp2
   case roundEnd =>
    have H := HH_.out; clear HH_
    by_cases c5 : a2 ≥ 1
    ·rw [if_pos c5] at H; have c5b0 : decide (1 ≤ a2) = true := Za c5; clear c5; have HH_ := aa.mk H; clear H; refine ?roundEnd; go_wp2
     case roundEnd =>
      have H := HH_.out; clear HH_
      by_cases c6 : a2 ≤ a0_1
      ·rw [if_pos c6] at H; have c6b0 := Za c6; clear c6; obtain rfl := Zg H; go_wp2; go_ret; exact ⟨pe, bl⟩
      ·rw [if_neg c6] at H; have c6b0 := Zb c6; clear c6; obtain rfl := Zg H; go_wp2; go_ret; exact ⟨pe, bl⟩
    ·rw [if_neg c5] at H; have c5b0 : decide (1 ≤ a2) = false := Zb c5; clear c5; obtain rfl := Zg H; go_wp2; go_ret; exact ⟨pe, bl⟩
  ·rw [if_neg c4] at H; have c4b0 : decide (0 ≤ a1) = false := Zb c4; clear c4; obtain rfl := Zg H; go_wp2; go_ret; exact ⟨pe, bl⟩
end Go.Proofs.YthckiolgpgplpaaDoor.YD
