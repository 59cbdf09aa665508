/- The walks of the machine, by hand. -/
import Derived.StillTailTactics
import Derived.Laws.CopyOwn
import Derived.Laws.AppendOwnNone
import Derived.Lib.SliceRun
import Derived.Test.YthckiolgpgplpaaDoorPx16
import Derived.Test.YthckiolgpgplpaaDoorQM
set_option linter.unusedVariables false
set_option linter.unusedSimpArgs false
set_option maxRecDepth 1000000
set_option maxHeartbeats 1000000
namespace Go.Proofs.YthckiolgpgplpaaDoor
open Go.RowKit YC YA YB YD YE
theorem pop_calls (w : World) (g sg n cap : Nat) (p a m vc : Value) (t : TypeId) (x : Int) (cur : Array Value) (hn : n + 1 ≤ cap) (hcap : cap ≤ maxLen)
  (hg : w.heap[g]? = some (.cells #[p, a, m, vc, .slice (some ⟨sg, 0, none⟩) (n + 1) cap] t (0, 0))) (hs : w.cell? ⟨sg, n, none⟩ = some (.int .i64 x)) :
  Calls Tryd.prog 37 #[.pointer (some ⟨g, 0, none⟩)] w fun e w' => e = .returned (.int .i64 x) ∧ w' = w.setCell ⟨g, 4, none⟩ (.slice (some ⟨sg, 0, none⟩) n cap) := by
 have c4 : w.cell? ⟨g, 4, none⟩ = some (.slice (some ⟨sg, 0, none⟩) (n + 1) cap) := by simp [World.cell?, hg]
 have f4 : w.frozen? ⟨g, 4, none⟩ = false := by simp [World.frozen?, hg]
 have h63 : cap ≤ 9223372036854775807 := by simp only [maxLen] at hcap; omega
 clear hg hcap
 go_enter Tryd.func37, Tryd.ntmps37
 go_wp2
 go_ret
 exact ⟨rfl, rfl⟩
theorem jd : (Tryd.prog.info? 2).map (fun i => (i.zero, i.size, i.bytes)) = some (some (.int .i64 0), 1, 8) := by kernel_rfl
theorem push_calls (w : World) (g n : Nat) (p a m vc vs : Value) (t : TypeId) (x : Int) (xs : List Value)
  (hg : w.heap[g]? = some (.cells #[p, a, m, vc, vs] t (0, 0))) (hs : w.ownsRow 0 2 1 vs n xs) (hne : vs.ownBlock ≠ some g) (hl : n + 1 ≤ 1000000) :
  Calls Tryd.prog 38 #[.pointer (some ⟨g, 0, none⟩), .int .i64 x] w fun e w' => e = .returned (.tuple #[]) ∧ ∃ v1 w1, w1.ownsRow 0 2 1 v1 (n + 1) (xs ++ [.int .i64 x]) ∧ w.grownBy w1 vs.ownBlock ∧ (v1.ownBlock = vs.ownBlock ∨ ∃ b, v1.ownBlock = some b ∧ w.heap.size ≤ b) ∧ w' = w1.setCell ⟨g, 4, none⟩ v1 := by
 have hlt : g < w.heap.size := (Array.getElem?_eq_some_iff.1 hg).1
 have c4 : w.cell? ⟨g, 4, none⟩ = some vs := by simp [World.cell?, hg]
 obtain ⟨A, l, c, rfl⟩ : ∃ A l c, vs = .slice A l c := by
  rcases hs.2 with ⟨h, _⟩ | ⟨_, _, _, h, _⟩ <;> exact ⟨_, _, _, h⟩
 go_enter Tryd.func38, Tryd.ntmps38
 go_wp2_with (at_builtin; refine eB 0 rfl (.tmp 8) (.tmp 10) 23 2 (.int .i64 0) 1 8 rfl Tryd.underlying23 jd rfl (by decide) (by decide) _ n xs [.int .i64 x] rfl rfl rfl ?c2 hs (Below.refl 0 w) (Nat.zero_le _) (by omega) ?grow)
 case c2 => intro u hu; simp at hu; subst hu; rfl
 case grow =>
  intro v1 w1 hown _ hgrow hat
  obtain ⟨g1, cap1, rfl⟩ : ∃ g1 cap1, v1 = .slice (some ⟨g1, 0, none⟩) (n + 1) cap1 := by
   rcases hown.2 with ⟨_, h⟩ | ⟨g1, cap1, _, h, _⟩
   ·omega
   ·exact ⟨g1, cap1, h⟩
  have hb := cZ hg hgrow (Ne.symm hne)
  have HAT := aa.mk hat; clear hat
  have k4 : w1.cell? ⟨g, 4, none⟩ = some (.slice A l c) := ae hb 4
  have f4 : w1.frozen? ⟨g, 4, none⟩ = false := ai hb 4
  clear hb
  go_wp2
  go_end0
  exact ⟨rfl, _, w1, hown, hgrow, HAT.out, rfl⟩
structure Mod (S : Nat → Prop) (w w' : World) : Prop where
 os : w'.os = w.os
 tape : w'.tape = w.tape
 output : w'.output = w.output
 size : w.heap.size ≤ w'.heap.size
 block : ∀ k, k < w.heap.size → ¬ S k → w'.heap[k]? = w.heap[k]?
theorem Mod.refl (S : Nat → Prop) (w : World) : Mod S w w := ⟨rfl, rfl, rfl, Zd _, fun _ _ _ => rfl⟩
theorem Mod.trans {S S1 : Nat → Prop} {a b c : World} (h : Mod S a b) (k : Mod S1 b c) (hS : ∀ i, i < a.heap.size → S1 i → S i) : Mod S a c :=
 ⟨k.os.trans h.os, k.tape.trans h.tape, k.output.trans h.output, Ze h.size k.size, fun i hi hn => (k.block i (Zf hi h.size) (fun hs => hn (hS i hi hs))).trans (h.block i hi hn)⟩
theorem Mod.mono {S S1 : Nat → Prop} {a b : World} (h : Mod S a b) (hS : ∀ i, i < a.heap.size → S i → S1 i) : Mod S1 a b :=
 ⟨h.os, h.tape, h.output, h.size, fun i hi hn => h.block i hi (fun hs => hn (hS i hi hs))⟩
theorem Mod.drew {S : Nat → Prop} {a w : World} (h : Mod S a w) : Mod S a w.drew := ⟨h.os, h.tape, h.output, h.size, h.block⟩
theorem Mod.alloc {S : Nat → Prop} {a w : World} (h : Mod S a w) (o : Obj) : Mod S a (w.alloc o) :=
 h.trans (S1 := fun _ => False) ⟨rfl, rfl, rfl, by simp, fun k hk _ => Below.heap_alloc _ _ _ hk⟩ (fun _ _ h => h.elim)
theorem Mod.setCell {S : Nat → Prop} {a w : World} (h : Mod S a w) {p : Addr} (hp : p.block < a.heap.size → S p.block) (u : Value) : Mod S a (w.setCell p u) :=
 h.trans (S1 := fun k => k = p.block) ⟨rfl, rfl, rfl, by simp [World.setCell], fun k hk hn => Below.heap_setCell _ _ _ _ hn⟩ (fun i hi e => by subst e; exact hp hi)
theorem Mod.grown {S : Nat → Prop} {a w w' : World} {row : Option Nat} (h : Mod S a w) (hg : w.grownBy w' row) (hr : ∀ k, row = some k → k < a.heap.size → S k) : Mod S a w' :=
 h.trans (S1 := fun k => some k = row) ⟨hg.os, hg.tape, hg.output, hg.size, fun k hk hn => hg.block k hk hn⟩ (fun i hi e => hr i e.symm hi)
theorem Mod.below {S : Nat → Prop} {a w w' : World} (h : Mod S w w') {B : Nat} (hB : B ≤ w.heap.size) (hS : ∀ k, S k → B ≤ k) : Below B w w' :=
 ⟨h.os, h.tape, h.output, h.size, fun k hk => h.block k (by omega) (fun hs => by have := hS k hs; omega)⟩
theorem Mod.of_below {w w' : World} (h : Below w.heap.size w w') (S : Nat → Prop) : Mod S w w' := ⟨h.os, h.tape, h.output, h.size, fun k hk _ => h.block k hk⟩

structure Fr where
 pr : Int
 at_ : Int
 mark : Int
 cells : List Int
 stack : List Int
def ints (l : List Int) : List Value := l.map (Value.int .i64)
theorem ja (l : List Int) : (ints l).length = l.length := by simp [ints]
structure Ho where
 g : Nat
 vc : Value
 vs : Value
def Ho.blocks (h : Ho) : List Nat := h.g :: (h.vc.ownBlock.toList ++ h.vs.ownBlock.toList)
def Ho.ptr (h : Ho) : Value := .pointer (some ⟨h.g, 0, none⟩)
structure dn (w : World) (h : Ho) (f : Fr) : Prop where
 blk : w.heap[h.g]? = some (.cells #[.int .i64 f.pr, .int .i64 f.at_, .int .i64 f.mark, h.vc, h.vs] 73 (0, 0))
 cs : w.ownsRow 0 2 1 h.vc f.cells.length (ints f.cells)
 st : w.ownsRow 0 2 1 h.vs f.stack.length (ints f.stack)
 nd : h.blocks.Nodup
theorem dn.lt {w : World} {h : Ho} {f : Fr} (H : dn w h f) : ∀ k ∈ h.blocks, k < w.heap.size := by
 intro k hk
 simp only [Ho.blocks, List.mem_cons, Zn, Option.mem_toList] at hk
 rcases hk with rfl | hk | hk
 ·exact (Array.getElem?_eq_some_iff.1 H.blk).1
 ·exact (H.cs.lt k hk).2
 ·exact (H.st.lt k hk).2
theorem dn.kept {w w' : World} {h : Ho} {f : Fr} (H : dn w h f) (hk : ∀ k ∈ h.blocks, w'.heap[k]? = w.heap[k]?) : dn w' h f :=
 ⟨(hk _ (by simp [Ho.blocks])).trans H.blk, bZ H.cs (fun k e => hk k (by simp [Ho.blocks, e])), bZ H.st (fun k e => hk k (by simp [Ho.blocks, e])), H.nd⟩
theorem dn.mod {S : Nat → Prop} {w w' : World} {h : Ho} {f : Fr} (H : dn w h f) (hm : Mod S w w') (hS : ∀ k ∈ h.blocks, ¬ S k) : dn w' h f :=
 H.kept (fun k hk => hm.block k (H.lt k hk) (hS k hk))

theorem dn.vc_ne {w : World} {h : Ho} {f : Fr} (H : dn w h f) : h.vc.ownBlock ≠ some h.g := by
 intro e
 have := H.nd
 simp [Ho.blocks, e] at this
theorem dn.vs_ne {w : World} {h : Ho} {f : Fr} (H : dn w h f) : h.vs.ownBlock ≠ some h.g := by
 intro e
 have := H.nd
 simp [Ho.blocks, e] at this
theorem dn.pop {w : World} {h : Ho} {f : Fr} (H : dn w h f) (s : List Int) (x : Int) (hs : f.stack = s ++ [x]) :
  Calls Tryd.prog 37 #[h.ptr] w fun e w' => e = .returned (.int .i64 x) ∧ ∃ vs', vs'.ownBlock = h.vs.ownBlock ∧ dn w' { h with vs := vs' } { f with stack := s } ∧ Mod (fun k => k = h.g) w w' := by
 obtain ⟨g, vc, vs⟩ := h
 have hst := H.st
 have hlen : f.stack.length = s.length + 1 := by rw [hs]; simp
 have hvn := H.vs_ne
 rcases hst.2 with ⟨_, h0⟩ | ⟨sg, cap, cur, rfl, _, hh, hn, hcap, hsz, htk⟩
 ·omega
 have hx : w.cell? ⟨sg, s.length, none⟩ = some (.int .i64 x) := by
  rw [ae hh, ← Array.getElem?_toList]
  have e1 : (cur.toList.take (f.stack.length * 1))[s.length]? = some (.int .i64 x) := by rw [htk, hs]; simp [ints]
  rw [List.getElem?_take, if_pos (by omega)] at e1
  exact e1
 simp only [hlen] at *
 have hb := H.blk
 refine (pop_calls w g sg s.length cap _ _ _ vc 73 x cur (by omega) hcap hb hx).mono ?_
 rintro e w' ⟨rfl, rfl⟩
 have hsg : sg ≠ g := by simpa [Value.ownBlock] using hvn
 refine ⟨rfl, .slice (some ⟨sg, 0, none⟩) s.length cap, rfl, ⟨dH hb 4 _, bZ H.cs (fun k e => Below.heap_setCell _ _ _ _ ?_), ⟨by simp [ints], .inr ⟨sg, cap, cur, rfl, Nat.zero_le _, (Below.heap_setCell _ _ _ _ hsg).trans hh, (by show s.length ≤ cap; omega), hcap, hsz, ?_⟩⟩, H.nd⟩, (Mod.refl (fun k => k = g) w).setCell (p := ⟨g, 4, none⟩) (fun _ => rfl) _⟩
 ·rintro rfl; exact H.vc_ne e
 ·have e2 := congrArg (List.take s.length) htk
  rw [List.take_take] at e2
  simp [hs, ints] at e2 ⊢
  exact e2
theorem dn.push {w : World} {h : Ho} {f : Fr} (H : dn w h f) (x : Int) (hl : f.stack.length + 1 ≤ 1000000) :
  Calls Tryd.prog 38 #[h.ptr, .int .i64 x] w fun e w' => e = .returned (.tuple #[]) ∧ ∃ vs', (∀ k, vs'.ownBlock = some k → h.vs.ownBlock = some k ∨ w.heap.size ≤ k) ∧ dn w' { h with vs := vs' } { f with stack := f.stack ++ [x] } ∧ Mod (fun k => k = h.g ∨ h.vs.ownBlock = some k) w w' := by
 obtain ⟨g, vc, vs⟩ := h
 have hvn := H.vs_ne
 have hb := H.blk
 refine (push_calls w g f.stack.length _ _ _ vc vs 73 x (ints f.stack) hb H.st hvn hl).mono ?_
 rintro e w' ⟨rfl, v1, w1, hown, hgr, hat, rfl⟩
 have hm : Mod (fun k => vs.ownBlock = some k) w w1 := (Mod.refl _ w).grown hgr (fun k e _ => e)
 have hlt := H.lt
 have hgl : g < w.heap.size := hlt g (by simp [Ho.blocks])
 have hv : ∀ k, v1.ownBlock = some k → vs.ownBlock = some k ∨ w.heap.size ≤ k := by
  intro k hk
  rcases hat with h | ⟨b, h, hb⟩
  ·exact .inl (h ▸ hk)
  ·have : b = k := Zg (h.symm.trans hk)
   exact .inr (this ▸ hb)
 have hv1 : v1.ownBlock ≠ some g := by
  intro e
  rcases hv g e with h | h
  ·exact hvn h
  ·omega
 have hb1 := cZ hb hgr (Ne.symm hvn)
 refine ⟨rfl, v1, hv, ⟨dH hb1 4 _, ?_, ?_, ?_⟩, (hm.mono (fun _ _ h => .inr h)).setCell (p := ⟨g, 4, none⟩) (fun _ => .inl rfl) _⟩
 ·refine bZ H.cs (fun k e => ?_)
  rw [Below.heap_setCell _ _ _ _ (by rintro rfl; exact H.vc_ne e)]
  exact hm.block k (hlt k (by simp [Ho.blocks, e])) (fun e' => by
   have := H.nd
   simp [Ho.blocks, e, e'] at this)
 ·have : (f.stack ++ [x]).length = f.stack.length + 1 := by simp
  show World.ownsRow _ 0 2 1 v1 (f.stack ++ [x]).length (ints (f.stack ++ [x]))
  rw [this, show ints (f.stack ++ [x]) = ints f.stack ++ [.int .i64 x] by simp [ints]]
  exact bZ hown (fun k e => Below.heap_setCell _ _ _ _ (by rintro rfl; exact hv1 e))
 ·have nd := H.nd
  have hc : ∀ k, vc.ownBlock = some k → v1.ownBlock ≠ some k := fun k e e' => by
   rcases hv k e' with h | h
   ·simp [Ho.blocks, e, h] at nd
   ·have := hlt k (by simp [Ho.blocks, e])
    omega
  have hgc := H.vc_ne
  show (Ho.blocks ⟨g, vc, v1⟩).Nodup
  rcases h1 : vc.ownBlock with _ | k1 <;> rcases h2 : v1.ownBlock with _ | k2 <;> simp [Ho.blocks, h1, h2] at *
  ·exact Ne.symm hv1
  ·exact Ne.symm hgc
  ·exact ⟨⟨Ne.symm hgc, Ne.symm hv1⟩, Ne.symm hc⟩
def iK (op a b : Int) : Int × Int :=
 if op = 7 then (wrap64 (a + b), 0) else if op = 8 then (wrap64 (a - b), 0) else if op = 9 then (wrap64 (a * b), 0)
 else if op = 10 then (if b = 0 then (0, 1) else (wrap64 (Int.tdiv a b), 0)) else if op = 11 then (if b = 0 then (0, 1) else (Int.tmod a b, 0))
 else if op = 12 then (if a < b then 1 else 0, 0) else if op = 13 then (if a ≤ b then 1 else 0, 0) else (if a = b then 1 else 0, 0)
def fe : List Int → Nat → Nat → List Int
 | l, _, 0 => l
 | l, n, m + 1 => fe (l.set n 0) (n + 1) m
theorem iq : ∀ (m : Nat) (l : List Int) (n : Nat), (fe l n m).length = l.length
 | 0, _, _ => rfl
 | m + 1, l, n => by unfold fe; rw [iq m, List.length_set]
def cO (f : Fr) (i : S43) : Fr × Int :=
 if i.f0 = 1 then ({ f with stack := f.stack ++ [i.f1] }, 0)
 else if i.f0 = 2 then ({ f with stack := f.stack ++ [f.cells.getD i.f1.toNat 0] }, 0)
 else if i.f0 = 3 then ({ f with cells := f.cells.set i.f1.toNat (f.stack.getLastD 0), stack := f.stack.dropLast }, 0)
 else if i.f0 = 4 then (if f.stack.getLastD 0 < 0 ∨ i.f2 ≤ f.stack.getLastD 0 then ({ f with stack := f.stack.dropLast }, 2) else ({ f with stack := f.stack.dropLast ++ [f.cells.getD (i.f1 + f.stack.getLastD 0).toNat 0] }, 0))
 else if i.f0 = 5 then (if f.stack.dropLast.getLastD 0 < 0 ∨ i.f2 ≤ f.stack.dropLast.getLastD 0 then ({ f with stack := f.stack.dropLast.dropLast }, 2) else ({ f with cells := f.cells.set (i.f1 + f.stack.dropLast.getLastD 0).toNat (f.stack.getLastD 0), stack := f.stack.dropLast.dropLast }, 0))
 else if i.f0 = 6 then ({ f with cells := fe f.cells i.f1.toNat i.f2.toNat }, 0)
 else if i.f0 = 15 then ({ f with stack := f.stack.dropLast ++ [if f.stack.getLastD 0 = 0 then 1 else 0] }, 0)
 else if i.f0 = 16 then ({ f with stack := f.stack.dropLast ++ [wrap64 (-(f.stack.getLastD 0))] }, 0)
 else if i.f0 = 17 then ({ f with at_ := i.f1 }, 0)
 else if i.f0 = 18 then ({ f with stack := f.stack.dropLast, at_ := if f.stack.getLastD 0 = 0 then i.f1 else f.at_ }, 0)
 else if i.f0 = 23 then ({ f with stack := f.stack.dropLast }, if f.stack.getLastD 0 = 0 then 3 else 0)
 else if i.f0 = 25 then ({ f with stack := f.stack.dropLast }, 0)
 else ({ f with stack := f.stack.dropLast.dropLast ++ [(iK i.f0 (f.stack.dropLast.getLastD 0) (f.stack.getLastD 0)).1] }, (iK i.f0 (f.stack.dropLast.getLastD 0) (f.stack.getLastD 0)).2)

structure Mc where
 codes : List S46
 frames : List Fr
 input : List Int
 read : Nat
 fuel : Int
 ticks : Int
 tick : Int × Int × Int × Int
 events : List (Int × Int)
 ended : Bool
def Mc.endM (m : Mc) (k n : Int) : Mc := { m with events := m.events ++ [(k, n)], ended := true }
def Mc.ins (m : Mc) (f : Fr) : S43 := az (au m.codes f.pr).f0 f.at_
def iV (l : List S46) (k : Int) (args : List Int) : Fr := ⟨k, 0, -1, args ++ List.replicate ((au l k).f1.toNat - args.length) 0, []⟩
def Mc.dZ (m : Mc) (k : Int) (args : List Int) : Mc := { m with frames := m.frames ++ [iV m.codes k args] }
def gL (l : List Fr) (x : Int) : List Fr := l.dropLast ++ (match l.getLast? with | none => [] | some g => [{ g with stack := g.stack ++ [x] }])
def Mc.does (m : Mc) (r : List Fr) (f : Fr) (i : S43) : Mc × Bool :=
 if i.f0 = 19 then
  (if r.length + 1 = 50 then ({ m with frames := r ++ [{ f with stack := f.stack.take (f.stack.length - i.f2.toNat) }] }.endM 4 4, false)
  else ({ m with frames := r ++ [{ f with stack := f.stack.take (f.stack.length - i.f2.toNat) }] }.dZ i.f1 (f.stack.drop (f.stack.length - i.f2.toNat)), false))
 else if i.f0 = 20 then
  (if r = [] then ({ m with frames := [] }.endM 3 0, false) else if i.f1 = 1 then ({ m with frames := gL r (f.stack.getLastD 0) }, false) else ({ m with frames := r }, false))
 else if i.f0 = 21 then ({ m with frames := r ++ [{ f with stack := f.stack.dropLast }], events := m.events ++ [(1, f.stack.getLastD 0)] }, false)
 else if i.f0 = 22 then
  (if m.read = m.input.length then ({ m with frames := r ++ [f] }.endM 4 5, false)
  else ({ m with frames := r ++ [{ f with stack := f.stack ++ [m.input.getD m.read 0] }], events := m.events ++ [(2, m.input.getD m.read 0)], read := m.read + 1 }, false))
 else if i.f0 = 24 then
  (if m.fuel = 0 then ({ m with frames := r ++ [f] }.endM 5 0, false)
  else ({ m with frames := r ++ [{ f with mark := i.f1 }], fuel := m.fuel - 1, ticks := m.ticks + 1, tick := (i.f2, f.pr, i.f1, (r.length + 1 : Nat)) }, true))
 else if (cO f i).2 = 0 then ({ m with frames := r ++ [(cO f i).1] }, false) else ({ m with frames := r ++ [(cO f i).1] }.endM 4 (cO f i).2, false)
def Mc.one (m : Mc) : Mc × Bool :=
 match m.frames.getLast? with
 | none => (m, false)
 | some f => m.does m.frames.dropLast { f with at_ := f.at_ + 1 } (m.ins f)
def Mc.steps : Nat → Mc → Mc × Bool
 | 0, m => (m.endM 5 0, false)
 | k + 1, m => if m.one.2 = true then (m.one.1, true) else if m.one.1.ended = true then (m.one.1, false) else Mc.steps k m.one.1
def Mc.step (m : Mc) : Mc × Bool := if m.ended = true then (m, false) else m.steps 1048576
inductive je {α β : Type} (R : α → β → Prop) : List α → List β → Prop
 | nil : je R [] []
 | cons {a : α} {b : β} {l : List α} {m : List β} : R a b → je R l m → je R (a :: l) (b :: m)
theorem je.fB {α β : Type} {R : α → β → Prop} {l : List α} {m : List β} (h : je R l m) : l.length = m.length := by
 induction h with
 | nil => rfl
 | cons _ _ ih => simp [ih]
/-! Lists without a repetition. -/
theorem ji {L1 L2 : List Nat} {x x' : Option Nat} {N : Nat} (h : (L1 ++ (x.toList ++ L2)).Nodup) (hN : ∀ k ∈ L1 ++ (x.toList ++ L2), k < N) (hx : ∀ k, x' = some k → x = some k ∨ N ≤ k) : (L1 ++ (x'.toList ++ L2)).Nodup := by
 rw [List.nodup_append, List.nodup_append] at h ⊢
 obtain ⟨h1, ⟨h2, h3, h4⟩, h5⟩ := h
 refine ⟨h1, ⟨?_, h3, fun a ha b hb => ?_⟩, fun a ha b hb => ?_⟩
 ·cases x' <;> simp
 ·have ea : x' = some a := by simpa using ha
  rcases hx a ea with e | e
  ·exact h4 a (by simpa using e) b hb
  ·have := hN b (by simp [hb]); omega
 ·rcases Zn.1 hb with hb | hb
  ·have eb : x' = some b := by simpa using hb
   rcases hx b eb with e | e
   ·exact h5 a ha b (by simp [e])
   ·have := hN a (by simp [ha]); omega
  ·exact h5 a ha b (by simp [hb])
structure MHo where
 g : Nat
 cv : Value
 fv : Value
 iv : Value
 ev : Value
 hs : List Ho
def MHo.own (o : MHo) : List Nat := [o.g] ++ (o.fv.ownBlock.toList ++ (o.ev.ownBlock.toList ++ o.hs.flatMap Ho.blocks))
def MHo.ptr (o : MHo) : Value := .pointer (some ⟨o.g, 0, none⟩)
def evs (l : List (Int × Int)) : List Value := l.flatMap fun p => [.int .i64 p.1, .int .i64 p.2]
theorem oU (l : List (Int × Int)) (k x : Int) : evs (l ++ [(k, x)]) = evs l ++ [.int .i64 k, .int .i64 x] := by simp [evs]
def qI (o : MHo) (m : Mc) : Array Value := #[o.cv, o.fv, o.iv, .int .i64 (m.read : Int), .int .i64 m.fuel, .int .i64 m.ticks, .int .i64 m.tick.1, .int .i64 m.tick.2.1, .int .i64 m.tick.2.2.1, .int .i64 m.tick.2.2.2, o.ev, .bool m.ended]
structure MOn (Rd : Nat → Prop) (w : World) (o : MHo) (m : Mc) : Prop where
 blk : w.heap[o.g]? = some (.cells (qI o m) 67 (0, 0))
 fr : w.ownsRow 0 69 1 o.fv m.frames.length (o.hs.map Ho.ptr)
 ev : w.ownsRow 0 38 2 o.ev m.events.length (evs m.events)
 frs : je (dn w) o.hs m.frames
 nd : o.own.Nodup
 rd : ∀ k ∈ o.own, ¬ Rd k
 low : ∀ k, Rd k → k < w.heap.size
 cs : Kd.V k46 46 w 0 Rd o.cv m.codes
 inp : Kd.V (Kd.int .i64) 2 w 0 Rd o.iv m.input
section
variable {Rd : Nat → Prop} {w w' : World} {o : MHo} {m : Mc}
theorem iD {hs : List Ho} {fs : List Fr} (h : je (dn w) hs fs) : ∀ k ∈ hs.flatMap Ho.blocks, k < w.heap.size := by
 induction h with
 | nil => intro k hk; simp at hk
 | cons h _ ih =>
  intro k hk
  rw [List.flatMap_cons, Zn] at hk
  rcases hk with hk | hk
  ·exact h.lt k hk
  ·exact ih k hk
theorem fU {hs : List Ho} {fs : List Fr} (h : je (dn w) hs fs) (hk : ∀ k ∈ hs.flatMap Ho.blocks, w'.heap[k]? = w.heap[k]?) : je (dn w') hs fs := by
 induction h with
 | nil => exact .nil
 | cons h _ ih =>
  rw [List.flatMap_cons] at hk
  exact .cons (h.kept (fun k hk' => hk k (List.mem_append_left _ hk'))) (ih (fun k hk' => hk k (List.mem_append_right _ hk')))
theorem MOn.lt (H : MOn Rd w o m) : ∀ k ∈ o.own, k < w.heap.size := by
 intro k hk
 simp only [MHo.own, Zn, List.mem_singleton, Option.mem_toList] at hk
 rcases hk with rfl | hk | hk | hk
 ·exact bF H.blk
 ·exact (H.fr.lt k hk).2
 ·exact (H.ev.lt k hk).2
 ·exact iD H.frs k hk
theorem MOn.kept (H : MOn Rd w o m) (hsz : w.heap.size ≤ w'.heap.size) (hk : ∀ k, k ∈ o.own ∨ Rd k → w'.heap[k]? = w.heap[k]?) : MOn Rd w' o m := by
 have ho : ∀ k, k ∈ o.own → w'.heap[k]? = w.heap[k]? := fun k h => hk k (.inl h)
 exact ⟨(ho _ (by simp [MHo.own])).trans H.blk, bZ H.fr (fun k e => ho k (by simp [MHo.own, e])), bZ H.ev (fun k e => ho k (by simp [MHo.own, e])),
  fU H.frs (fun k h => ho k (by simp only [MHo.own, Zn]; exact .inr (.inr (.inr h)))), H.nd, H.rd, fun k h => Zf (H.low k h) hsz,
  Kd.jJ H.cs (fun k h _ => hk k (.inr h)), Kd.jJ H.inp (fun k h _ => hk k (.inr h))⟩
theorem MOn.mod {S : Nat → Prop} (H : MOn Rd w o m) (hM : Mod S w w') (hS : ∀ k, k ∈ o.own ∨ Rd k → ¬ S k) : MOn Rd w' o m :=
 H.kept hM.size (fun k h => hM.block k (h.elim (H.lt k) (H.low k)) (hS k h))
theorem MOn.below (H : MOn Rd w o m) (hb : Below w.heap.size w w') : MOn Rd w' o m := H.mod (Mod.of_below hb (fun _ => False)) (fun _ _ h => h)
theorem MOn.alloc (H : MOn Rd w o m) (b : Obj) : MOn Rd (w.alloc b) o m := H.below (bN (Below.refl _ _) b)
theorem MOn.drew (H : MOn Rd w o m) : MOn Rd w.drew o m := H.below (iF (Below.refl _ _))
theorem MOn.drewN (H : MOn Rd w o m) (k : Nat) : MOn Rd (w.drewN k) o m := H.below (aW (Below.refl _ _) k)

theorem iX {hs0 : List Ho} {h : Ho} {r : List Fr} {f : Fr} (H : je (dn w) (hs0 ++ [h]) (r ++ [f])) : je (dn w) hs0 r ∧ dn w h f := by
 have hl : hs0.length = r.length := by have := H.fB; simp at this; exact this
 induction hs0 generalizing r with
 | nil =>
  obtain rfl : r = [] := List.length_eq_zero_iff.1 (by simpa using hl.symm)
  cases H with | cons h _ => exact ⟨.nil, h⟩
 | cons a t ih =>
  cases r with
  | nil => simp at hl
  | cons b u =>
   cases H with
   | cons h1 h2 =>
    obtain ⟨a1, a2⟩ := ih h2 (by simpa using hl)
    exact ⟨.cons h1 a1, a2⟩
theorem jX {hs0 : List Ho} {h : Ho} {r : List Fr} {f : Fr} (H : je (dn w) hs0 r) (h1 : dn w h f) : je (dn w) (hs0 ++ [h]) (r ++ [f]) := by
 induction H with
 | nil => exact .cons h1 .nil
 | cons a _ ih => exact .cons a ih
theorem MOn.split (H : MOn Rd w o m) {r : List Fr} {f : Fr} (hf : m.frames = r ++ [f]) : ∃ hs0 h, o.hs = hs0 ++ [h] ∧ hs0.length = r.length := by
 have hl := H.frs.fB
 rcases List.eq_nil_or_concat o.hs with e | ⟨s, x, e⟩
 ·rw [e, hf] at hl; simp at hl
 ·refine ⟨s, x, by simpa using e, ?_⟩
  rw [e, hf] at hl; simpa using hl
theorem MOn.top (H : MOn Rd w o m) {hs0 : List Ho} {h : Ho} {r : List Fr} {f : Fr} (ho : o.hs = hs0 ++ [h]) (hf : m.frames = r ++ [f]) : dn w h f := by
 have := H.frs
 rw [ho, hf] at this
 exact (iX this).2
def Sub (w : World) (o o' : MHo) : Prop := o'.g = o.g ∧ ∀ k ∈ o'.own, k ∈ o.own ∨ w.heap.size ≤ k
theorem Sub.refl (w : World) (o : MHo) : Sub w o o := ⟨rfl, fun _ h => .inl h⟩
theorem Sub.trans {o1 o2 : MHo} (h : Sub w o o1) (hs : w.heap.size ≤ w'.heap.size) (h' : Sub w' o1 o2) : Sub w o o2 :=
 ⟨h'.1.trans h.1, fun k hk => (h'.2 k hk).elim (h.2 k) (fun e => .inr (Ze hs e))⟩
def gN (Rd : Nat → Prop) (w : World) (o : MHo) (m : Mc) (v : Value) (e : Ending) (w' : World) : Prop :=
 e = .returned v ∧ ∃ o', Sub w o o' ∧ MOn Rd w' o' m ∧ Mod (fun k => k ∈ o.own) w w'
theorem kN {hs0 : List Ho} {h : Ho} (ho : o.hs = hs0 ++ [h]) : o.own = ([o.g] ++ (o.fv.ownBlock.toList ++ (o.ev.ownBlock.toList ++ (hs0.flatMap Ho.blocks ++ (h.g :: h.vc.ownBlock.toList))))) ++ (h.vs.ownBlock.toList ++ []) := by
 simp [MHo.own, ho, Ho.blocks]
theorem apart {L1 L2 : List Nat} (h : (L1 ++ L2).Nodup) {k : Nat} (h1 : k ∈ L1) (h2 : k ∈ L2) : False := (List.nodup_append.1 h).2.2 k h1 k h2 rfl
theorem iT (H : MOn Rd w o m) {hs0 : List Ho} {h : Ho} (ho : o.hs = hs0 ++ [h]) : ∀ k ∈ h.blocks, k ≠ o.g ∧ o.fv.ownBlock ≠ some k ∧ o.ev.ownBlock ≠ some k ∧ k ∉ hs0.flatMap Ho.blocks := by
 have e : o.own = ([o.g] ++ (o.fv.ownBlock.toList ++ (o.ev.ownBlock.toList ++ hs0.flatMap Ho.blocks))) ++ h.blocks := by simp [MHo.own, ho]
 have nd := H.nd
 rw [e] at nd
 intro k hk
 exact ⟨fun q => apart nd (by simp [q]) hk, fun q => apart nd (by simp [q]) hk, fun q => apart nd (by simp [q]) hk, fun q => apart nd (by simp only [Zn]; exact .inr (.inr (.inr q))) hk⟩
theorem iO {hs0 : List Ho} {h : Ho} (ho : o.hs = hs0 ++ [h]) : ∀ k ∈ h.blocks, k ∈ o.own := by
 intro k hk
 simp only [MHo.own, ho, List.flatMap_append, List.flatMap_cons, List.flatMap_nil, List.append_nil, Zn]
 exact .inr (.inr (.inr (.inr hk)))
theorem MOn.lw (H : MOn Rd w o m) {hs0 : List Ho} {h : Ho} {r : List Fr} {f f' : Fr} {vs' : Value} (ho : o.hs = hs0 ++ [h]) (hf : m.frames = r ++ [f]) (hM : Mod (fun k => k ∈ h.blocks) w w')
  (hv : ∀ k, vs'.ownBlock = some k → h.vs.ownBlock = some k ∨ w.heap.size ≤ k) (HF : dn w' { h with vs := vs' } f') :
  MOn Rd w' { o with hs := hs0 ++ [{ h with vs := vs' }] } { m with frames := r ++ [f'] } := by
 have hap := iT H ho
 have hown := iO ho
 have hlt := H.lt
 have hb : ∀ k, k < w.heap.size → k ∉ h.blocks → w'.heap[k]? = w.heap[k]? := fun k h1 h2 => hM.block k h1 h2
 have hfrs := H.frs
 rw [ho, hf] at hfrs
 obtain ⟨f1, f2⟩ := iX hfrs
 have hpt : (hs0 ++ [{ h with vs := vs' }]).map Ho.ptr = o.hs.map Ho.ptr := by rw [ho]; simp [Ho.ptr]
 have hl : (r ++ [f']).length = m.frames.length := by rw [hf]; simp
 have e' := kN (o := { o with hs := hs0 ++ [{ h with vs := vs' }] }) rfl
 have e := kN ho
 have hnew : ∀ k ∈ MHo.own { o with hs := hs0 ++ [{ h with vs := vs' }] }, k ∈ o.own ∨ w.heap.size ≤ k := by
  intro k hk
  rw [e', Zn] at hk
  rw [e, Zn]
  rcases hk with hk | hk
  ·exact .inl (.inl hk)
  ·have : vs'.ownBlock = some k := by simpa using hk
   rcases hv k this with q | q
   ·exact .inl (.inr (by simp [q]))
   ·exact .inr q
 refine ⟨?_, ?_, ?_, ?_, ?_, ?_, ?_, ?_, ?_⟩
 ·exact (hb o.g (bF H.blk) (fun q => (hap _ q).1 rfl)).trans H.blk
 ·show World.ownsRow w' 0 69 1 o.fv (r ++ [f']).length ((hs0 ++ [{ h with vs := vs' }]).map Ho.ptr)
  rw [hl, hpt]
  exact bZ H.fr (fun k q => hb k (H.fr.lt k q).2 (fun q' => (hap _ q').2.1 q))
 ·exact bZ H.ev (fun k q => hb k (H.ev.lt k q).2 (fun q' => (hap _ q').2.2.1 q))
 ·exact jX (fU f1 (fun k q => hb k (iD f1 k q) (fun q' => (hap _ q').2.2.2 q))) HF
 ·rw [e']
  have nd := H.nd
  have hN := H.lt
  rw [e] at nd hN
  exact ji nd hN hv
 ·intro k hk q
  rcases hnew k hk with h1 | h1
  ·exact H.rd k h1 q
  ·have := H.low k q; omega
 ·exact fun k q => Zf (H.low k q) hM.size
 ·exact Kd.jJ H.cs (fun k q hlt => hb k hlt (fun q' => H.rd k (hown k q') q))
 ·exact Kd.jJ H.inp (fun k q hlt => hb k hlt (fun q' => H.rd k (hown k q') q))
theorem iU {hs0 : List Ho} {h : Ho} {vs' : Value} (ho : o.hs = hs0 ++ [h]) (hv : ∀ k, vs'.ownBlock = some k → h.vs.ownBlock = some k ∨ w.heap.size ≤ k) : Sub w o { o with hs := hs0 ++ [{ h with vs := vs' }] } := by
 refine ⟨rfl, fun k hk => ?_⟩
 rw [kN (o := { o with hs := hs0 ++ [{ h with vs := vs' }] }) rfl, Zn] at hk
 rw [kN ho, Zn]
 rcases hk with hk | hk
 ·exact .inl (.inl hk)
 ·have : vs'.ownBlock = some k := by simpa using hk
  rcases hv k this with q | q
  ·exact .inl (.inr (by simp [q]))
  ·exact .inr q
end
theorem mO : (Tryd.prog.info? 38).map (fun i => (i.zero, i.size, i.bytes)) = some (some (.agg #[.int .i64 0, .int .i64 0]), 2, 16) := by kernel_rfl
theorem mY (w : World) (g n : Nat) (vs vd : Value) (pre : Array Value) (hp : pre.size = 10) (t : TypeId) (kd x : Int) (xs : List Value)
  (hg : w.heap[g]? = some (.cells (pre ++ #[vs, vd]) t (0, 0))) (hs : w.ownsRow 0 38 2 vs n xs) (hne : vs.ownBlock ≠ some g) (hl : n + 1 ≤ 4398046511104) :
  Calls Tryd.prog 36 #[.pointer (some ⟨g, 0, none⟩), .int .i64 kd, .int .i64 x] w fun e w' => e = .returned (.tuple #[]) ∧ ∃ v1 w1, w1.ownsRow 0 38 2 v1 (n + 1) (xs ++ [.int .i64 kd, .int .i64 x]) ∧ w.grownBy w1 vs.ownBlock ∧ (v1.ownBlock = vs.ownBlock ∨ ∃ b, v1.ownBlock = some b ∧ w.heap.size ≤ b) ∧ w' = w1.setCell ⟨g, 10, none⟩ v1 := by
 have c4 : w.cell? ⟨g, 10, none⟩ = some vs := by rw [ae hg, Array.getElem?_append_right (by omega), hp]; rfl
 obtain ⟨A, l, c, rfl⟩ : ∃ A l c, vs = .slice A l c := by
  rcases hs.2 with ⟨h, _⟩ | ⟨_, _, _, h, _⟩ <;> exact ⟨_, _, _, h⟩
 go_enter Tryd.func36, Tryd.ntmps36
 go_wp2_with (at_builtin; refine eB 0 rfl (.tmp 10) (.tmp 14) 35 38 (.agg #[.int .i64 0, .int .i64 0]) 2 16 rfl Tryd.underlying35 mO rfl (by decide) (by decide) _ n xs [.int .i64 kd, .int .i64 x] rfl rfl rfl ?c2 hs (Below.refl 0 w) (Nat.zero_le _) (by omega) ?grow)
 case c2 => intro u hu; simp at hu; rcases hu with rfl | rfl <;> rfl
 case grow =>
  intro v1 w1 hown _ hgrow hat
  obtain ⟨g1, cap1, rfl⟩ : ∃ g1 cap1, v1 = .slice (some ⟨g1, 0, none⟩) (n + 1) cap1 := by
   rcases hown.2 with ⟨_, h⟩ | ⟨g1, cap1, _, h, _⟩
   ·omega
   ·exact ⟨g1, cap1, h⟩
  have hb := cZ hg hgrow (Ne.symm hne)
  have HAT := aa.mk hat; clear hat
  have k4 : w1.cell? ⟨g, 10, none⟩ = some (.slice A l c) := by rw [ae hb, Array.getElem?_append_right (by omega), hp]; rfl
  have f4 : w1.frozen? ⟨g, 10, none⟩ = false := ai hb 10
  clear hb
  go_wp2
  go_end0
  exact ⟨rfl, _, w1, hown, hgrow, HAT.out, rfl⟩
theorem end_calls (w : World) (g n : Nat) (vs : Value) (b : Bool) (pre : Array Value) (hp : pre.size = 10) (t : TypeId) (kd x : Int) (xs : List Value)
  (hg : w.heap[g]? = some (.cells (pre ++ #[vs, .bool b]) t (0, 0))) (hs : w.ownsRow 0 38 2 vs n xs) (hne : vs.ownBlock ≠ some g) (hl : n + 1 ≤ 4398046511104) :
  Calls Tryd.prog 41 #[.pointer (some ⟨g, 0, none⟩), .int .i64 kd, .int .i64 x] w fun e w' => e = .returned (.tuple #[]) ∧ ∃ v1 w1, w1.ownsRow 0 38 2 v1 (n + 1) (xs ++ [.int .i64 kd, .int .i64 x]) ∧ w.grownBy w1 vs.ownBlock ∧ (v1.ownBlock = vs.ownBlock ∨ ∃ b, v1.ownBlock = some b ∧ w.heap.size ≤ b) ∧ w' = (w1.setCell ⟨g, 10, none⟩ v1).setCell ⟨g, 11, none⟩ (.bool true) := by
 have HG := aa.mk hg; have HS := aa.mk hs; have HN := aa.mk hne; clear hg hs hne
 go_enter Tryd.func41, Tryd.ntmps41
 go_wp2_with ((with_reducible refine ah (f := 36) rfl ?_); refine gl 9 Tryd.func36 #[.pointer (some ⟨g, 0, none⟩), .int .i64 kd, .int .i64 x] ?_; refine (mY w g n vs (.bool b) pre hp t kd x xs HG.out HS.out HN.out hl).mono ?_; rintro e w' ⟨rfl, v1, w1, hown, hgr, hat, rfl⟩; have HO := aa.mk hown; have HR := aa.mk hgr; have HA := aa.mk hat; clear hown hgr hat; have hb := dH (cZ HG.out HR.out (Ne.symm HN.out)) 10 v1; obtain ⟨w2, hw2⟩ : ∃ w2, w2 = w1.setCell ⟨g, 10, none⟩ v1 := ⟨_, rfl⟩; rw [← hw2] at hb ⊢; have hc : w2.cell? ⟨g, 11, none⟩ = some (.bool b) := by { rw [ae hb, Array.getElem?_setIfInBounds, if_neg (by decide), Array.getElem?_append_right (by omega), hp]; rfl }; have hf : w2.frozen? ⟨g, 11, none⟩ = false := ai hb 11; have HW := aa.mk hw2; clear hb hw2; refine ⟨_, rfl, ?_⟩)
 go_end0
 have hw := HW.out
 subst hw
 exact ⟨rfl, v1, w1, HO.out, HR.out, HA.out, rfl⟩
theorem dn.alloc {w : World} {h : Ho} {f : Fr} (H : dn w h f) (o : Obj) : dn (w.alloc o) h f := H.kept (fun k hk => Below.heap_alloc w o k (H.lt k hk))
theorem dn.drew {w : World} {h : Ho} {f : Fr} (H : dn w h f) : dn w.drew h f := H.kept (fun _ _ => rfl)
def eu (w : World) (h : Ho) (r : Int) (f1 : Fr) (e : Ending) (w' : World) : Prop :=
 e = .returned (.int .i64 r) ∧ ∃ vs', (∀ k, vs'.ownBlock = some k → h.vs.ownBlock = some k ∨ w.heap.size ≤ k) ∧ dn w' { h with vs := vs' } f1 ∧ Mod (fun k => k ∈ h.blocks) w w'
theorem data_push {w : World} {h : Ho} {f : Fr} (H : dn w h f) (n m : Int) (hl : f.stack.length + 1 ≤ 1000000) :
  Calls Tryd.prog 40 #[h.ptr, .agg #[.int .i64 1, .int .i64 n, .int .i64 m]] w (eu w h 0 { f with stack := f.stack ++ [n] }) := by
 obtain ⟨g, vc, vs⟩ := h
 have HH := aa.mk H; clear H
 show Calls Tryd.prog 40 #[.pointer (some ⟨g, 0, none⟩), .agg #[.int .i64 1, .int .i64 n, .int .i64 m]] w _
 go_enter Tryd.func40, Tryd.ntmps40
 go_wp2_with ((with_reducible refine ah (f := 38) rfl ?_); refine gl 35 Tryd.func38 #[.pointer (some ⟨g, 0, none⟩), .int .i64 n] ?_; refine ((HH.out.alloc _).push n hl).mono ?_; rintro e w' ⟨rfl, vs', hv, HF, HM⟩; refine ⟨_, rfl, ?_⟩)
 go_ret
 have H := HH.out
 refine ⟨rfl, vs', fun k e => (hv k e).imp_right (fun h => by simp at h; omega), HF, ((Mod.refl _ w).alloc _).trans HM (fun i hi h => ?_)⟩
 rcases h with rfl | h <;> simp [Ho.blocks, *]
theorem gT {w : World} {v : Value} {l : List Int} (h : w.ownsRow 0 2 1 v l.length (ints l)) (hne : l ≠ []) : ∃ sg cap cur, v = .slice (some ⟨sg, 0, none⟩) l.length cap ∧ l.length ≤ cap ∧ cap ≤ 9223372036854775807 ∧ w.heap[sg]? = some (.cells cur 2 (0, 0)) ∧ cur.size = cap ∧ ∀ j x, l[j]? = some x → w.cell? ⟨sg, j, none⟩ = some (.int .i64 x) := by
 rcases h.2 with ⟨_, h0⟩ | ⟨sg, cap, cur, rfl, _, hh, hn, hcap, hsz, htk⟩
 ·exact absurd (List.length_eq_zero_iff.1 h0) hne
 ·refine ⟨sg, cap, cur, rfl, hn, by simp only [maxLen] at hcap; omega, hh, by omega, fun j x hj => ?_⟩
  have hlt := (List.getElem?_eq_some_iff.1 hj).1
  rw [ae hh, ← Array.getElem?_toList]
  have e1 : (cur.toList.take (l.length * 1))[j]? = some (.int .i64 x) := by rw [htk]; simp [ints, hj]
  rw [List.getElem?_take, if_pos (by omega)] at e1
  exact e1
theorem data_load {w : World} {h : Ho} {f : Fr} (H : dn w h f) (n : Nat) (m x : Int) (hx : f.cells[n]? = some x) (hl : f.stack.length + 1 ≤ 1000000) :
  Calls Tryd.prog 40 #[h.ptr, .agg #[.int .i64 2, .int .i64 n, .int .i64 m]] w (eu w h 0 { f with stack := f.stack ++ [x] }) := by
 obtain ⟨g, vc, vs⟩ := h
 have hlt := (List.getElem?_eq_some_iff.1 hx).1
 obtain ⟨sg, cap, cur, rfl, hn, hcap, hh, hsz, hcell⟩ := gT H.cs (by intro e; simp [e] at hlt)
 have c4 : w.cell? ⟨g, 3, none⟩ = some (.slice (some ⟨sg, 0, none⟩) f.cells.length cap) := ae H.blk 3
 have cn := hcell n x hx
 have hb := H.blk; have hgl := bF hb; have hsl := bF hh
 have HH := aa.mk H; clear H hb hh hcell hx
 show Calls Tryd.prog 40 #[.pointer (some ⟨g, 0, none⟩), .agg #[.int .i64 2, .int .i64 n, .int .i64 m]] w _
 have a4 : (w.alloc (.cells #[.int .i64 2, .int .i64 n, .int .i64 m] 43)).cell? ⟨g, 3, none⟩ = some (.slice (some ⟨sg, 0, none⟩) f.cells.length cap) := by rw [World.cell?_alloc_past _ _ _ hgl]; exact c4
 have an : (w.alloc (.cells #[.int .i64 2, .int .i64 n, .int .i64 m] 43)).cell? ⟨sg, n, none⟩ = some (.int .i64 x) := by rw [World.cell?_alloc_past _ _ _ hsl]; exact cn
 go_enter Tryd.func40, Tryd.ntmps40
 go_wp2
 refine wp_region_still_tail 9 (by kernel_rfl) (by kernel_rfl) ?_
 obtain ⟨w2, hw2⟩ : ∃ w2, w2 = (w.alloc (.cells #[.int .i64 2, .int .i64 n, .int .i64 m] 43)).drew := ⟨_, rfl⟩
 have b4 : w2.cell? ⟨g, 3, none⟩ = some (.slice (some ⟨sg, 0, none⟩) f.cells.length cap) := by rw [hw2]; exact a4
 have bn : w2.cell? ⟨sg, n, none⟩ = some (.int .i64 x) := by rw [hw2]; exact an
 have bi : w2.cell? ⟨w.heap.size, 1, none⟩ = some (.int .i64 n) := by rw [hw2]; exact ae (bW w _) 1
 have HF := aa.mk (show dn w2 ⟨g, .slice (some ⟨sg, 0, none⟩) f.cells.length cap, vs⟩ f by rw [hw2]; exact (HH.out.alloc _).drew)
 have HM := aa.mk (show Mod (fun k => k ∈ Ho.blocks ⟨g, .slice (some ⟨sg, 0, none⟩) f.cells.length cap, vs⟩) w w2 by rw [hw2]; exact ((Mod.refl _ w).alloc _).drew)
 have HS := aa.mk (show w.heap.size ≤ w2.heap.size by exact HM.out.size)
 change wpStill _ _ (w.alloc (.cells #[.int .i64 2, .int .i64 n, .int .i64 m] 43)).drew (fun a' => wpList _ _ _ _ a' (w.alloc (.cells #[.int .i64 2, .int .i64 n, .int .i64 m] 43)).drew) _ _
 rw [← hw2]
 clear hw2 a4 an c4 cn HH
 simp only [List.take_succ_cons, List.take_zero, List.drop_succ_cons, List.drop_zero]
 repeat still_step
 try refine wpStill_nil ?_
 go_wp2_with ((with_reducible refine ah (f := 38) rfl ?_); refine gl 47 Tryd.func38 #[.pointer (some ⟨g, 0, none⟩), .int .i64 x] ?_; refine (HF.out.push x hl).mono ?_; rintro e w' ⟨rfl, vs', hv, HF', HM'⟩; refine ⟨_, rfl, ?_⟩)
 go_ret
 have hS := HS.out
 refine ⟨rfl, vs', fun k e => (hv k e).imp_right (fun h => by omega), HF', HM.out.trans HM' (fun i hi h => ?_)⟩
 rcases h with rfl | h <;> simp [Ho.blocks, *]
theorem mark_some (w : World) (gm g nf c : Nat) (A : Option Addr) (cv iv rd t0 t1 t2 t3 ev en at_ mk vc vs : Value) (fuel ticks pr n m : Int) (hne : gm ≠ g) (hf : 0 < fuel) (hf2 : fuel ≤ 2000000) (ht0 : 0 ≤ ticks) (ht : ticks ≤ 2000000)
  (hm : w.heap[gm]? = some (.cells #[cv, .slice A nf c, iv, rd, .int .i64 fuel, .int .i64 ticks, t0, t1, t2, t3, ev, en] 67 (0, 0)))
  (hg : w.heap[g]? = some (.cells #[.int .i64 pr, at_, mk, vc, vs] 73 (0, 0))) :
  Calls Tryd.prog 39 #[.pointer (some ⟨gm, 0, none⟩), .pointer (some ⟨g, 0, none⟩), .agg #[.int .i64 24, .int .i64 n, .int .i64 m]] w fun e w' => e = .returned (.tuple #[]) ∧
   w'.heap[gm]? = some (.cells #[cv, .slice A nf c, iv, rd, .int .i64 (fuel - 1), .int .i64 (ticks + 1), .int .i64 m, .int .i64 pr, .int .i64 n, .int .i64 nf, ev, en] 67 (0, 0)) ∧
   w'.heap[g]? = some (.cells #[.int .i64 pr, at_, .int .i64 n, vc, vs] 73 (0, 0)) ∧ Mod (fun k => k = gm ∨ k = g) w w' := by
 have hfb : (fuel == 0) = false := Zh (by omega)
 have bm := bv hm (.cells #[.int .i64 24, .int .i64 n, .int .i64 m] 43)
 have bg := bv hg (.cells #[.int .i64 24, .int .i64 n, .int .i64 m] 43)
 have c4 : (w.alloc (.cells #[.int .i64 24, .int .i64 n, .int .i64 m] 43)).cell? ⟨gm, 4, none⟩ = some (.int .i64 fuel) := ae bm 4
 have f4 : (w.alloc (.cells #[.int .i64 24, .int .i64 n, .int .i64 m] 43)).frozen? ⟨gm, 4, none⟩ = false := ai bm 4
 have c5 : (w.alloc (.cells #[.int .i64 24, .int .i64 n, .int .i64 m] 43)).cell? ⟨gm, 5, none⟩ = some (.int .i64 ticks) := ae bm 5
 have f5 : (w.alloc (.cells #[.int .i64 24, .int .i64 n, .int .i64 m] 43)).frozen? ⟨gm, 5, none⟩ = false := ai bm 5
 have d2 : (w.alloc (.cells #[.int .i64 24, .int .i64 n, .int .i64 m] 43)).cell? ⟨g, 2, none⟩ = some mk := ae bg 2
 have e2 : (w.alloc (.cells #[.int .i64 24, .int .i64 n, .int .i64 m] 43)).frozen? ⟨g, 2, none⟩ = false := ai bg 2
 have bi : (w.alloc (.cells #[.int .i64 24, .int .i64 n, .int .i64 m] 43)).cell? ⟨w.heap.size, 1, none⟩ = some (.int .i64 n) := ae (bW w _) 1
 have HM := aa.mk hm; have HG := aa.mk hg; have BM := aa.mk bm; have BG := aa.mk bg
 have L1 := aa.mk (show w.heap.size ≠ gm from Nat.ne_of_gt (bF hm)); have L2 := aa.mk (show w.heap.size ≠ g from Nat.ne_of_gt (bF hg)); have HN := aa.mk hne
 clear hm hg bm bg
 go_enter Tryd.func39, Tryd.ntmps39
 go_wp2
 refine wp_region_still_tail 21 (by kernel_rfl) (by kernel_rfl) ?_
 obtain ⟨w2, hw2⟩ : ∃ w2, w2 = ((((w.alloc (.cells #[.int .i64 24, .int .i64 n, .int .i64 m] 43)).setCell ⟨gm, 4, none⟩ (.int .i64 (fuel - 1))).setCell ⟨gm, 5, none⟩ (.int .i64 (ticks + 1))).setCell ⟨g, 2, none⟩ (.int .i64 n)).drew := ⟨_, rfl⟩
 have M : w2.heap[gm]? = some (.cells #[cv, .slice A nf c, iv, rd, .int .i64 (fuel - 1), .int .i64 (ticks + 1), t0, t1, t2, t3, ev, en] 67 (0, 0)) := by rw [hw2]; exact dF (gy (gy BM.out 4 _ rfl) 5 _ rfl) HN.out _
 have G : w2.heap[g]? = some (.cells #[.int .i64 pr, at_, .int .i64 n, vc, vs] 73 (0, 0)) := by rw [hw2]; exact gy (dF (dF BG.out (Ne.symm HN.out) _) (Ne.symm HN.out) _) 2 _ rfl
 have X : w2.heap[w.heap.size]? = some (.cells #[.int .i64 24, .int .i64 n, .int .i64 m] 43 (0, 0)) := by rw [hw2]; exact dF (dF (dF (bW w _) L1.out _) L1.out _) L2.out _
 have HMod := aa.mk (show Mod (fun k => k = gm ∨ k = g) w w2 by rw [hw2]; exact (((((Mod.refl _ w).alloc _).setCell (p := ⟨gm, 4, none⟩) (fun _ => .inl rfl) _).setCell (p := ⟨gm, 5, none⟩) (fun _ => .inl rfl) _).setCell (p := ⟨g, 2, none⟩) (fun _ => .inr rfl) _).drew)
 change wpStill _ _ ((((w.alloc (.cells #[.int .i64 24, .int .i64 n, .int .i64 m] 43)).setCell ⟨gm, 4, none⟩ (.int .i64 (fuel - 1))).setCell ⟨gm, 5, none⟩ (.int .i64 (ticks + 1))).setCell ⟨g, 2, none⟩ (.int .i64 n)).drew (fun a' => wpList _ _ _ _ a' ((((w.alloc (.cells #[.int .i64 24, .int .i64 n, .int .i64 m] 43)).setCell ⟨gm, 4, none⟩ (.int .i64 (fuel - 1))).setCell ⟨gm, 5, none⟩ (.int .i64 (ticks + 1))).setCell ⟨g, 2, none⟩ (.int .i64 n)).drew) _ _
 rw [← hw2]
 clear hw2 c4 f4 c5 f5 d2 e2 bi
 have k1 : w2.cell? ⟨gm, 1, none⟩ = some (.slice A nf c) := ae M 1
 have k2 : w2.cell? ⟨g, 0, none⟩ = some (.int .i64 pr) := ae G 0
 have k3 : w2.cell? ⟨g, 2, none⟩ = some (.int .i64 n) := ae G 2
 have k4 : w2.cell? ⟨w.heap.size, 2, none⟩ = some (.int .i64 m) := ae X 2
 have q6 : w2.cell? ⟨gm, 6, none⟩ = some t0 := ae M 6
 have q7 : w2.cell? ⟨gm, 7, none⟩ = some t1 := ae M 7
 have q8 : w2.cell? ⟨gm, 8, none⟩ = some t2 := ae M 8
 have q9 : w2.cell? ⟨gm, 9, none⟩ = some t3 := ae M 9
 have f6 : w2.frozen? ⟨gm, 6, none⟩ = false := ai M 6
 have f7 : w2.frozen? ⟨gm, 7, none⟩ = false := ai M 7
 have f8 : w2.frozen? ⟨gm, 8, none⟩ = false := ai M 8
 have f9 : w2.frozen? ⟨gm, 9, none⟩ = false := ai M 9
 have MM := aa.mk M; have GG := aa.mk G; clear M G X
 simp only [List.take_succ_cons, List.take_zero, List.drop_succ_cons, List.drop_zero]
 repeat still_step
 try refine wpStill_nil ?_
 go_wp2
 go_end0
 have hn := Ne.symm HN.out
 exact ⟨rfl, gy (gy (gy (gy MM.out 6 _ rfl) 7 _ rfl) 8 _ rfl) 9 _ rfl, dF (dF (dF (dF GG.out hn _) hn _) hn _) hn _,
  (((HMod.out.setCell (p := ⟨gm, 6, none⟩) (fun _ => .inl rfl) _).setCell (p := ⟨gm, 7, none⟩) (fun _ => .inl rfl) _).setCell (p := ⟨gm, 8, none⟩) (fun _ => .inl rfl) _).setCell (p := ⟨gm, 9, none⟩) (fun _ => .inl rfl) _⟩
section
variable {Rd : Nat → Prop} {w w' : World} {o o' : MHo} {m m' : Mc}
theorem MOn.jy {S : Nat → Prop} (H : MOn Rd w o m) (hM : Mod S w w') (hS : ∀ k, k < w.heap.size → S k → k ∈ o.own) (hblk : w'.heap[o'.g]? = some (.cells (qI o' m') 67 (0, 0)))
  (hfr : w'.ownsRow 0 69 1 o'.fv m'.frames.length (o'.hs.map Ho.ptr)) (hev : w'.ownsRow 0 38 2 o'.ev m'.events.length (evs m'.events)) (hfrs : je (dn w') o'.hs m'.frames)
  (hnd : o'.own.Nodup) (hnew : ∀ k ∈ o'.own, k ∈ o.own ∨ w.heap.size ≤ k) (e1 : o'.cv = o.cv) (e2 : o'.iv = o.iv) (e3 : m'.codes = m.codes) (e4 : m'.input = m.input) : MOn Rd w' o' m' := by
 refine ⟨hblk, hfr, hev, hfrs, hnd, fun k hk q => ?_, fun k q => Zf (H.low k q) hM.size, ?_, ?_⟩
 ·rcases hnew k hk with h1 | h1
  ·exact H.rd k h1 q
  ·have := H.low k q; omega
 ·rw [e1, e3]
  exact Kd.jJ H.cs (fun k q hlt => hM.block k hlt (fun q' => H.rd k (hS k hlt q') q))
 ·rw [e2, e4]
  exact Kd.jJ H.inp (fun k q hlt => hM.block k hlt (fun q' => H.rd k (hS k hlt q') q))
theorem iB (H : MOn Rd w o m) : o.fv.ownBlock ≠ some o.g ∧ o.ev.ownBlock ≠ some o.g ∧ o.g ∉ o.hs.flatMap Ho.blocks := by
 have nd := H.nd
 unfold MHo.own at nd
 exact ⟨fun q => apart nd (k := o.g) (by simp) (by simp [q]), fun q => apart nd (k := o.g) (by simp) (by simp [q]), fun q => apart nd (k := o.g) (by simp) (by simp only [Zn]; exact .inr (.inr q))⟩
theorem ow (H : MOn Rd w o m) (k : Nat) (e : o.fv.ownBlock = some k) : o.ev.ownBlock ≠ some k ∧ k ∉ o.hs.flatMap Ho.blocks := by
 have nd := H.nd
 unfold MHo.own at nd
 have nd2 := (List.nodup_append.1 nd).2.1
 exact ⟨fun q => apart nd2 (k := k) (by simp [e]) (by simp [q]), fun q => apart nd2 (k := k) (by simp [e]) (by simp only [Zn]; exact .inr q)⟩
theorem ev_apart (H : MOn Rd w o m) (k : Nat) (e : o.ev.ownBlock = some k) : k ∉ o.hs.flatMap Ho.blocks := by
 have nd := H.nd
 unfold MHo.own at nd
 have nd2 := (List.nodup_append.1 (List.nodup_append.1 nd).2.1).2.1
 exact fun q => apart nd2 (k := k) (by simp [e]) q
theorem MOn.setEv {v1 : Value} (H : MOn Rd w o m) (hM : Mod (fun k => k = o.g ∨ o.ev.ownBlock = some k) w w') (hv : ∀ k, v1.ownBlock = some k → o.ev.ownBlock = some k ∨ w.heap.size ≤ k)
  (hblk : w'.heap[o.g]? = some (.cells (qI { o with ev := v1 } m') 67 (0, 0))) (hev : w'.ownsRow 0 38 2 v1 m'.events.length (evs m'.events)) (e1 : m'.codes = m.codes) (e2 : m'.frames = m.frames) (e3 : m'.input = m.input) :
  MOn Rd w' { o with ev := v1 } m' := by
 have ga := iB H
 have hnew : ∀ k ∈ MHo.own { o with ev := v1 }, k ∈ o.own ∨ w.heap.size ≤ k := by
  intro k hk
  simp only [MHo.own, Zn, List.mem_singleton, Option.mem_toList] at hk ⊢
  rcases hk with hk | hk | hk | hk
  ·exact .inl (.inl hk)
  ·exact .inl (.inr (.inl hk))
  ·exact (hv k hk).imp_left (fun h => .inr (.inr (.inl h)))
  ·exact .inl (.inr (.inr (.inr hk)))
 refine H.jy (o' := { o with ev := v1 }) hM (fun k _ h => ?_) hblk ?_ hev ?_ ?_ hnew rfl rfl e1 e3
 ·rcases h with rfl | h
  ·simp [MHo.own]
  ·simp [MHo.own, h]
 ·rw [e2]
  refine bZ H.fr (fun k q => hM.block k (H.fr.lt k q).2 ?_)
  rintro (rfl | q')
  ·exact ga.1 q
  ·exact (ow H k q).1 q'
 ·rw [e2]
  refine fU H.frs (fun k q => hM.block k (iD H.frs k q) ?_)
  rintro (rfl | q')
  ·exact ga.2.2 q
  ·exact ev_apart H k q' q
 ·have nd := H.nd
  have hN := H.lt
  unfold MHo.own at nd hN ⊢
  rw [← List.append_assoc] at nd hN ⊢
  exact ji nd hN hv
theorem mD {v1 : Value} (hv : ∀ k, v1.ownBlock = some k → o.ev.ownBlock = some k ∨ w.heap.size ≤ k) : Sub w o { o with ev := v1 } := by
 refine ⟨rfl, fun k hk => ?_⟩
 simp only [MHo.own, Zn, List.mem_singleton, Option.mem_toList] at hk ⊢
 rcases hk with hk | hk | hk | hk
 ·exact .inl (.inl hk)
 ·exact .inl (.inr (.inl hk))
 ·exact (hv k hk).imp_left (fun h => .inr (.inr (.inl h)))
 ·exact .inl (.inr (.inr (.inr hk)))
theorem jM {v v1 : Value} {n : Nat} (h : v1.ownBlock = v.ownBlock ∨ ∃ b, v1.ownBlock = some b ∧ n ≤ b) : ∀ k, v1.ownBlock = some k → v.ownBlock = some k ∨ n ≤ k := by
 intro k hk
 rcases h with h | ⟨b, h, hb⟩
 ·exact .inl (h ▸ hk)
 ·have : b = k := Zg (h.symm.trans hk)
  exact .inr (this ▸ hb)
theorem rJ (H : MOn Rd w o m) (kd x : Int) (hl : m.events.length + 1 ≤ 4398046511104) :
  Calls Tryd.prog 36 #[o.ptr, .int .i64 kd, .int .i64 x] w fun e w' => e = .returned (.tuple #[]) ∧ ∃ v1, (∀ k, v1.ownBlock = some k → o.ev.ownBlock = some k ∨ w.heap.size ≤ k) ∧
   MOn Rd w' { o with ev := v1 } { m with events := m.events ++ [(kd, x)] } ∧ Mod (fun k => k = o.g ∨ o.ev.ownBlock = some k) w w' := by
 have ga := iB H
 refine (mY w o.g m.events.length o.ev (.bool m.ended) #[o.cv, o.fv, o.iv, .int .i64 (m.read : Int), .int .i64 m.fuel, .int .i64 m.ticks, .int .i64 m.tick.1, .int .i64 m.tick.2.1, .int .i64 m.tick.2.2.1, .int .i64 m.tick.2.2.2] rfl 67 kd x (evs m.events) H.blk H.ev ga.2.1 hl).mono ?_
 rintro e w' ⟨rfl, v1, w1, hown, hgr, hat, rfl⟩
 have hv := jM hat
 have hv1 : v1.ownBlock ≠ some o.g := fun e => by
  rcases hv o.g e with h | h
  ·exact ga.2.1 h
  ·have := bF H.blk; omega
 have hM : Mod (fun k => k = o.g ∨ o.ev.ownBlock = some k) w (w1.setCell ⟨o.g, 10, none⟩ v1) := ((Mod.refl _ w).grown hgr (fun k e _ => .inr e)).setCell (p := ⟨o.g, 10, none⟩) (fun _ => .inl rfl) _
 refine ⟨rfl, v1, hv, H.setEv hM hv ?_ ?_ rfl rfl rfl, hM⟩
 ·exact dH (cZ H.blk hgr (Ne.symm ga.2.1)) 10 v1
 ·show World.ownsRow _ 0 38 2 v1 (m.events ++ [(kd, x)]).length (evs (m.events ++ [(kd, x)]))
  rw [oU, show (m.events ++ [(kd, x)]).length = m.events.length + 1 by simp]
  exact dE hown (p := ⟨o.g, 10, none⟩) (fun e => hv1 e.symm) _
theorem qD (H : MOn Rd w o m) (kd x : Int) (hl : m.events.length + 1 ≤ 4398046511104) :
  Calls Tryd.prog 41 #[o.ptr, .int .i64 kd, .int .i64 x] w (gN Rd w o (m.endM kd x) (.tuple #[])) := by
 have ga := iB H
 refine (end_calls w o.g m.events.length o.ev m.ended #[o.cv, o.fv, o.iv, .int .i64 (m.read : Int), .int .i64 m.fuel, .int .i64 m.ticks, .int .i64 m.tick.1, .int .i64 m.tick.2.1, .int .i64 m.tick.2.2.1, .int .i64 m.tick.2.2.2] rfl 67 kd x (evs m.events) H.blk H.ev ga.2.1 hl).mono ?_
 rintro e w' ⟨rfl, v1, w1, hown, hgr, hat, rfl⟩
 have hv := jM hat
 have hv1 : v1.ownBlock ≠ some o.g := fun e => by
  rcases hv o.g e with h | h
  ·exact ga.2.1 h
  ·have := bF H.blk; omega
 have hM : Mod (fun k => k = o.g ∨ o.ev.ownBlock = some k) w ((w1.setCell ⟨o.g, 10, none⟩ v1).setCell ⟨o.g, 11, none⟩ (.bool true)) :=
  (((Mod.refl _ w).grown hgr (fun k e _ => .inr e)).setCell (p := ⟨o.g, 10, none⟩) (fun _ => .inl rfl) _).setCell (p := ⟨o.g, 11, none⟩) (fun _ => .inl rfl) _
 refine ⟨rfl, { o with ev := v1 }, mD hv, H.setEv (m' := m.endM kd x) hM hv ?_ ?_ rfl rfl rfl, hM.mono (fun k hk h => ?_)⟩
 ·exact dH (dH (cZ H.blk hgr (Ne.symm ga.2.1)) 10 v1) 11 _
 ·show World.ownsRow _ 0 38 2 v1 (m.events ++ [(kd, x)]).length (evs (m.events ++ [(kd, x)]))
  rw [oU, show (m.events ++ [(kd, x)]).length = m.events.length + 1 by simp]
  exact dE (dE hown (p := ⟨o.g, 10, none⟩) (fun e => hv1 e.symm) _) (p := ⟨o.g, 11, none⟩) (fun e => hv1 e.symm) _
 ·rcases h with rfl | h
  ·simp [MHo.own]
  ·simp [MHo.own, h]
theorem mark_on (H : MOn Rd w o m) {hs0 : List Ho} {h : Ho} {r : List Fr} {f : Fr} (ho : o.hs = hs0 ++ [h]) (hf : m.frames = r ++ [f]) (n k : Int) (h0 : 0 < m.fuel) (h1 : m.fuel ≤ 1048576) (t0 : 0 ≤ m.ticks) (t1 : m.ticks ≤ 1048576) :
  Calls Tryd.prog 39 #[o.ptr, h.ptr, .agg #[.int .i64 24, .int .i64 n, .int .i64 k]] w (gN Rd w o { m with frames := r ++ [{ f with mark := n }], fuel := m.fuel - 1, ticks := m.ticks + 1, tick := (k, f.pr, n, (r.length + 1 : Nat)) } (.tuple #[])) := by
 have ga := iB H
 have HF := H.top ho hf
 have hap := iT H ho
 have hg : h.g ≠ o.g := (hap h.g (by simp [Ho.blocks])).1
 obtain ⟨A, l, c, hfv⟩ : ∃ A l c, o.fv = .slice A l c := by
  rcases H.fr.2 with ⟨h, _⟩ | ⟨_, _, _, h, _⟩ <;> exact ⟨_, _, _, h⟩
 have hl : l = m.frames.length := by
  rcases H.fr.2 with ⟨h, e⟩ | ⟨_, _, _, h, _⟩
  ·rw [h] at hfv; have := (Value.slice.inj hfv).2.1; omega
  ·rw [h] at hfv; exact (Value.slice.inj hfv).2.1.symm
 subst hl
 refine (mark_some w o.g h.g m.frames.length c A o.cv o.iv (.int .i64 m.read) (.int .i64 m.tick.1) (.int .i64 m.tick.2.1) (.int .i64 m.tick.2.2.1) (.int .i64 m.tick.2.2.2) o.ev (.bool m.ended) (.int .i64 f.at_) (.int .i64 f.mark) h.vc h.vs m.fuel m.ticks f.pr n k (Ne.symm hg) h0 (by omega) t0 (by omega) (by rw [← hfv]; exact H.blk) HF.blk).mono ?_
 rintro e w' ⟨rfl, hb, hb2, hM⟩
 have hfl : m.frames.length = r.length + 1 := by rw [hf]; simp
 have hM2 : Mod (fun k => k ∈ o.own) w w' := hM.mono (fun k hk h' => by
  rcases h' with rfl | rfl
  ·simp [MHo.own]
  ·exact iO ho _ (by simp [Ho.blocks]))
 refine ⟨rfl, o, Sub.refl _ _, H.jy hM2 (fun k _ h => h) ?_ ?_ ?_ ?_ H.nd (fun k h => .inl h) rfl rfl rfl rfl, hM2⟩
 ·rw [hb]
  simp only [qI, hfv, hfl]
 ·show World.ownsRow w' 0 69 1 o.fv (r ++ [{ f with mark := n }]).length (o.hs.map Ho.ptr)
  have e5 : (r ++ [{ f with mark := n }]).length = m.frames.length := by rw [hfl]; simp
  rw [e5]
  refine bZ H.fr (fun k q => hM.block k (H.fr.lt k q).2 ?_)
  rintro (rfl | rfl)
  ·exact ga.1 q
  ·exact (hap _ (by simp [Ho.blocks])).2.1 q
 ·refine bZ H.ev (fun k q => hM.block k (H.ev.lt k q).2 ?_)
  rintro (rfl | rfl)
  ·exact ga.2.1 q
  ·exact (hap _ (by simp [Ho.blocks])).2.2.1 q
 ·have hfrs := H.frs
  rw [ho, hf] at hfrs
  obtain ⟨f1, f2⟩ := iX hfrs
  have hgb := (iB H).2.2
  rw [ho, List.flatMap_append, Zn] at hgb
  rw [ho]
  refine jX (fU f1 (fun k q => hM.block k (iD f1 k q) ?_)) ⟨hb2, bZ f2.cs (fun k q => hM.block k (f2.cs.lt k q).2 ?_), bZ f2.st (fun k q => hM.block k (f2.st.lt k q).2 ?_), f2.nd⟩
  ·rintro (rfl | rfl)
   ·exact hgb (.inl q)
   ·exact (hap _ (by simp [Ho.blocks])).2.2.2 q
  ·rintro (rfl | rfl)
   ·exact hgb (.inr (by simp [Ho.blocks, q]))
   ·exact f2.vc_ne q
  ·rintro (rfl | rfl)
   ·exact hgb (.inr (by simp [Ho.blocks, q]))
   ·exact f2.vs_ne q
end
theorem qm : (Tryd.prog.info? 69).map (fun i => (i.zero, i.size, i.bytes)) = some (some (.pointer none), 1, 8) := by kernel_rfl
theorem vH : (Tryd.prog.info? 2).map (·.size) = some 1 := by kernel_rfl
theorem Mod.setRow {S : Nat → Prop} {a w : World} (h : Mod S a w) {g : Nat} (hp : g < a.heap.size → S g) (cs : Array Value) : Mod S a (w.setRow g cs) :=
 h.trans (S1 := fun k => k = g) ⟨rfl, rfl, rfl, by simp [World.setRow], fun k hk hn => setRow_other w g k cs hn⟩ (fun i hi e => by subst e; exact hp hi)
theorem setRow_at {w : World} {g : Nat} {cur : Array Value} {t : TypeId} (h : w.heap[g]? = some (.cells cur t (0, 0))) (cs : Array Value) : (w.setRow g cs).heap[g]? = some (.cells cs t (0, 0)) := by
 simp [World.setRow, Array.getElem?_modify, h]
theorem wpList_copy_ints {W : World} {ops : Array Oper} {rest : List Oper} {o : Oper} {a : Act} {Q : Exit → Act → World → Prop} (hgd : o.guard = none) (d s : Operand)
  (ho : o.op = .call { callee := .builtin .copy, args := #[d, s], argTypes := #[23, 23] }) (g c : Nat) (hd : a.eval d = .slice (some ⟨g, 0, none⟩) c c) (va : Value) (args : List Int) (hs : a.eval s = va)
  (hva : W.ownsRow 0 2 1 va args.length (ints args)) (hl : args.length ≤ c) (cur : List Int) (hc : cur.length = c) (hg : W.heap[g]? = some (.cells (ints cur).toArray 2 (0, 0)))
  (h : ∀ W', W'.heap[g]? = some (.cells (ints (args ++ cur.drop args.length)).toArray 2 (0, 0)) → Mod (fun k => k = g) W W' → wpList Tryd.prog ops Q rest (a.put o.dst (goInt args.length)) W') : wpList Tryd.prog ops Q (o :: rest) a W := by
 rcases Nat.eq_zero_or_pos args.length with h0 | h0
 ·obtain rfl : args = [] := List.length_eq_zero_iff.1 h0
  obtain ⟨A, l, cp, rfl⟩ : ∃ A l c, va = .slice A l c := by
   rcases hva.2 with ⟨h, _⟩ | ⟨_, _, _, h, _⟩ <;> exact ⟨_, _, _, h⟩
  have hl0 : l = 0 := by
   rcases hva.2 with ⟨h, _⟩ | ⟨_, _, _, h, _⟩
   ·exact (Value.slice.inj h).2.1
   ·exact (Value.slice.inj h).2.1
  subst hl0
  refine wpList_copy_nothing hgd d s 23 23 ho 2 Tryd.underlying23 vH _ _ _ _ _ _ hd hs (by simp) ?_
  exact h W (by simpa using hg) (Mod.refl _ _)
 ·obtain ⟨sg, cap, cu, rfl, hn2, hcap, hh, hsz, hcell⟩ := gT hva (by intro e; simp [e] at h0)
  refine wpList_copy_own hgd d s 23 23 ho 2 Tryd.underlying23 vH g 0 c c ⟨sg, 0, none⟩ args.length cap hd hs _ 2 hg (ints args) (by simp only [ints, List.length_map]; exact (Nat.min_eq_left hl).symm) (fun j v hv => ?_) (by simp [ints]; omega) (fun v hv => ?_) ?_
  ·simp only [ints, List.getElem?_map, Zo] at hv
   obtain ⟨x, hx, rfl⟩ := hv
   have := hcell j x hx
   unfold Addr.add
   by_cases hj : j = 0
   ·subst hj; simpa using this
   ·simpa [hj] using this
  ·simp only [ints, List.mem_map] at hv
   obtain ⟨x, _, rfl⟩ := hv
   rfl
  ·have e1 : (ints args).length = args.length := by simp [ints]
   rw [e1]
   refine h _ ?_ ((Mod.refl (fun k => k = g) W).setRow (g := g) (fun _ => rfl) _)
   rw [setRow_at hg]
   simp [ints]
section
variable {Rd : Nat → Prop} {w : World} {o : MHo} {m : Mc}
theorem pF (c : Nat) : madeCells #[Value.int .i64 0] c = (ints (List.replicate c 0)).toArray := by
 apply Array.toList_inj.1
 rw [toList_madeCells_one]
 simp [ints]
theorem frOn_new {W : World} {a b c : Nat} {l : List Int} {pr at_ mk : Int} (hb : W.heap[b]? = some (.cells #[.int .i64 pr, .int .i64 at_, .int .i64 mk, .slice (some ⟨a, 0, none⟩) c c, .slice none 0 0] 73 (0, 0))) (ha : W.heap[a]? = some (.cells (ints l).toArray 2 (0, 0))) (hl : l.length = c) (hc : c ≤ 1000000) (hab : a ≠ b) :
  dn W ⟨b, .slice (some ⟨a, 0, none⟩) c c, .slice none 0 0⟩ ⟨pr, at_, mk, l, []⟩ := by
 subst hl
 refine ⟨hb, ⟨by simp [ints], .inr ⟨a, l.length, _, rfl, Nat.zero_le _, ha, Zd _, by simp only [maxLen]; omega, by simp [ints], by simp [ints, ← List.map_take]⟩⟩, ⟨rfl, .inl ⟨rfl, rfl⟩⟩, ?_⟩
 simp [Ho.blocks, Value.ownBlock]
 exact fun e => hab e.symm
theorem begin_fin (H : MOn Rd w o m) {W w1 : World} {v1 : Value} (hW : Mod (fun _ => False) w W) {h : Ho} {f : Fr} (HFr : dn W h f) (hnew : ∀ k ∈ h.blocks, w.heap.size ≤ k) (hgr : W.grownBy w1 o.fv.ownBlock)
  (hown : w1.ownsRow 0 69 1 v1 (m.frames.length + 1) (o.hs.map Ho.ptr ++ [h.ptr])) (hat : v1.ownBlock = o.fv.ownBlock ∨ ∃ b, v1.ownBlock = some b ∧ W.heap.size ≤ b) :
  gN Rd w o { m with frames := m.frames ++ [f] } (.tuple #[]) (.returned (.tuple #[])) (w1.setCell ⟨o.g, 1, none⟩ v1) := by
 have HMW : MOn Rd W o m := H.mod hW (fun _ _ h => h)
 have ga := iB H
 have hv := jM hat
 have hgl := bF H.blk
 have hsz := hW.size
 have hv1 : v1.ownBlock ≠ some o.g := fun e => by
  rcases hv o.g e with h | h
  ·exact ga.1 h
  ·omega
 have hM1 : Mod (fun k => o.fv.ownBlock = some k) W w1 := (Mod.refl _ W).grown hgr (fun k e _ => e)
 have hM2 : Mod (fun k => k = o.g ∨ o.fv.ownBlock = some k) W (w1.setCell ⟨o.g, 1, none⟩ v1) := (hM1.mono (fun k _ h => .inr h)).setCell (p := ⟨o.g, 1, none⟩) (fun _ => .inl rfl) _
 have hM3 : Mod (fun k => k = o.g ∨ o.fv.ownBlock = some k) w (w1.setCell ⟨o.g, 1, none⟩ v1) := (hW.mono (fun _ _ h => h.elim)).trans hM2 (fun _ _ h => h)
 have hown2 : MHo.own { o with fv := v1, hs := o.hs ++ [h] } = ([o.g] ++ (v1.ownBlock.toList ++ (o.ev.ownBlock.toList ++ o.hs.flatMap Ho.blocks))) ++ h.blocks := by simp [MHo.own]
 have hS : ∀ k, k = o.g ∨ o.fv.ownBlock = some k → k ∈ o.own := fun k h => by
  rcases h with rfl | h
  ·simp [MHo.own]
  ·simp [MHo.own, h]
 have hn : ∀ k ∈ MHo.own { o with fv := v1, hs := o.hs ++ [h] }, k ∈ o.own ∨ w.heap.size ≤ k := by
  intro k hk
  rw [hown2, Zn] at hk
  rcases hk with hk | hk
  ·simp only [MHo.own, Zn, List.mem_singleton, Option.mem_toList] at hk ⊢
   rcases hk with hk | hk | hk
   ·exact .inl (.inl hk)
   ·rcases hv k hk with q | q
    ·exact .inl (.inr (.inl q))
    ·exact .inr (Ze hsz q)
   ·exact .inl (.inr (.inr hk))
  ·exact .inr (hnew k hk)
 refine ⟨rfl, { o with fv := v1, hs := o.hs ++ [h] }, ⟨rfl, hn⟩, H.jy hM3 (fun k _ => hS k) ?_ ?_ ?_ ?_ ?_ hn rfl rfl rfl rfl, hM3.mono (fun k _ => hS k)⟩
 ·exact dH (cZ HMW.blk hgr (Ne.symm ga.1)) 1 v1
 ·show World.ownsRow _ 0 69 1 v1 (m.frames ++ [f]).length ((o.hs ++ [h]).map Ho.ptr)
  rw [show (m.frames ++ [f]).length = m.frames.length + 1 by simp, List.map_append]
  exact dE hown (p := ⟨o.g, 1, none⟩) (fun e => hv1 e.symm) _
 ·refine bZ HMW.ev (fun k q => hM2.block k (HMW.ev.lt k q).2 ?_)
  rintro (rfl | q')
  ·exact ga.2.1 q
  ·exact (ow H k q').1 q
 ·refine jX (fU HMW.frs (fun k q => hM2.block k (iD HMW.frs k q) ?_)) (HFr.mod hM2 (fun k hk => ?_))
  ·rintro (rfl | q')
   ·exact ga.2.2 q
   ·exact (ow H k q').2 q
  ·have := hnew k hk
   rintro (rfl | q')
   ·omega
   ·have := (H.fr.lt k q').2; omega
 ·rw [hown2]
  have nd := H.nd
  have hN := H.lt
  unfold MHo.own at nd hN
  rw [List.nodup_append]
  refine ⟨ji nd hN (fun k e => (hv k e).imp_right (Ze hsz)), HFr.nd, fun a ha b hb e => ?_⟩
  subst e
  have h1 := hnew a hb
  simp only [Zn, List.mem_singleton, Option.mem_toList] at ha
  have h2 := HFr.lt a hb
  rcases ha with rfl | ha | ha
  ·omega
  ·rcases hv a ha with q | q
   ·have := (H.fr.lt a q).2; omega
   ·omega
  ·have := hN a (by simp only [Zn, List.mem_singleton, Option.mem_toList]; exact .inr (.inr ha)); omega
theorem qV (H : MOn Rd w o m) (k : Int) (k0 : 0 ≤ k) (k1 : k < m.codes.length) (c : Nat) (hc : (au m.codes k).f1 = c) (hc1 : c ≤ 65536) (va : Value) (args : List Int) (hva : w.ownsRow 0 2 1 va args.length (ints args)) (hargs : args.length ≤ c) (hl : m.frames.length + 1 ≤ 1000) :
  Calls Tryd.prog 33 #[o.ptr, .int .i64 k, va] w (gN Rd w o (m.dZ k args) (.tuple #[])) := by
 obtain ⟨A, cc, hcv, hcl, HF⟩ := H.cs
 obtain ⟨ad, A0, c0, e, hx0, hx1, hx2, hx3, hl0, hi0⟩ := eZ (Kd.oL HF) k k0 k1
 subst e
 rw [hc] at hx1
 have b0 : w.cell? ⟨o.g, 0, none⟩ = some (.slice (some ad) m.codes.length cc) := by rw [ae H.blk, ← hcv]; rfl
 have p1 := eq_true k0; have q1 := eq_true k1
 have HH := aa.mk H; have HC := aa.mk hc; have HVA := aa.mk hva; have HL := aa.mk hl; have HA := aa.mk hargs
 clear H hc hva hl hcv HF hi0 hx0 hx2 hx3 hl0 hcl hargs
 show Calls Tryd.prog 33 #[.pointer (some ⟨o.g, 0, none⟩), .int .i64 k, va] w _
 go_enter Tryd.func33, Tryd.ntmps33
 obtain ⟨i2, hi2, hz2⟩ := Zo.1 jd
 simp only [Zm] at hz2
 have hva2 : ((w.alloc (.cells (madeCells #[.int .i64 0] c) 2)).alloc (.cells #[.int .i64 k, .int .i64 0, .int .i64 (-1), .slice (some ⟨w.heap.size, 0, none⟩) c c, .slice none 0 0] 73)).ownsRow 0 2 1 va args.length (ints args) := (HVA.out.alloc _).alloc _
 have hgw : ((w.alloc (.cells (madeCells #[.int .i64 0] c) 2)).alloc (.cells #[.int .i64 k, .int .i64 0, .int .i64 (-1), .slice (some ⟨w.heap.size, 0, none⟩) c c, .slice none 0 0] 73)).heap[w.heap.size]? = some (.cells (ints (List.replicate c 0)).toArray 2 (0, 0)) := by
  rw [← pF]; exact bv (bW w _) _
 have hgf : ((w.alloc (.cells (madeCells #[.int .i64 0] c) 2)).alloc (.cells #[.int .i64 k, .int .i64 0, .int .i64 (-1), .slice (some ⟨w.heap.size, 0, none⟩) c c, .slice none 0 0] 73)).heap[w.heap.size + 1]? = some (.cells #[.int .i64 k, .int .i64 0, .int .i64 (-1), .slice (some ⟨w.heap.size, 0, none⟩) c c, .slice none 0 0] 73 (0, 0)) := by
  have := bW (w.alloc (.cells (madeCells #[.int .i64 0] c) 2)) (.cells #[.int .i64 k, .int .i64 0, .int .i64 (-1), .slice (some ⟨w.heap.size, 0, none⟩) c c, .slice none 0 0] 73)
  rwa [show (w.alloc (.cells (madeCells #[.int .i64 0] c) 2)).heap.size = w.heap.size + 1 by simp] at this
 have HVA2 := aa.mk hva2; have HGW := aa.mk hgw; have HGF := aa.mk hgf
 clear hva2 hgw hgf
 have HHM := aa.mk ((HH.out.alloc (.cells (madeCells #[.int .i64 0] c) 2)).alloc (.cells #[.int .i64 k, .int .i64 0, .int .i64 (-1), .slice (some ⟨w.heap.size, 0, none⟩) c c, .slice none 0 0] 73))
 have hgl := bF HH.out.blk
 obtain ⟨fA, fl, fc, hfv⟩ : ∃ A l c, o.fv = .slice A l c := by
  rcases HH.out.fr.2 with ⟨h, _⟩ | ⟨_, _, _, h, _⟩ <;> exact ⟨_, _, _, h⟩
 have HFV := aa.mk hfv; clear hfv
 go_wp2_with (first
  | (with_reducible refine wpList_make_row w rfl (.tmp 16) (.tmp 16) 23 rfl 2 i2 (.int .i64 0) Tryd.underlying23 hi2 hz2.1 hz2.2.1 rfl .i64 .i64 c rfl rfl (by rw [hz2.2.2]; omega) (by omega) ?_)
  | (with_reducible refine wpList_copy_ints rfl (.tmp 23) (.tmp 24) rfl w.heap.size c rfl va args rfl HVA2.out HA.out (List.replicate c 0) (by simp) HGW.out ?cp))
 case cp =>
  intro W hb hM
  have HX := aa.mk (HHM.out.mod hM (fun k hk e => by subst e; exact hk.elim (fun hk => Nat.lt_irrefl _ (HH.out.lt _ hk)) (fun hk => Nat.lt_irrefl _ (HH.out.low _ hk))))
  have hne : w.heap.size + 1 ≠ w.heap.size := by omega
  have HFR := aa.mk (frOn_new (l := args ++ List.replicate (c - args.length) 0) ((hM.block _ (by simp) hne).trans HGF.out) hb (by have := HA.out; simp; omega) (by omega) (by omega))
  have HMM := aa.mk (show Mod (fun _ => False) w W from (((Mod.refl _ w).alloc _).alloc _).trans hM (fun i hi e => by subst e; exact absurd hi (Nat.lt_irrefl _)))
  have x1 : W.cell? ⟨o.g, 1, none⟩ = some o.fv := by rw [ae HX.out.blk]; rfl
  rw [HFV.out] at x1
  clear hb hM hne
  go_wp2_with (at_builtin; refine eB 0 rfl (.tmp 30) (.tmp 32) 65 69 (.pointer none) 1 8 rfl Tryd.underlying65 qm rfl (by decide) (by decide) o.fv m.frames.length (o.hs.map Ho.ptr) [.pointer (some ⟨w.heap.size + 1, 0, none⟩)] HFV.out.symm rfl rfl ?c2 HX.out.fr (Below.refl 0 _) (Nat.zero_le _) (by have := HL.out; omega) ?grow)
  case c2 => intro u hu; simp at hu; subst hu; rfl
  case grow =>
   intro v1 w1 hown _ hgrow hat
   obtain ⟨g1, cap1, rfl⟩ : ∃ g1 cap1, v1 = .slice (some ⟨g1, 0, none⟩) (m.frames.length + 1) cap1 := by
    rcases hown.2 with ⟨_, h⟩ | ⟨g1, cap1, _, h, _⟩
    ·omega
    ·exact ⟨g1, cap1, h⟩
   have HO := aa.mk hown; have HG := aa.mk hgrow; have HAT := aa.mk hat
   have hb := cZ HX.out.blk hgrow (Ne.symm (iB HX.out).1)
   have y1 : w1.cell? ⟨o.g, 1, none⟩ = some o.fv := by rw [ae hb]; rfl
   have y2 : w1.frozen? ⟨o.g, 1, none⟩ = false := ai hb 1
   clear hown hgrow hat hb
   go_wp2
   go_end0
   have := begin_fin HH.out HMM.out HFR.out (fun k hk => by simp [Ho.blocks, Value.ownBlock] at hk; omega) HG.out HO.out HAT.out
   simpa [Mc.dZ, iV, HC.out] using this
end
theorem gX {W : World} {ops : Array Oper} {rest : List Oper} {op : Oper} {a : Act} {Q : Exit → Act → World → Prop} (hgd : op.guard = none) (s x : Operand) (t : TypeId)
  (ho : op.op = .call { callee := .builtin .append, args := #[s, x], argTypes := #[t, t] }) (e : TypeId) (z : Value) (size bytes : Nat) (ht : Tryd.prog.underlying t = some (.slice e))
  (hinfo : (Tryd.prog.info? e).map (fun i => (i.zero, i.size, i.bytes)) = some (some z, size, bytes)) (hz : z.cells.size = size) (hs0 : 0 < size)
  (hs : a.eval s = .slice none 0 0) (A : Option Addr) (n c : Nat) (hx : a.eval x = .slice A n c) (news : List Value) (hl : news.length = n * size) (hA : A = none → n = 0 ∧ c = 0)
  (hnews : ∀ ad, A = some ad → ∀ j u, news[j]? = some u → W.cell? (ad.add j) = some u) (h1 : ∀ u ∈ news, u.oneCell' = true) (hn : n * bytes ≤ 140737488355328) (hn2 : n ≤ 140737488355328)
  (h : ∀ v1 w1, w1.ownsRow 0 e size v1 n news → W.grownBy w1 none → (∀ k, v1.ownBlock = some k → W.heap.size ≤ k) → wpList Tryd.prog ops Q rest (a.put op.dst v1) w1) : wpList Tryd.prog ops Q (op :: rest) a W := by
 obtain ⟨i0, hi, hzz⟩ := Zo.1 hinfo
 simp only [Zm] at hzz
 obtain ⟨hz0, hz1, hz2⟩ := hzz
 have hown : W.ownsRow 0 e size (.slice none 0 0) 0 [] := ⟨by simp, .inl ⟨rfl, rfl⟩⟩
 cases A with
 | none =>
  obtain ⟨rfl, rfl⟩ := hA rfl
  obtain rfl : news = [] := List.length_eq_zero_iff.1 (by simpa using hl)
  refine wpList_append_own_none hgd s x t ho 0 e i0 size ht hi (.slice none 0 0) 0 [] hs hown hx ?_
  exact h _ W hown ⟨rfl, rfl, rfl, Zd _, fun _ _ _ => rfl⟩ (fun k hk => by simp [Value.ownBlock] at hk)
 | some ad =>
  refine wpList_append_own_at W hgd s x t ho 0 e i0 z size bytes ht hi hz0 hz1 hz2 hz hs0 (.slice none 0 0) 0 [] hs hown ad n c news hx hl (hnews ad rfl) h1 (by simp only [maxLen]; omega) (by rw [Nat.zero_add]; exact hn) (Nat.zero_le _) ?_
  intro v1 w1 ho1 hg _ hat
  refine h v1 w1 (by simpa using ho1) hg (fun k hk => ?_)
  rcases hat with hat | hat
  ·rw [hat] at hk; simp [Value.ownBlock] at hk
  ·have := Zg (hat.symm.trans hk); omega
theorem iG {w : World} {v : Value} {l : List Int} (h : w.ownsRow 0 2 1 v l.length (ints l)) : ∃ A c, v = .slice A l.length c ∧ l.length ≤ c ∧ c ≤ 9223372036854775807 ∧ (A = none → l.length = 0 ∧ c = 0) ∧ ∀ ad, A = some ad → ∃ sg, ad = ⟨sg, 0, none⟩ ∧ v.ownBlock = some sg ∧ sg < w.heap.size ∧ ∀ j x, l[j]? = some x → w.cell? ⟨sg, j, none⟩ = some (.int .i64 x) := by
 have hlt := h.lt
 rcases h.2 with ⟨rfl, h0⟩ | ⟨sg, cap, cur, rfl, _, hh, hn, hcap, hsz, htk⟩
 ·exact ⟨none, 0, by rw [h0], by omega, by omega, fun _ => ⟨h0, rfl⟩, fun ad e => by cases e⟩
 ·refine ⟨_, cap, rfl, hn, by simp only [maxLen] at hcap; omega, (fun e => by cases e), fun ad e => ?_⟩
  cases e
  refine ⟨sg, rfl, rfl, bF hh, fun j x hj => ?_⟩
  have hlt := (List.getElem?_eq_some_iff.1 hj).1
  rw [ae hh, ← Array.getElem?_toList]
  have e1 : (cur.toList.take (l.length * 1))[j]? = some (.int .i64 x) := by rw [htk]; simp [ints, hj]
  rw [List.getElem?_take, if_pos (by omega)] at e1
  exact e1
theorem dn.rq {w : World} {g cap L n : Nat} {vc : Value} {A : Option Addr} {f : Fr} (H : dn w ⟨g, vc, .slice A L cap⟩ f) (hn : n ≤ f.stack.length) :
  dn (w.setCell ⟨g, 4, none⟩ (.slice A n cap)) ⟨g, vc, .slice A n cap⟩ { f with stack := f.stack.take n } := by
 have hvn := H.vs_ne
 have hob : (Value.slice A n cap).ownBlock = (Value.slice A L cap).ownBlock := by cases A <;> rfl
 have hlen : (f.stack.take n).length = n := by rw [List.length_take]; omega
 refine ⟨dH H.blk 4 _, bZ H.cs (fun k e => Below.heap_setCell _ _ _ _ (by rintro rfl; exact H.vc_ne e)), ?_, ?_⟩
 ·show World.ownsRow _ 0 2 1 (.slice A n cap) (f.stack.take n).length (ints (f.stack.take n))
  rw [hlen]
  refine ⟨by simp [ints]; omega, ?_⟩
  rcases H.st.2 with ⟨h, h0⟩ | ⟨sg, cap', cur, h, hb, hh, hn', hcap, hsz, htk⟩
  ·obtain ⟨rfl, rfl, rfl⟩ := Value.slice.inj h
   exact .inl ⟨by rw [show n = 0 by omega], by omega⟩
  ·obtain ⟨rfl, rfl, rfl⟩ := Value.slice.inj h
   refine .inr ⟨sg, cap, cur, rfl, hb, (Below.heap_setCell _ _ _ _ ?_).trans hh, by omega, hcap, hsz, ?_⟩
   ·rintro rfl; exact hvn rfl
   ·have e2 := congrArg (List.take (n * 1)) htk
    rw [List.take_take] at e2
    rw [show min (n * 1) (f.stack.length * 1) = n * 1 by omega] at e2
    rw [e2]; simp [ints, List.map_take]
 ·have nd := H.nd
  unfold Ho.blocks at nd ⊢
  rw [show (Ho.vs ⟨g, vc, .slice A n cap⟩).ownBlock = _ from hob]
  exact nd
section
variable {Rd : Nat → Prop} {w : World} {o : MHo} {m : Mc}
theorem call_on (H : MOn Rd w o m) {hs0 : List Ho} {h : Ho} {r : List Fr} {f : Fr} (ho : o.hs = hs0 ++ [h]) (hf : m.frames = r ++ [f]) (k : Int) (M c : Nat) (k0 : 0 ≤ k) (k1 : k < m.codes.length) (hc : (au m.codes k).f1 = c) (hc1 : c ≤ 65536) (hMc : M ≤ c) (hM : M ≤ f.stack.length) (hs : f.stack.length ≤ 1000000) (hl : r.length + 1 < 50) :
  Calls Tryd.prog 34 #[o.ptr, h.ptr, .agg #[.int .i64 19, .int .i64 k, .int .i64 M]] w (gN Rd w o (({ m with frames := r ++ [{ f with stack := f.stack.take (f.stack.length - M) }] } : Mc).dZ k (f.stack.drop (f.stack.length - M))) (.int .i64 0)) := by
 have HF := H.top ho hf
 obtain ⟨g, vc, vs⟩ := h
 obtain ⟨A, cap, hvs, hcap1, hcap2, hnone, hsome⟩ := iG HF.st
 simp only at hvs; subst hvs
 obtain ⟨L, hL⟩ : ∃ L, L = f.stack.length := ⟨_, rfl⟩
 obtain ⟨n, hn⟩ : ∃ n, n = L - M := ⟨_, rfl⟩
 rw [← hL] at hM hs hcap1
 obtain ⟨i2, hi2, hz2⟩ := Zo.1 jd
 simp only [Zm] at hz2
 have hcut := nZ (P := Tryd.prog) 23 2 .i64 Tryd.underlying23 hi2 1 hz2.2.1 A L cap (n : Int) (by omega) (by omega)
 have hcut2 := kJ (P := Tryd.prog) 23 2 .i64 Tryd.underlying23 hi2 A L cap (n : Int) (by omega) (by omega) hcap1
 rw [Int.toNat_natCast] at hcut hcut2
 obtain ⟨A2, hA2⟩ : ∃ A2, A2 = (if cap = n then A else A.map (·.add (n * 1))) := ⟨_, rfl⟩
 obtain ⟨ml, hml⟩ : ∃ ml, ml = L - n := ⟨_, rfl⟩
 obtain ⟨c2, hc2⟩ : ∃ c2, c2 = cap - n := ⟨_, rfl⟩
 rw [← hA2, ← hml, ← hc2] at hcut
 have hb := HF.blk
 have b4 : (w.alloc (.cells #[.int .i64 19, .int .i64 k, .int .i64 M] 43)).drew.cell? ⟨g, 4, none⟩ = some (.slice A L cap) := by
  rw [show (w.alloc (.cells #[.int .i64 19, .int .i64 k, .int .i64 M] 43)).drew.cell? ⟨g, 4, none⟩ = _ from ae (bv hb _) 4, hL]; rfl
 have b2 : (w.alloc (.cells #[.int .i64 19, .int .i64 k, .int .i64 M] 43)).drew.cell? ⟨w.heap.size, 2, none⟩ = some (.int .i64 M) := ae (bW w _) 2
 have e1 : IntKind.i64.wrap ((L : Int) - (M : Int)) = (n : Int) := by rw [IntWalk.i64_in _ (by omega)]; omega
 have HH := aa.mk H; have HK := aa.mk HF; have HL := aa.mk hL; have HN := aa.mk hn; have HA2 := aa.mk hA2; have HML := aa.mk hml; have HC2 := aa.mk hc2
 have HO := aa.mk ho; have HFR := aa.mk hf; have HNO := aa.mk hnone; have HSO := aa.mk hsome; have HCC := aa.mk hc
 clear H HF hL hn hA2 hml hc2 ho hf hb hnone hsome hc hz2 hi2
 show Calls Tryd.prog 34 #[.pointer (some ⟨o.g, 0, none⟩), .pointer (some ⟨g, 0, none⟩), .agg #[.int .i64 19, .int .i64 k, .int .i64 M]] w _
 go_enter Tryd.func34, Tryd.ntmps34
 go_wp2
 go_region_held3 (fun W => W.cell? ⟨g, 4, none⟩ = some (.slice A L cap) ∧ W.cell? ⟨w.heap.size, 2, none⟩ = some (.int .i64 M)) (first | exact ⟨by assumption, by assumption⟩ | go_keep) (skip)
 have hw1 : aa (A = none → ml = 0 ∧ c2 = 0) := ⟨fun e => by have := HNO.out e; have := HL.out; have := HML.out; have := HC2.out; omega⟩
 have HLS : aa (ml = (f.stack.drop n).length ∧ n ≤ f.stack.length) := ⟨by have := HL.out; have := HML.out; have := HN.out; rw [List.length_drop]; omega⟩
 have HCE : aa (A2 = none → ml = 0 ∧ c2 = 0) := ⟨fun e => hw1.out (by rw [HA2.out] at e; split at e <;> cases A <;> simp_all)⟩
 have HCELL : aa (∀ ad, A2 = some ad → ∀ j u, (ints (f.stack.drop n))[j]? = some u → (w.alloc (.cells #[.int .i64 19, .int .i64 k, .int .i64 M] 43)).drew.cell? (ad.add j) = some u) := ⟨by
  intro ad e j u hj
  simp only [ints, List.getElem?_map, Zo, List.getElem?_drop] at hj
  obtain ⟨x, hx, rfl⟩ := hj
  have hlt := (List.getElem?_eq_some_iff.1 hx).1
  have h1 := HL.out; have h2 := HML.out
  rw [HA2.out, if_neg (by omega)] at e
  cases A with
  | none => cases e
  | some a0 =>
   obtain ⟨sg, rfl, _, hsl, hcell⟩ := HSO.out a0 rfl
   have e3 : ad = (⟨sg, 0, none⟩ : Addr).add (n * 1) := (Zg e).symm
   have e2 : ad.add j = ⟨sg, n + j, none⟩ := by
    rw [e3]
    unfold Addr.add
    by_cases hn0 : n = 0
    ·by_cases hj0 : j = 0 <;> simp [hn0, hj0]
    ·by_cases hj0 : j = 0 <;> simp [hn0, hj0]
   rw [e2]
   exact (World.cell?_alloc_past _ _ _ hsl).trans (hcell _ x hx)⟩
 go_wp2_with (at_builtin; refine gX rfl (.const (.slice none 0 0)) (.tmp 22) 23 rfl 2 (.int .i64 0) 1 8 Tryd.underlying23 jd rfl (by decide) rfl A2 ml c2 rfl (ints (f.stack.drop n)) (by rw [ja, Nat.mul_one]; exact HLS.out.1.symm) HCE.out HCELL.out (fun u hu => by simp only [ints, List.mem_map] at hu; obtain ⟨x, _, rfl⟩ := hu; rfl) (by have := HML.out; omega) (by have := HML.out; omega) ?fresh)
 case fresh =>
  intro v1 w1 hown hg hv1
  have HOW := aa.mk hown
  have HMa : Mod (fun _ => False) (w.alloc (.cells #[.int .i64 19, .int .i64 k, .int .i64 M] 43)).drew w1 := (Mod.refl _ _).grown hg (fun k e => by cases e)
  have HF1 := ((HK.out.alloc (.cells #[.int .i64 19, .int .i64 k, .int .i64 M] 43)).drew).mod HMa (fun _ _ h => h)
  have HM1 := ((HH.out.alloc (.cells #[.int .i64 19, .int .i64 k, .int .i64 M] 43)).drew).mod HMa (fun _ _ h => h)
  have hap := iT HH.out HO.out g (by simp [Ho.blocks])
  have n1 : g ≠ o.g := hap.1
  have n2 : g ≠ w.heap.size := Nat.ne_of_lt (bF HK.out.blk)
  have y4 : w1.cell? ⟨g, 4, none⟩ = some (.slice A L cap) := by rw [ae HF1.blk 4, HL.out]; rfl
  have y5 : w1.frozen? ⟨g, 4, none⟩ = false := ai HF1.blk 4
  have yb : w1.cell? ⟨w.heap.size, 1, none⟩ = some (.int .i64 k) := ae ((HMa.block w.heap.size (by show _ < (w.heap.push _).size; rw [Array.size_push]; omega) (fun h => h)).trans (bW w _)) 1
  obtain ⟨fA, fc, hfv⟩ : ∃ A c, o.fv = .slice A (r.length + 1) c := by
   have hfl : m.frames.length = r.length + 1 := by rw [HFR.out]; simp
   rcases HH.out.fr.2 with ⟨h, e⟩ | ⟨_, _, _, h, _⟩
   ·omega
   ·exact ⟨_, _, by rw [h, hfl]⟩
  have yf : w1.cell? ⟨o.g, 1, none⟩ = some (.slice fA (r.length + 1) fc) := by rw [ae HM1.blk 1, ← hfv]; rfl
  have d50 : (((r.length + 1 : Nat) : Int) == 50) = false := Zh (by omega)
  have HTS : aa (f.stack.length - M = n) := ⟨by rw [HN.out, HL.out]⟩
  have HSET := dn.rq HF1 (n := n) HLS.out.2
  have HMb : Mod (fun k => k ∈ Ho.blocks ⟨g, vc, .slice A f.stack.length cap⟩) w (w1.setCell ⟨g, 4, none⟩ (.slice A n cap)) :=
   ((((Mod.refl _ w).alloc _).drew).trans HMa (fun _ _ h => h.elim)).setCell (p := ⟨g, 4, none⟩) (fun _ => by simp [Ho.blocks]) _
  have hob : ∀ k, (Value.slice A n cap).ownBlock = some k → (Value.slice A f.stack.length cap).ownBlock = some k ∨ w.heap.size ≤ k := fun k e => .inl (by cases A <;> exact e)
  have HM2 := aa.mk (HH.out.lw (vs' := .slice A n cap) HO.out HFR.out HMb hob HSET)
  have HSUB := aa.mk (iU (w := w) (vs' := .slice A n cap) HO.out hob)
  have HMB := aa.mk HMb; have HOWS := aa.mk (iO HO.out)
  have HVA : aa ((w1.setCell ⟨g, 4, none⟩ (.slice A n cap)).ownsRow 0 2 1 v1 (f.stack.drop n).length (ints (f.stack.drop n))) := ⟨by
   rw [← HLS.out.1]
   refine dE HOW.out (p := ⟨g, 4, none⟩) (fun e => ?_) _
   have h1 := hv1 g e.symm
   have h2 : w.heap.size ≤ (w.alloc (.cells #[.int .i64 19, .int .i64 k, .int .i64 M] 43)).drew.heap.size := by show _ ≤ (w.heap.push _).size; rw [Array.size_push]; omega
   have h3 := bF HK.out.blk
   simp only at h3
   omega⟩
  have HAL : aa ((f.stack.drop n).length ≤ c) := ⟨by have := HTS.out; have := HLS.out.2; rw [List.length_drop]; omega⟩
  have HLEN : aa ((r ++ [{ f with stack := f.stack.take n }]).length + 1 ≤ 1000) := ⟨by simp; omega⟩
  clear hown hg hv1 HF1 HM1 HMa hfv hap HSET HMb hob
  go_wp2_with ((with_reducible refine ah (f := 33) rfl ?_); refine gl 43 Tryd.func33 #[.pointer (some ⟨o.g, 0, none⟩), .int .i64 k, v1] ?_; refine (qV HM2.out k k0 k1 c HCC.out hc1 v1 (f.stack.drop n) HVA.out HAL.out HLEN.out).mono ?_; rintro e w3 ⟨rfl, o3, hsub, HM3, hmod⟩; have HP := aa.mk (And.intro hsub (And.intro HM3 hmod)); clear hsub HM3 hmod; refine ⟨_, rfl, ?_⟩)
  go_ret
  obtain ⟨hsub, HM3, hmod⟩ := HP.out
  rw [HTS.out]
  have hMo : Mod (fun k => k ∈ o.own) w (w1.setCell ⟨g, 4, none⟩ (.slice A n cap)) := HMB.out.mono (fun k _ h => HOWS.out k h)
  exact ⟨rfl, o3, HSUB.out.trans HMB.out.size hsub, HM3, hMo.trans hmod (fun k hk h => (HSUB.out.2 k h).elim id (fun e => by omega))⟩
theorem call_deep (H : MOn Rd w o m) {hs0 : List Ho} {h : Ho} {r : List Fr} {f : Fr} (ho : o.hs = hs0 ++ [h]) (hf : m.frames = r ++ [f]) (k : Int) (M : Nat) (hM : M ≤ f.stack.length) (hs : f.stack.length ≤ 1000000) (hl : r.length + 1 = 50) :
  Calls Tryd.prog 34 #[o.ptr, h.ptr, .agg #[.int .i64 19, .int .i64 k, .int .i64 M]] w (gN Rd w o { m with frames := r ++ [{ f with stack := f.stack.take (f.stack.length - M) }] } (.int .i64 4)) := by
 have HF := H.top ho hf
 obtain ⟨g, vc, vs⟩ := h
 obtain ⟨A, cap, hvs, hcap1, hcap2, hnone, hsome⟩ := iG HF.st
 simp only at hvs; subst hvs
 obtain ⟨L, hL⟩ : ∃ L, L = f.stack.length := ⟨_, rfl⟩
 obtain ⟨n, hn⟩ : ∃ n, n = L - M := ⟨_, rfl⟩
 rw [← hL] at hM hs hcap1
 obtain ⟨i2, hi2, hz2⟩ := Zo.1 jd
 simp only [Zm] at hz2
 have hcut := nZ (P := Tryd.prog) 23 2 .i64 Tryd.underlying23 hi2 1 hz2.2.1 A L cap (n : Int) (by omega) (by omega)
 have hcut2 := kJ (P := Tryd.prog) 23 2 .i64 Tryd.underlying23 hi2 A L cap (n : Int) (by omega) (by omega) hcap1
 rw [Int.toNat_natCast] at hcut hcut2
 obtain ⟨A2, hA2⟩ : ∃ A2, A2 = (if cap = n then A else A.map (·.add (n * 1))) := ⟨_, rfl⟩
 obtain ⟨ml, hml⟩ : ∃ ml, ml = L - n := ⟨_, rfl⟩
 obtain ⟨c2, hc2⟩ : ∃ c2, c2 = cap - n := ⟨_, rfl⟩
 rw [← hA2, ← hml, ← hc2] at hcut
 have hb := HF.blk
 have b4 : (w.alloc (.cells #[.int .i64 19, .int .i64 k, .int .i64 M] 43)).drew.cell? ⟨g, 4, none⟩ = some (.slice A L cap) := by
  rw [show (w.alloc (.cells #[.int .i64 19, .int .i64 k, .int .i64 M] 43)).drew.cell? ⟨g, 4, none⟩ = _ from ae (bv hb _) 4, hL]; rfl
 have b2 : (w.alloc (.cells #[.int .i64 19, .int .i64 k, .int .i64 M] 43)).drew.cell? ⟨w.heap.size, 2, none⟩ = some (.int .i64 M) := ae (bW w _) 2
 have e1 : IntKind.i64.wrap ((L : Int) - (M : Int)) = (n : Int) := by rw [IntWalk.i64_in _ (by omega)]; omega
 have HH := aa.mk H; have HK := aa.mk HF; have HL := aa.mk hL; have HN := aa.mk hn; have HA2 := aa.mk hA2; have HML := aa.mk hml; have HC2 := aa.mk hc2
 have HO := aa.mk ho; have HFR := aa.mk hf; have HNO := aa.mk hnone; have HSO := aa.mk hsome
 clear H HF hL hn hA2 hml hc2 ho hf hb hnone hsome hz2 hi2
 show Calls Tryd.prog 34 #[.pointer (some ⟨o.g, 0, none⟩), .pointer (some ⟨g, 0, none⟩), .agg #[.int .i64 19, .int .i64 k, .int .i64 M]] w _
 go_enter Tryd.func34, Tryd.ntmps34
 go_wp2
 go_region_held3 (fun W => W.cell? ⟨g, 4, none⟩ = some (.slice A L cap) ∧ W.cell? ⟨w.heap.size, 2, none⟩ = some (.int .i64 M)) (first | exact ⟨by assumption, by assumption⟩ | go_keep) (skip)
 have hw1 : aa (A = none → ml = 0 ∧ c2 = 0) := ⟨fun e => by have := HNO.out e; have := HL.out; have := HML.out; have := HC2.out; omega⟩
 have HLS : aa (ml = (f.stack.drop n).length ∧ n ≤ f.stack.length) := ⟨by have := HL.out; have := HML.out; have := HN.out; rw [List.length_drop]; omega⟩
 have HCE : aa (A2 = none → ml = 0 ∧ c2 = 0) := ⟨fun e => hw1.out (by rw [HA2.out] at e; split at e <;> cases A <;> simp_all)⟩
 have HCELL : aa (∀ ad, A2 = some ad → ∀ j u, (ints (f.stack.drop n))[j]? = some u → (w.alloc (.cells #[.int .i64 19, .int .i64 k, .int .i64 M] 43)).drew.cell? (ad.add j) = some u) := ⟨by
  intro ad e j u hj
  simp only [ints, List.getElem?_map, Zo, List.getElem?_drop] at hj
  obtain ⟨x, hx, rfl⟩ := hj
  have hlt := (List.getElem?_eq_some_iff.1 hx).1
  have h1 := HL.out; have h2 := HML.out
  rw [HA2.out, if_neg (by omega)] at e
  cases A with
  | none => cases e
  | some a0 =>
   obtain ⟨sg, rfl, _, hsl, hcell⟩ := HSO.out a0 rfl
   have e3 : ad = (⟨sg, 0, none⟩ : Addr).add (n * 1) := (Zg e).symm
   have e2 : ad.add j = ⟨sg, n + j, none⟩ := by
    rw [e3]
    unfold Addr.add
    by_cases hn0 : n = 0
    ·by_cases hj0 : j = 0 <;> simp [hn0, hj0]
    ·by_cases hj0 : j = 0 <;> simp [hn0, hj0]
   rw [e2]
   exact (World.cell?_alloc_past _ _ _ hsl).trans (hcell _ x hx)⟩
 go_wp2_with (at_builtin; refine gX rfl (.const (.slice none 0 0)) (.tmp 22) 23 rfl 2 (.int .i64 0) 1 8 Tryd.underlying23 jd rfl (by decide) rfl A2 ml c2 rfl (ints (f.stack.drop n)) (by rw [ja, Nat.mul_one]; exact HLS.out.1.symm) HCE.out HCELL.out (fun u hu => by simp only [ints, List.mem_map] at hu; obtain ⟨x, _, rfl⟩ := hu; rfl) (by have := HML.out; omega) (by have := HML.out; omega) ?fresh)
 case fresh =>
  intro v1 w1 hown hg hv1
  have HOW := aa.mk hown
  have HMa : Mod (fun _ => False) (w.alloc (.cells #[.int .i64 19, .int .i64 k, .int .i64 M] 43)).drew w1 := (Mod.refl _ _).grown hg (fun k e => by cases e)
  have HF1 := ((HK.out.alloc (.cells #[.int .i64 19, .int .i64 k, .int .i64 M] 43)).drew).mod HMa (fun _ _ h => h)
  have HM1 := ((HH.out.alloc (.cells #[.int .i64 19, .int .i64 k, .int .i64 M] 43)).drew).mod HMa (fun _ _ h => h)
  have hap := iT HH.out HO.out g (by simp [Ho.blocks])
  have n1 : g ≠ o.g := hap.1
  have n2 : g ≠ w.heap.size := Nat.ne_of_lt (bF HK.out.blk)
  have y4 : w1.cell? ⟨g, 4, none⟩ = some (.slice A L cap) := by rw [ae HF1.blk 4, HL.out]; rfl
  have y5 : w1.frozen? ⟨g, 4, none⟩ = false := ai HF1.blk 4
  have yb : w1.cell? ⟨w.heap.size, 1, none⟩ = some (.int .i64 k) := ae ((HMa.block w.heap.size (by show _ < (w.heap.push _).size; rw [Array.size_push]; omega) (fun h => h)).trans (bW w _)) 1
  obtain ⟨fA, fc, hfv⟩ : ∃ A c, o.fv = .slice A (r.length + 1) c := by
   have hfl : m.frames.length = r.length + 1 := by rw [HFR.out]; simp
   rcases HH.out.fr.2 with ⟨h, e⟩ | ⟨_, _, _, h, _⟩
   ·omega
   ·exact ⟨_, _, by rw [h, hfl]⟩
  have yf : w1.cell? ⟨o.g, 1, none⟩ = some (.slice fA (r.length + 1) fc) := by rw [ae HM1.blk 1, ← hfv]; rfl
  have d50 : (((r.length + 1 : Nat) : Int) == 50) = true := beq_iff_eq.mpr (by omega)
  have HTS : aa (f.stack.length - M = n) := ⟨by rw [HN.out, HL.out]⟩
  have HSET := dn.rq HF1 (n := n) HLS.out.2
  have HMb : Mod (fun k => k ∈ Ho.blocks ⟨g, vc, .slice A f.stack.length cap⟩) w (w1.setCell ⟨g, 4, none⟩ (.slice A n cap)) :=
   ((((Mod.refl _ w).alloc _).drew).trans HMa (fun _ _ h => h.elim)).setCell (p := ⟨g, 4, none⟩) (fun _ => by simp [Ho.blocks]) _
  have hob : ∀ k, (Value.slice A n cap).ownBlock = some k → (Value.slice A f.stack.length cap).ownBlock = some k ∨ w.heap.size ≤ k := fun k e => .inl (by cases A <;> exact e)
  have HM2 := aa.mk (HH.out.lw (vs' := .slice A n cap) HO.out HFR.out HMb hob HSET)
  have HSUB := aa.mk (iU (w := w) (vs' := .slice A n cap) HO.out hob)
  have HMB := aa.mk HMb; have HOWS := aa.mk (iO HO.out)
  clear hown hg hv1 HF1 HM1 HMa hfv hap HSET HMb hob
  go_wp2
  go_ret
  rw [HTS.out]
  exact ⟨rfl, _, HSUB.out, HM2.out, HMB.out.mono (fun k _ h => HOWS.out k h)⟩
end
section
variable {Rd : Nat → Prop} {w : World} {o : MHo} {m : Mc}
theorem nI (H : MOn Rd w o m) {r : List Fr} {f : Fr} (hf : m.frames = r ++ [f]) : ∃ fg fc, o.fv = .slice (some ⟨fg, 0, none⟩) (r.length + 1) fc ∧ r.length + 1 ≤ fc ∧ fc ≤ 9223372036854775807 ∧ ∀ j p, (o.hs.map Ho.ptr)[j]? = some p → w.cell? ⟨fg, j, none⟩ = some p := by
 have hfl : m.frames.length = r.length + 1 := by rw [hf]; simp
 rcases H.fr.2 with ⟨h, e⟩ | ⟨fg, fc, cur, h, _, hh, hn, hcap, hsz, htk⟩
 ·omega
 ·refine ⟨fg, fc, by rw [h, hfl], by omega, by simp only [maxLen] at hcap; omega, fun j p hj => ?_⟩
  rw [ae hh, ← Array.getElem?_toList]
  have hlt := (List.getElem?_eq_some_iff.1 hj).1
  have e0 : (o.hs.map Ho.ptr).length = m.frames.length := by rw [List.length_map]; exact H.frs.fB
  have e1 : (cur.toList.take (m.frames.length * 1))[j]? = some p := by rw [htk]; exact hj
  rw [List.getElem?_take, if_pos (by omega)] at e1
  exact e1
theorem MOn.qK (H : MOn Rd w o m) {hs0 : List Ho} {h : Ho} {r : List Fr} {f : Fr} (ho : o.hs = hs0 ++ [h]) (hf : m.frames = r ++ [f]) {fg fc : Nat} (hfv : o.fv = .slice (some ⟨fg, 0, none⟩) (r.length + 1) fc) :
  MOn Rd (w.setCell ⟨o.g, 1, none⟩ (.slice (some ⟨fg, 0, none⟩) r.length fc)) { o with fv := .slice (some ⟨fg, 0, none⟩) r.length fc, hs := hs0 } { m with frames := r } ∧
   (∀ k ∈ MHo.own { o with fv := .slice (some ⟨fg, 0, none⟩) r.length fc, hs := hs0 }, k ∈ o.own) ∧ dn (w.setCell ⟨o.g, 1, none⟩ (.slice (some ⟨fg, 0, none⟩) r.length fc)) h f ∧
   ∀ k ∈ h.blocks, k ∉ MHo.own { o with fv := .slice (some ⟨fg, 0, none⟩) r.length fc, hs := hs0 } := by
 have ga := iB H
 have hap := iT H ho
 have hob : o.fv.ownBlock = some fg := by rw [hfv]; rfl
 have e1 : MHo.own { o with fv := .slice (some ⟨fg, 0, none⟩) r.length fc, hs := hs0 } = [o.g] ++ (o.fv.ownBlock.toList ++ (o.ev.ownBlock.toList ++ hs0.flatMap Ho.blocks)) := by rw [hob]; rfl
 have e2 : o.own = ([o.g] ++ (o.fv.ownBlock.toList ++ (o.ev.ownBlock.toList ++ hs0.flatMap Ho.blocks))) ++ h.blocks := by simp [MHo.own, ho]
 have hin : ∀ k ∈ MHo.own { o with fv := .slice (some ⟨fg, 0, none⟩) r.length fc, hs := hs0 }, k ∈ o.own := fun k hk => by
  rw [e1] at hk; rw [e2]; exact List.mem_append_left _ hk
 have hM : Mod (fun k => k = o.g) w (w.setCell ⟨o.g, 1, none⟩ (.slice (some ⟨fg, 0, none⟩) r.length fc)) := (Mod.refl (fun k => k = o.g) w).setCell (p := ⟨o.g, 1, none⟩) (fun _ => rfl) _
 have hfrs := H.frs
 rw [ho, hf] at hfrs
 obtain ⟨f1, f2⟩ := iX hfrs
 have hgb := ga.2.2
 rw [ho, List.flatMap_append, Zn] at hgb
 refine ⟨H.jy hM (fun k _ h => by subst h; simp [MHo.own]) (dH H.blk 1 _) ?_ ?_ ?_ ?_ (fun k hk => .inl (hin k hk)) rfl rfl rfl rfl, hin, f2.mod hM (fun k hk e => (hap k hk).1 e), fun k hk hk2 => ?_⟩
 ·refine dE (p := ⟨o.g, 1, none⟩) ?_ (fun e => ga.1 (by rw [hob]; exact e.symm)) _
  have hl : hs0.length = r.length := f1.fB
  have hfl : m.frames.length = r.length + 1 := by rw [hf]; simp
  refine ⟨by simp [hl], ?_⟩
  rcases H.fr.2 with ⟨h, e⟩ | ⟨fg', fc', cur, h, hb, hh, hn, hcap, hsz, htk⟩
  ·omega
  ·rw [hfv] at h
   obtain ⟨h1, h2, h3⟩ := Value.slice.inj h
   have h4 : fg = fg' := by simpa using h1
   subst h4 h3
   refine .inr ⟨fg, fc, cur, rfl, hb, hh, by show r.length ≤ fc; omega, hcap, hsz, ?_⟩
   have e3 := congrArg (List.take (r.length * 1)) htk
   rw [List.take_take, show min (r.length * 1) (m.frames.length * 1) = r.length * 1 by omega] at e3
   show cur.toList.take (r.length * 1) = hs0.map Ho.ptr
   rw [e3, ho, List.map_append, Nat.mul_one, ← hl, show hs0.length = (hs0.map Ho.ptr).length by simp]
   exact List.take_left
 ·exact dE H.ev (p := ⟨o.g, 1, none⟩) (fun e => ga.2.1 e.symm) _
 ·exact fU f1 (fun k hk => hM.block k (iD f1 k hk) (fun e => by subst e; exact hgb (.inl hk)))
 ·rw [e1]; have nd := H.nd; rw [e2] at nd; exact (List.nodup_append.1 nd).1
 ·rw [e1] at hk2; have nd := H.nd; rw [e2] at nd; exact apart nd hk2 hk
theorem leave_void (H : MOn Rd w o m) {hs0 : List Ho} {h : Ho} {r : List Fr} {f : Fr} (ho : o.hs = hs0 ++ [h]) (hf : m.frames = r ++ [f]) (k : Int) (hr : 0 < r.length) (hl : r.length ≤ 1000) :
  Calls Tryd.prog 35 #[o.ptr, h.ptr, .agg #[.int .i64 20, .int .i64 0, .int .i64 k]] w (gN Rd w o { m with frames := r } (.tuple #[])) := by
 have HF := H.top ho hf
 obtain ⟨fg, fc, hfv, hc1, hc2, hcell⟩ := nI H hf
 obtain ⟨L1, hL1⟩ : ∃ L1, L1 = r.length + 1 := ⟨_, rfl⟩
 obtain ⟨n, hn⟩ : ∃ n, n = r.length := ⟨_, rfl⟩
 obtain ⟨i9, hi9, hz9⟩ := Zo.1 qm
 have hcut := kJ (P := Tryd.prog) 65 69 .i64 Tryd.underlying65 hi9 (some ⟨fg, 0, none⟩) L1 fc (n : Int) (by omega) (by omega) (by omega)
 rw [Int.toNat_natCast] at hcut
 have e1 : IntKind.i64.wrap ((L1 : Int) - 1) = (n : Int) := by rw [IntWalk.i64_in _ (by omega)]; omega
 have hfg : fg ≠ o.g := fun e => (iB H).1 (by rw [hfv, e]; rfl)
 have HD := (H.alloc (.cells #[.int .i64 20, .int .i64 0, .int .i64 k] 43)).drew.qK ho hf hfv
 rw [← hn] at HD
 have c1 : (w.alloc (.cells #[.int .i64 20, .int .i64 0, .int .i64 k] 43)).drew.cell? ⟨o.g, 1, none⟩ = some (.slice (some ⟨fg, 0, none⟩) L1 fc) := by
  rw [ae ((H.alloc (.cells #[.int .i64 20, .int .i64 0, .int .i64 k] 43)).drew.blk) 1, hL1, ← hfv]; rfl
 have c2 : (w.alloc (.cells #[.int .i64 20, .int .i64 0, .int .i64 k] 43)).drew.frozen? ⟨o.g, 1, none⟩ = false := ai ((H.alloc (.cells #[.int .i64 20, .int .i64 0, .int .i64 k] 43)).drew.blk) 1
 have cb : (w.alloc (.cells #[.int .i64 20, .int .i64 0, .int .i64 k] 43)).drew.cell? ⟨w.heap.size, 1, none⟩ = some (.int .i64 0) := ae (bW w _) 1
 have nb : o.g ≠ w.heap.size := Nat.ne_of_lt (bF H.blk)
 have HH := aa.mk H; have HK := aa.mk HF; have HDD := aa.mk HD; have HO := aa.mk ho; have HFR := aa.mk hf; have HL1 := aa.mk hL1; have HN := aa.mk hn; have HCL := aa.mk hcell; have HFV := aa.mk hfv
 have HMa := aa.mk (show Mod (fun _ => False) w (w.alloc (.cells #[.int .i64 20, .int .i64 0, .int .i64 k] 43)).drew from ((Mod.refl _ w).alloc _).drew)
 clear H HF HD ho hf hL1 hn hcell hfv hz9 hi9
 show Calls Tryd.prog 35 #[.pointer (some ⟨o.g, 0, none⟩), .pointer (some ⟨h.g, 0, none⟩), .agg #[.int .i64 20, .int .i64 0, .int .i64 k]] w _
 go_enter Tryd.func35, Tryd.ntmps35
 go_wp2
 refine wp_region_still_tail 14 (by kernel_rfl) (by kernel_rfl) ?_
 obtain ⟨w2, hw2⟩ : ∃ w2, w2 = (w.alloc (.cells #[.int .i64 20, .int .i64 0, .int .i64 k] 43)).drew := ⟨_, rfl⟩
 change wpStill _ _ (w.alloc (.cells #[.int .i64 20, .int .i64 0, .int .i64 k] 43)).drew (fun a' => wpList _ _ _ _ a' (w.alloc (.cells #[.int .i64 20, .int .i64 0, .int .i64 k] 43)).drew) _ _
 rw [← hw2] at HDD c1 c2 cb HMa ⊢
 clear hw2
 simp only [List.take_succ_cons, List.take_zero, List.drop_succ_cons, List.drop_zero]
 repeat still_step
 try refine wpStill_nil ?_
 have d0 : ((n : Int) == 0) = false := Zh (by have := HN.out; omega)
 go_wp2
 go_end0
 have hMs : Mod (fun k => k ∈ o.own) w (w2.setCell ⟨o.g, 1, none⟩ (.slice (some ⟨fg, 0, none⟩) n fc)) := (HMa.out.mono (fun _ _ h => h.elim)).setCell (p := ⟨o.g, 1, none⟩) (fun _ => by simp [MHo.own]) _
 have hsub0 := HDD.out.2.1
 have hsub : Sub w o { o with fv := .slice (some ⟨fg, 0, none⟩) n fc, hs := hs0 } := ⟨rfl, fun k hk => .inl (hsub0 k hk)⟩
 exact ⟨rfl, _, hsub, HDD.out.1, hMs⟩
theorem leave_last (H : MOn Rd w o m) {hs0 : List Ho} {h : Ho} {r : List Fr} {f : Fr} (ho : o.hs = hs0 ++ [h]) (hf : m.frames = r ++ [f]) (hr : r.length = 0) (n0 k : Int) (hl : m.events.length + 1 ≤ 4398046511104) :
  Calls Tryd.prog 35 #[o.ptr, h.ptr, .agg #[.int .i64 20, .int .i64 n0, .int .i64 k]] w (gN Rd w o (({ m with frames := r } : Mc).endM 3 0) (.tuple #[])) := by
 have HF := H.top ho hf
 obtain ⟨fg, fc, hfv, hc1, hc2, hcell⟩ := nI H hf
 obtain ⟨L1, hL1⟩ : ∃ L1, L1 = r.length + 1 := ⟨_, rfl⟩
 obtain ⟨n, hn⟩ : ∃ n, n = r.length := ⟨_, rfl⟩
 obtain ⟨i9, hi9, hz9⟩ := Zo.1 qm
 have hcut := kJ (P := Tryd.prog) 65 69 .i64 Tryd.underlying65 hi9 (some ⟨fg, 0, none⟩) L1 fc (n : Int) (by omega) (by omega) (by omega)
 rw [Int.toNat_natCast] at hcut
 have e1 : IntKind.i64.wrap ((L1 : Int) - 1) = (n : Int) := by rw [IntWalk.i64_in _ (by omega)]; omega
 have hfg : fg ≠ o.g := fun e => (iB H).1 (by rw [hfv, e]; rfl)
 have HD := (H.alloc (.cells #[.int .i64 20, .int .i64 n0, .int .i64 k] 43)).drew.qK ho hf hfv
 rw [← hn] at HD
 have c1 : (w.alloc (.cells #[.int .i64 20, .int .i64 n0, .int .i64 k] 43)).drew.cell? ⟨o.g, 1, none⟩ = some (.slice (some ⟨fg, 0, none⟩) L1 fc) := by
  rw [ae ((H.alloc (.cells #[.int .i64 20, .int .i64 n0, .int .i64 k] 43)).drew.blk) 1, hL1, ← hfv]; rfl
 have c2 : (w.alloc (.cells #[.int .i64 20, .int .i64 n0, .int .i64 k] 43)).drew.frozen? ⟨o.g, 1, none⟩ = false := ai ((H.alloc (.cells #[.int .i64 20, .int .i64 n0, .int .i64 k] 43)).drew.blk) 1
 have cb : (w.alloc (.cells #[.int .i64 20, .int .i64 n0, .int .i64 k] 43)).drew.cell? ⟨w.heap.size, 1, none⟩ = some (.int .i64 n0) := ae (bW w _) 1
 have nb : o.g ≠ w.heap.size := Nat.ne_of_lt (bF H.blk)
 have HH := aa.mk H; have HK := aa.mk HF; have HDD := aa.mk HD; have HO := aa.mk ho; have HFR := aa.mk hf; have HL1 := aa.mk hL1; have HN := aa.mk hn; have HCL := aa.mk hcell; have HFV := aa.mk hfv
 have HMa := aa.mk (show Mod (fun _ => False) w (w.alloc (.cells #[.int .i64 20, .int .i64 n0, .int .i64 k] 43)).drew from ((Mod.refl _ w).alloc _).drew)
 clear H HF HD ho hf hL1 hn hcell hfv hz9 hi9
 show Calls Tryd.prog 35 #[.pointer (some ⟨o.g, 0, none⟩), .pointer (some ⟨h.g, 0, none⟩), .agg #[.int .i64 20, .int .i64 n0, .int .i64 k]] w _
 go_enter Tryd.func35, Tryd.ntmps35
 go_wp2
 refine wp_region_still_tail 14 (by kernel_rfl) (by kernel_rfl) ?_
 obtain ⟨w2, hw2⟩ : ∃ w2, w2 = (w.alloc (.cells #[.int .i64 20, .int .i64 n0, .int .i64 k] 43)).drew := ⟨_, rfl⟩
 change wpStill _ _ (w.alloc (.cells #[.int .i64 20, .int .i64 n0, .int .i64 k] 43)).drew (fun a' => wpList _ _ _ _ a' (w.alloc (.cells #[.int .i64 20, .int .i64 n0, .int .i64 k] 43)).drew) _ _
 rw [← hw2] at HDD c1 c2 cb HMa ⊢
 clear hw2
 simp only [List.take_succ_cons, List.take_zero, List.drop_succ_cons, List.drop_zero]
 repeat still_step
 try refine wpStill_nil ?_
 obtain rfl : n = 0 := by rw [HN.out]; exact hr
 go_wp2_with ((with_reducible refine ah (f := 41) rfl ?_); refine gl 27 Tryd.func41 #[.pointer (some ⟨o.g, 0, none⟩), .int .i64 3, .int .i64 0] ?_; refine (qD HDD.out.1 3 0 hl).mono ?_; rintro e w3 ⟨rfl, o3, hsub3, HM3, hmod⟩; have HP := aa.mk (And.intro hsub3 (And.intro HM3 hmod)); clear hsub3 HM3 hmod; refine ⟨_, rfl, ?_⟩)
 go_end0
 obtain ⟨hsub3, HM3, hmod⟩ := HP.out
 have hMs : Mod (fun k => k ∈ o.own) w (w2.setCell ⟨o.g, 1, none⟩ (.slice (some ⟨fg, 0, none⟩) 0 fc)) := (HMa.out.mono (fun _ _ h => h.elim)).setCell (p := ⟨o.g, 1, none⟩) (fun _ => by simp [MHo.own]) _
 have hsub0 := HDD.out.2.1
 have hsub : Sub w o { o with fv := .slice (some ⟨fg, 0, none⟩) 0 fc, hs := hs0 } := ⟨rfl, fun k hk => .inl (hsub0 k hk)⟩
 exact ⟨rfl, o3, hsub.trans hMs.size hsub3, HM3, hMs.trans hmod (fun k hk h => (hsub.2 k h).elim id (fun e => by omega))⟩
theorem leave_ret (H : MOn Rd w o m) {hs1 : List Ho} {h1 h : Ho} {r1 : List Fr} {f1 f : Fr} (ho' : o.hs = (hs1 ++ [h1]) ++ [h]) (hf' : m.frames = (r1 ++ [f1]) ++ [f]) (k x : Int) (s : List Int) (hst : f.stack = s ++ [x]) (hp : f1.stack.length + 1 ≤ 1000000) (hl' : r1.length + 1 ≤ 1000) :
  Calls Tryd.prog 35 #[o.ptr, h.ptr, .agg #[.int .i64 20, .int .i64 1, .int .i64 k]] w (gN Rd w o { m with frames := r1 ++ [{ f1 with stack := f1.stack ++ [x] }] } (.tuple #[])) := by
 obtain ⟨hs0, h0⟩ : ∃ hs0, hs0 = hs1 ++ [h1] := ⟨_, rfl⟩
 obtain ⟨r, hr0⟩ : ∃ r, r = r1 ++ [f1] := ⟨_, rfl⟩
 have ho : o.hs = hs0 ++ [h] := by rw [ho', h0]
 have hf : m.frames = r ++ [f] := by rw [hf', hr0]
 have hrl : r.length = r1.length + 1 := by rw [hr0]; simp
 have hhl : hs1.length = r1.length := by have := H.frs.fB; rw [ho', hf'] at this; simp at this; omega
 have H0 := aa.mk h0; have HR0 := aa.mk hr0; have HRL := aa.mk hrl; have HHL := aa.mk hhl; have HST := aa.mk hst
 clear h0 hr0 ho' hf' hhl hst
 have HF := H.top ho hf
 obtain ⟨fg, fc, hfv, hc1, hc2, hcell⟩ := nI H hf
 obtain ⟨L1, hL1⟩ : ∃ L1, L1 = r.length + 1 := ⟨_, rfl⟩
 obtain ⟨n, hn⟩ : ∃ n, n = r.length := ⟨_, rfl⟩
 obtain ⟨i9, hi9, hz9⟩ := Zo.1 qm
 have hcut := kJ (P := Tryd.prog) 65 69 .i64 Tryd.underlying65 hi9 (some ⟨fg, 0, none⟩) L1 fc (n : Int) (by omega) (by omega) (by omega)
 rw [Int.toNat_natCast] at hcut
 have e1 : IntKind.i64.wrap ((L1 : Int) - 1) = (n : Int) := by rw [IntWalk.i64_in _ (by omega)]; omega
 have hfg : fg ≠ o.g := fun e => (iB H).1 (by rw [hfv, e]; rfl)
 have HD := (H.alloc (.cells #[.int .i64 20, .int .i64 1, .int .i64 k] 43)).drew.qK ho hf hfv
 rw [← hn] at HD
 have c1 : (w.alloc (.cells #[.int .i64 20, .int .i64 1, .int .i64 k] 43)).drew.cell? ⟨o.g, 1, none⟩ = some (.slice (some ⟨fg, 0, none⟩) L1 fc) := by
  rw [ae ((H.alloc (.cells #[.int .i64 20, .int .i64 1, .int .i64 k] 43)).drew.blk) 1, hL1, ← hfv]; rfl
 have c2 : (w.alloc (.cells #[.int .i64 20, .int .i64 1, .int .i64 k] 43)).drew.frozen? ⟨o.g, 1, none⟩ = false := ai ((H.alloc (.cells #[.int .i64 20, .int .i64 1, .int .i64 k] 43)).drew.blk) 1
 have cb : (w.alloc (.cells #[.int .i64 20, .int .i64 1, .int .i64 k] 43)).drew.cell? ⟨w.heap.size, 1, none⟩ = some (.int .i64 1) := ae (bW w _) 1
 have nb : o.g ≠ w.heap.size := Nat.ne_of_lt (bF H.blk)
 have HH := aa.mk H; have HK := aa.mk HF; have HDD := aa.mk HD; have HO := aa.mk ho; have HFR := aa.mk hf; have HL1 := aa.mk hL1; have HN := aa.mk hn; have HCL := aa.mk hcell; have HFV := aa.mk hfv
 have HMa := aa.mk (show Mod (fun _ => False) w (w.alloc (.cells #[.int .i64 20, .int .i64 1, .int .i64 k] 43)).drew from ((Mod.refl _ w).alloc _).drew)
 clear H HF HD ho hf hL1 hn hcell hfv hz9 hi9
 show Calls Tryd.prog 35 #[.pointer (some ⟨o.g, 0, none⟩), .pointer (some ⟨h.g, 0, none⟩), .agg #[.int .i64 20, .int .i64 1, .int .i64 k]] w _
 go_enter Tryd.func35, Tryd.ntmps35
 go_wp2
 refine wp_region_still_tail 14 (by kernel_rfl) (by kernel_rfl) ?_
 obtain ⟨w2, hw2⟩ : ∃ w2, w2 = (w.alloc (.cells #[.int .i64 20, .int .i64 1, .int .i64 k] 43)).drew := ⟨_, rfl⟩
 change wpStill _ _ (w.alloc (.cells #[.int .i64 20, .int .i64 1, .int .i64 k] 43)).drew (fun a' => wpList _ _ _ _ a' (w.alloc (.cells #[.int .i64 20, .int .i64 1, .int .i64 k] 43)).drew) _ _
 rw [← hw2] at HDD c1 c2 cb HMa ⊢
 clear hw2
 simp only [List.take_succ_cons, List.take_zero, List.drop_succ_cons, List.drop_zero]
 repeat still_step
 try refine wpStill_nil ?_
 have d0 : ((n : Int) == 0) = false := Zh (by have := HN.out; have := HRL.out; omega)
 obtain ⟨n1, hn1⟩ : ∃ n1 : Nat, n = n1 + 1 := ⟨n - 1, by have := HN.out; have := HRL.out; omega⟩
 have e5 : IntKind.i64.wrap ((n : Int) - 1) = (n1 : Int) := by rw [IntWalk.i64_in _ (by have := HN.out; omega)]; omega
 have e6 : (0 : Int) ≤ (n1 : Int) := by omega
 have e7 : (n1 : Int) < (n : Int) := by omega
 have hp1 : aa (n1 = hs1.length) := ⟨by have := HN.out; have := HRL.out; have := HHL.out; omega⟩
 clear hn1 hrl
 go_wp2
 have HP0 := HDD.out.1
 have hpt : w2.cell? ⟨fg, n1, none⟩ = some h1.ptr := by
  have q := HCL.out n1 h1.ptr (by rw [HO.out, H0.out, hp1.out]; simp)
  rw [← q]
  exact congrFun (congrArg World.cell? rfl) _ |>.trans (by
   have hb := HMa.out.block fg (by
    have := HH.out.fr.lt fg (by rw [HFV.out]; rfl)
    exact this.2) (fun h => h)
   simp only [World.cell?, hb])
 have k1 : (w2.setCell ⟨o.g, 1, none⟩ (.slice (some ⟨fg, 0, none⟩) n fc)).drew.cell? ⟨o.g, 1, none⟩ = some (.slice (some ⟨fg, 0, none⟩) n fc) := ae HP0.drew.blk 1
 have k2 : (w2.setCell ⟨o.g, 1, none⟩ (.slice (some ⟨fg, 0, none⟩) n fc)).drew.cell? ⟨fg, n1, none⟩ = some (.pointer (some ⟨h1.g, 0, none⟩)) := by
  rw [show (w2.setCell ⟨o.g, 1, none⟩ (.slice (some ⟨fg, 0, none⟩) n fc)).drew.cell? ⟨fg, n1, none⟩ = (w2.setCell ⟨o.g, 1, none⟩ (.slice (some ⟨fg, 0, none⟩) n fc)).cell? ⟨fg, n1, none⟩ from rfl]
  simp only [World.cell?, Below.heap_setCell w2 ⟨o.g, 1, none⟩ (.slice (some ⟨fg, 0, none⟩) n fc) fg hfg] at hpt ⊢
  exact hpt
 have HPOP : aa (Calls Tryd.prog 37 #[.pointer (some ⟨h.g, 0, none⟩)] (w2.setCell ⟨o.g, 1, none⟩ (.slice (some ⟨fg, 0, none⟩) n fc)).drew (fun e w3 => e = .returned (.int .i64 x) ∧ MOn Rd w3 { o with fv := .slice (some ⟨fg, 0, none⟩) n fc, hs := hs0 } { m with frames := r } ∧
   w3.cell? ⟨o.g, 1, none⟩ = some (.slice (some ⟨fg, 0, none⟩) n fc) ∧ w3.cell? ⟨fg, n1, none⟩ = some (.pointer (some ⟨h1.g, 0, none⟩)) ∧ Mod (fun k => k = h.g) (w2.setCell ⟨o.g, 1, none⟩ (.slice (some ⟨fg, 0, none⟩) n fc)).drew w3)) := ⟨by
  refine ((HDD.out.2.2.1.drew).pop s x HST.out).mono ?_
  rintro e w3 ⟨rfl, v3, hv3, HF3, HM3⟩
  have hhb : h.g ∈ h.blocks := by simp [Ho.blocks]
  have HMO := HDD.out.1.drew.mod HM3 (fun k hk e => by subst e; exact hk.elim (fun hk => HDD.out.2.2.2 _ hhb hk) (fun hk => HH.out.rd _ (iO HO.out _ hhb) hk))
  refine ⟨rfl, HMO, ae HMO.blk 1, ?_, HM3⟩
  have hb := HM3.block fg (World.block_lt_of_cell? _ _ k2) (fun e => (iT HH.out HO.out h.g hhb).2.1 (by rw [HFV.out, ← e]; rfl))
  rw [← k2]
  simp only [World.cell?, hb]⟩
 clear hpt HP0 c1 c2
 go_region_held3 (fun W => W.cell? ⟨o.g, 1, none⟩ = some (.slice (some ⟨fg, 0, none⟩) n fc) ∧ W.cell? ⟨fg, n1, none⟩ = some (.pointer (some ⟨h1.g, 0, none⟩))) (first | exact ⟨by assumption, by assumption⟩ | go_keep | exact ⟨q3, q4⟩) (first
  | ((with_reducible refine HPOP.out.mono ?_); rintro e w3 ⟨rfl, HMO, q1, q2, HM3⟩; have HMO := aa.mk HMO; have HM3 := aa.mk HM3; have HTOP : aa (Calls Tryd.prog 38 #[.pointer (some ⟨h1.g, 0, none⟩), .int .i64 x] w3 _) := ⟨(HMO.out.top H0.out HR0.out).push x hp⟩)
  | ((with_reducible refine HTOP.out.mono ?_); rintro e w4 ⟨rfl, v4, hv4, HF4, HM4⟩; have HN4 := aa.mk (HMO.out.lw H0.out HR0.out (HM4.mono (fun k _ h => by rcases h with rfl | h <;> simp [Ho.blocks, *])) hv4 HF4); have q3 := ae HN4.out.blk 1; have q4 : w4.cell? ⟨fg, n1, none⟩ = some (.pointer (some ⟨h1.g, 0, none⟩)) := by { have hb := HM4.block fg (World.block_lt_of_cell? _ _ q2) (fun e => (iT HMO.out H0.out fg (by rcases e with e | e <;> simp [Ho.blocks, e])).2.1 rfl); rw [← q2]; simp only [World.cell?, hb] }; have HM4 := aa.mk HM4; have HV4 := aa.mk hv4; clear HF4 hv4))
 go_end0
 have hMs : Mod (fun k => k ∈ o.own) w (w2.setCell ⟨o.g, 1, none⟩ (.slice (some ⟨fg, 0, none⟩) n fc)) := (HMa.out.mono (fun _ _ h => h.elim)).setCell (p := ⟨o.g, 1, none⟩) (fun _ => by simp [MHo.own]) _
 have hsub0 := HDD.out.2.1
 have hsub : Sub w o { o with fv := .slice (some ⟨fg, 0, none⟩) n fc, hs := hs0 } := ⟨rfl, fun k hk => .inl (hsub0 k hk)⟩
 have hM3 : Mod (fun k => k ∈ o.own) w w3 := hMs.drew.trans HM3.out (fun k _ e => by subst e; exact iO HO.out _ (by simp [Ho.blocks]))
 have ht := iO (o := { o with fv := .slice (some ⟨fg, 0, none⟩) n fc, hs := hs0 }) H0.out
 have hin : ∀ k ∈ h1.blocks, k ∈ o.own := fun k hk => hsub0 k (ht k hk)
 exact ⟨rfl, _, hsub.trans hM3.size (iU H0.out HV4.out), HN4.out, hM3.trans HM4.out (fun k _ h => hin k (by rcases h with rfl | h <;> simp [Ho.blocks, *]))⟩
end
theorem data_drop {w : World} {h : Ho} {f : Fr} (H : dn w h f) (n m x : Int) (s : List Int) (hs : f.stack = s ++ [x]) :
  Calls Tryd.prog 40 #[h.ptr, .agg #[.int .i64 25, .int .i64 n, .int .i64 m]] w (eu w h 0 { f with stack := s }) := by
 obtain ⟨g, vc, vs⟩ := h
 have HH := aa.mk H; clear H; have HS := aa.mk hs; clear hs
 show Calls Tryd.prog 40 #[.pointer (some ⟨g, 0, none⟩), .agg #[.int .i64 25, .int .i64 n, .int .i64 m]] w _
 go_enter Tryd.func40, Tryd.ntmps40
 go_wp2_with ((with_reducible refine ah (f := 37) rfl ?_); refine gl 157 Tryd.func37 #[.pointer (some ⟨g, 0, none⟩)] ?_; refine ((HH.out.alloc _).pop s x HS.out).mono ?_; rintro e w1 ⟨rfl, v1, hv1, HF1, HM1⟩; have HF1 := aa.mk HF1; have HM1 := aa.mk HM1; refine ⟨_, rfl, ?_⟩)
 go_ret
 have HF1 := HF1.out; have HM1 := HM1.out
 refine ⟨rfl, v1, fun k e => .inl (hv1 ▸ e), HF1, ((Mod.refl _ w).alloc _).trans HM1 (fun i hi h => ?_)⟩
 subst h; simp [Ho.blocks]
theorem dn.drewN {w : World} {h : Ho} {f : Fr} (H : dn w h f) (k : Nat) : dn (w.drewN k) h f := H.kept (fun _ _ => rfl)
theorem uk {w w1 w3 : World} {g : Nat} {vc vs v1 v3 : Value} {f3 : Fr} {k : Nat} {o : Obj} (hv1 : v1.ownBlock = vs.ownBlock) (HM1 : Mod (fun k => k = g) (w.alloc o) w1)
  (hv3 : ∀ k', v3.ownBlock = some k' → v1.ownBlock = some k' ∨ (w1.drewN k).heap.size ≤ k') (HF3 : dn w3 ⟨g, vc, v3⟩ f3) (HM3 : Mod (fun k => k = g ∨ v1.ownBlock = some k) (w1.drewN k) w3) : eu w ⟨g, vc, vs⟩ 0 f3 (.returned (.int .i64 0)) w3 := by
 have h1 : w.heap.size ≤ w1.heap.size := Ze (by show _ ≤ (w.heap.push o).size; rw [Array.size_push]; omega) HM1.size
 have hM : Mod (fun k => k ∈ Ho.blocks ⟨g, vc, vs⟩) w (w1.drewN k) := by
  have h2 : Mod (fun k => k ∈ Ho.blocks ⟨g, vc, vs⟩) w w1 := ((Mod.refl _ w).alloc _).trans HM1 (fun i hi h => by subst h; simp [Ho.blocks])
  exact ⟨h2.os, h2.tape, h2.output, h2.size, h2.block⟩
 refine ⟨rfl, v3, fun k' e => ?_, HF3, hM.trans HM3 (fun i hi h => ?_)⟩
 ·rcases hv3 k' e with h | h
  ·exact .inl (hv1 ▸ h)
  ·exact .inr (Ze h1 h)
 ·rcases h with rfl | h
  ·simp [Ho.blocks]
  ·rw [hv1] at h; simp [Ho.blocks, h]
theorem data_neg {w : World} {h : Ho} {f : Fr} (H : dn w h f) (n m x : Int) (s : List Int) (hs : f.stack = s ++ [x]) (hl : f.stack.length ≤ 1000000) :
  Calls Tryd.prog 40 #[h.ptr, .agg #[.int .i64 16, .int .i64 n, .int .i64 m]] w (eu w h 0 { f with stack := s ++ [wrap64 (-x)] }) := by
 obtain ⟨g, vc, vs⟩ := h
 have HH := aa.mk H; clear H; have HS := aa.mk hs; clear hs
 show Calls Tryd.prog 40 #[.pointer (some ⟨g, 0, none⟩), .agg #[.int .i64 16, .int .i64 n, .int .i64 m]] w _
 have hl1 : s.length + 1 ≤ 1000000 := by have e := congrArg List.length HS.out; simp at e; omega
 have HL := aa.mk hl1; clear hl1 hl
 go_enter Tryd.func40, Tryd.ntmps40
 go_wp2_with (first | ((with_reducible refine ah (f := 37) rfl ?_); refine gl 127 Tryd.func37 #[.pointer (some ⟨g, 0, none⟩)] ?_; refine ((HH.out.alloc _).pop s x HS.out).mono ?_; rintro e w1 ⟨rfl, v1, hv1, HF1, HM1⟩; have HF1 := aa.mk HF1; have HM1 := aa.mk HM1; have HV1 := aa.mk hv1; clear hv1; refine ⟨_, rfl, ?_⟩) | ((with_reducible refine ah (f := 52) rfl ?_); refine gl 128 Tryd.func52 #[.int .i64 x] ?_; refine (ql.calls x (wrap64 (-x)) _ rfl).mono ?_; rintro e w2 ⟨rfl, nd, rfl⟩; refine ⟨_, rfl, ?_⟩) | ((with_reducible refine ah (f := 38) rfl ?_); refine gl 129 Tryd.func38 #[.pointer (some ⟨g, 0, none⟩), .int .i64 (wrap64 (-x))] ?_; refine ((HF1.out.drewN _).push (wrap64 (-x)) HL.out).mono ?_; rintro e w3 ⟨rfl, v3, hv3, HF3, HM3⟩; have HF3 := aa.mk HF3; have HM3 := aa.mk HM3; have HV3 := aa.mk hv3; clear hv3; refine ⟨_, rfl, ?_⟩))
 go_ret
 exact uk HV1.out HM1.out HV3.out HF3.out HM3.out
theorem data_not {w : World} {h : Ho} {f : Fr} (H : dn w h f) (n m x : Int) (s : List Int) (hs : f.stack = s ++ [x]) (hl : f.stack.length ≤ 1000000) :
  Calls Tryd.prog 40 #[h.ptr, .agg #[.int .i64 15, .int .i64 n, .int .i64 m]] w (eu w h 0 { f with stack := s ++ [if x = 0 then 1 else 0] }) := by
 obtain ⟨g, vc, vs⟩ := h
 have HH := aa.mk H; clear H; have HS := aa.mk hs; clear hs
 show Calls Tryd.prog 40 #[.pointer (some ⟨g, 0, none⟩), .agg #[.int .i64 15, .int .i64 n, .int .i64 m]] w _
 have hl1 : s.length + 1 ≤ 1000000 := by have e := congrArg List.length HS.out; simp at e; omega
 have HL := aa.mk hl1; clear hl1 hl
 by_cases hx : x = 0
 ·subst hx
  go_enter Tryd.func40, Tryd.ntmps40
  go_wp2_with (first | ((with_reducible refine ah (f := 37) rfl ?_); refine gl 119 Tryd.func37 #[.pointer (some ⟨g, 0, none⟩)] ?_; refine ((HH.out.alloc _).pop s 0 HS.out).mono ?_; rintro e w1 ⟨rfl, v1, hv1, HF1, HM1⟩; have HF1 := aa.mk HF1; have HM1 := aa.mk HM1; have HV1 := aa.mk hv1; clear hv1; refine ⟨_, rfl, ?_⟩) | ((with_reducible refine ah (f := 51) rfl ?_); refine gl 121 Tryd.func51 #[.bool true] ?_; refine (ic.calls true 1 _ rfl).mono ?_; rintro e w2 ⟨rfl, nd, rfl⟩; refine ⟨_, rfl, ?_⟩) | ((with_reducible refine ah (f := 38) rfl ?_); refine gl 122 Tryd.func38 #[.pointer (some ⟨g, 0, none⟩), .int .i64 1] ?_; refine ((HF1.out.drewN _).push 1 HL.out).mono ?_; rintro e w3 ⟨rfl, v3, hv3, HF3, HM3⟩; have HF3 := aa.mk HF3; have HM3 := aa.mk HM3; have HV3 := aa.mk hv3; clear hv3; refine ⟨_, rfl, ?_⟩))
  go_ret
  exact uk HV1.out HM1.out HV3.out HF3.out HM3.out
 ·rw [if_neg hx]
  have hxb : (x == 0) = false := Zh hx
  go_enter Tryd.func40, Tryd.ntmps40
  go_wp2_with (first | ((with_reducible refine ah (f := 37) rfl ?_); refine gl 119 Tryd.func37 #[.pointer (some ⟨g, 0, none⟩)] ?_; refine ((HH.out.alloc _).pop s x HS.out).mono ?_; rintro e w1 ⟨rfl, v1, hv1, HF1, HM1⟩; have HF1 := aa.mk HF1; have HM1 := aa.mk HM1; have HV1 := aa.mk hv1; clear hv1; refine ⟨_, rfl, ?_⟩) | ((with_reducible refine ah (f := 51) rfl ?_); refine gl 121 Tryd.func51 #[.bool false] ?_; refine (ic.calls false 0 _ rfl).mono ?_; rintro e w2 ⟨rfl, nd, rfl⟩; refine ⟨_, rfl, ?_⟩) | ((with_reducible refine ah (f := 38) rfl ?_); refine gl 122 Tryd.func38 #[.pointer (some ⟨g, 0, none⟩), .int .i64 0] ?_; refine ((HF1.out.drewN _).push 0 HL.out).mono ?_; rintro e w3 ⟨rfl, v3, hv3, HF3, HM3⟩; have HF3 := aa.mk HF3; have HM3 := aa.mk HM3; have HV3 := aa.mk hv3; clear hv3; refine ⟨_, rfl, ?_⟩))
  go_ret
  exact uk HV1.out HM1.out HV3.out HF3.out HM3.out
theorem dn.setAt {w : World} {g : Nat} {vc vs : Value} {f : Fr} (H : dn w ⟨g, vc, vs⟩ f) (n : Int) : dn (w.setCell ⟨g, 1, none⟩ (.int .i64 n)) ⟨g, vc, vs⟩ { f with at_ := n } :=
 ⟨dH H.blk 1 _, bZ H.cs (fun k e => Below.heap_setCell _ _ _ _ (by rintro rfl; exact H.vc_ne e)), bZ H.st (fun k e => Below.heap_setCell _ _ _ _ (by rintro rfl; exact H.vs_ne e)), H.nd⟩
theorem data_jump {w : World} {h : Ho} {f : Fr} (H : dn w h f) (n m : Int) :
  Calls Tryd.prog 40 #[h.ptr, .agg #[.int .i64 17, .int .i64 n, .int .i64 m]] w (eu w h 0 { f with at_ := n }) := by
 obtain ⟨g, vc, vs⟩ := h
 have a0 : (w.alloc (.cells #[.int .i64 17, .int .i64 n, .int .i64 m] 43)).cell? ⟨g, 1, none⟩ = some (.int .i64 f.at_) := ae (bv H.blk _) 1
 have a1 : (w.alloc (.cells #[.int .i64 17, .int .i64 n, .int .i64 m] 43)).frozen? ⟨g, 1, none⟩ = false := ai (bv H.blk _) 1
 have HH := aa.mk H; clear H
 show Calls Tryd.prog 40 #[.pointer (some ⟨g, 0, none⟩), .agg #[.int .i64 17, .int .i64 n, .int .i64 m]] w _
 go_enter Tryd.func40, Tryd.ntmps40
 go_wp2
 go_ret
 exact ⟨rfl, vs, fun k e => .inl e, (HH.out.alloc _).setAt n, ((Mod.refl _ w).alloc _).setCell (p := ⟨g, 1, none⟩) (fun _ => by simp [Ho.blocks]) _⟩
theorem data_zero {w : World} {h : Ho} {f : Fr} (H : dn w h f) (n m x : Int) (s : List Int) (hs : f.stack = s ++ [x]) :
  Calls Tryd.prog 40 #[h.ptr, .agg #[.int .i64 18, .int .i64 n, .int .i64 m]] w (eu w h 0 { f with stack := s, at_ := if x = 0 then n else f.at_ }) := by
 obtain ⟨g, vc, vs⟩ := h
 have HG := aa.mk (bF H.blk); have HH := aa.mk H; clear H; have HS := aa.mk hs; clear hs
 show Calls Tryd.prog 40 #[.pointer (some ⟨g, 0, none⟩), .agg #[.int .i64 18, .int .i64 n, .int .i64 m]] w _
 by_cases hx : x = 0
 ·subst hx
  go_enter Tryd.func40, Tryd.ntmps40
  go_wp2_with (first | ((with_reducible refine ah (f := 37) rfl ?_); refine gl 141 Tryd.func37 #[.pointer (some ⟨g, 0, none⟩)] ?_; refine ((HH.out.alloc _).pop s 0 HS.out).mono ?_; rintro e w1 ⟨rfl, v1, hv1, HF1, HM1⟩; have b0 : w1.cell? ⟨g, 1, none⟩ = some (.int .i64 f.at_) := ae HF1.blk 1; have b2 : w1.cell? ⟨w.heap.size, 1, none⟩ = some (.int .i64 n) := ae ((HM1.block w.heap.size (by show _ < (w.heap.push _).size; rw [Array.size_push]; omega) (Nat.ne_of_gt HG.out)).trans (bW w _)) 1; have b1 : w1.frozen? ⟨g, 1, none⟩ = false := ai HF1.blk 1; have HF1 := aa.mk HF1; have HM1 := aa.mk HM1; have HV1 := aa.mk hv1; clear hv1; refine ⟨_, rfl, ?_⟩))
  go_ret
  have HF1 := HF1.out; have HM1 := HM1.out; have HV1 := HV1.out
  refine ⟨rfl, v1, fun k e => .inl (HV1 ▸ e), HF1.setAt n, (((Mod.refl _ w).alloc _).trans HM1 (fun i hi h => ?_)).setCell (p := ⟨g, 1, none⟩) (fun _ => by simp [Ho.blocks]) _⟩
  subst h; simp [Ho.blocks]
 ·rw [if_neg hx]
  have hxb : (x == 0) = false := Zh hx
  go_enter Tryd.func40, Tryd.ntmps40
  go_wp2_with (first | ((with_reducible refine ah (f := 37) rfl ?_); refine gl 141 Tryd.func37 #[.pointer (some ⟨g, 0, none⟩)] ?_; refine ((HH.out.alloc _).pop s x HS.out).mono ?_; rintro e w1 ⟨rfl, v1, hv1, HF1, HM1⟩; have b0 : w1.cell? ⟨g, 1, none⟩ = some (.int .i64 f.at_) := ae HF1.blk 1; have b1 : w1.frozen? ⟨g, 1, none⟩ = false := ai HF1.blk 1; have HF1 := aa.mk HF1; have HM1 := aa.mk HM1; have HV1 := aa.mk hv1; clear hv1; refine ⟨_, rfl, ?_⟩))
  go_ret
  have HF1 := HF1.out; have HM1 := HM1.out; have HV1 := HV1.out
  refine ⟨rfl, v1, fun k e => .inl (HV1 ▸ e), HF1, ((Mod.refl _ w).alloc _).trans HM1 (fun i hi h => ?_)⟩
  subst h; simp [Ho.blocks]
theorem data_test {w : World} {h : Ho} {f : Fr} (H : dn w h f) (n m x : Int) (s : List Int) (hs : f.stack = s ++ [x]) :
  Calls Tryd.prog 40 #[h.ptr, .agg #[.int .i64 23, .int .i64 n, .int .i64 m]] w (eu w h (if x = 0 then 3 else 0) { f with stack := s }) := by
 obtain ⟨g, vc, vs⟩ := h
 have HH := aa.mk H; clear H; have HS := aa.mk hs; clear hs
 show Calls Tryd.prog 40 #[.pointer (some ⟨g, 0, none⟩), .agg #[.int .i64 23, .int .i64 n, .int .i64 m]] w _
 by_cases hx : x = 0
 ·subst hx
  go_enter Tryd.func40, Tryd.ntmps40
  go_wp2_with (first | ((with_reducible refine ah (f := 37) rfl ?_); refine gl 152 Tryd.func37 #[.pointer (some ⟨g, 0, none⟩)] ?_; refine ((HH.out.alloc _).pop s 0 HS.out).mono ?_; rintro e w1 ⟨rfl, v1, hv1, HF1, HM1⟩; have HF1 := aa.mk HF1; have HM1 := aa.mk HM1; have HV1 := aa.mk hv1; clear hv1; refine ⟨_, rfl, ?_⟩))
  go_ret
  have HF1 := HF1.out; have HM1 := HM1.out; have HV1 := HV1.out
  refine ⟨rfl, v1, fun k e => .inl (HV1 ▸ e), HF1, ((Mod.refl _ w).alloc _).trans HM1 (fun i hi h => ?_)⟩
  subst h; simp [Ho.blocks]
 ·rw [if_neg hx]
  have hxb : (x == 0) = false := Zh hx
  go_enter Tryd.func40, Tryd.ntmps40
  go_wp2_with (first | ((with_reducible refine ah (f := 37) rfl ?_); refine gl 152 Tryd.func37 #[.pointer (some ⟨g, 0, none⟩)] ?_; refine ((HH.out.alloc _).pop s x HS.out).mono ?_; rintro e w1 ⟨rfl, v1, hv1, HF1, HM1⟩; have HF1 := aa.mk HF1; have HM1 := aa.mk HM1; have HV1 := aa.mk hv1; clear hv1; refine ⟨_, rfl, ?_⟩))
  go_ret
  have HF1 := HF1.out; have HM1 := HM1.out; have HV1 := HV1.out
  refine ⟨rfl, v1, fun k e => .inl (HV1 ▸ e), HF1, ((Mod.refl _ w).alloc _).trans HM1 (fun i hi h => ?_)⟩
  subst h; simp [Ho.blocks]
theorem dn.cross {w : World} {h : Ho} {f : Fr} (H : dn w h f) (k : Nat) (e : h.vc.ownBlock = some k) : h.vs.ownBlock ≠ some k := fun e2 => by
 have nd := H.nd
 simp [Ho.blocks, e, e2] at nd
theorem dn.setCells {w : World} {g sg cap : Nat} {vs : Value} {f : Fr} (H : dn w ⟨g, .slice (some ⟨sg, 0, none⟩) f.cells.length cap, vs⟩ f) (n : Nat) (x : Int) (hn : n < f.cells.length) :
  dn (w.setCell ⟨sg, n, none⟩ (.int .i64 x)) ⟨g, .slice (some ⟨sg, 0, none⟩) f.cells.length cap, vs⟩ { f with cells := f.cells.set n x } := by
 have nd := H.nd
 have e1 : sg ≠ g := by have := H.vc_ne; simpa [Value.ownBlock] using this
 have e2 : vs.ownBlock ≠ some sg := H.cross sg rfl
 refine ⟨(Below.heap_setCell _ _ _ _ (Ne.symm e1)).trans H.blk, ?_, bZ H.st (fun k e => Below.heap_setCell _ _ _ _ (by rintro rfl; exact e2 e)), H.nd⟩
 rcases H.cs.2 with ⟨_, h0⟩ | ⟨sg', cap', cur, he, hb, hh, hn', hcap, hsz, htk⟩
 ·omega
 ·have e3 : sg = sg' := by simpa using (Value.slice.inj he).1
  have e4 : cap = cap' := (Value.slice.inj he).2.2
  subst e3 e4
  refine ⟨by simp [ints], .inr ⟨sg, cap, cur.setIfInBounds n (.int .i64 x), by simp, hb, dH hh n _, by simpa using hn', hcap, by simpa using hsz, ?_⟩⟩
  show ((cur.setIfInBounds n (.int .i64 x)).toList.take ((f.cells.set n x).length * 1)) = ints (f.cells.set n x)
  rw [Array.toList_setIfInBounds, List.take_set, show (f.cells.set n x).length * 1 = f.cells.length * 1 by simp, htk]
  simp [ints, List.map_set]
theorem dn.cellAt {w : World} {g sg l cap : Nat} {vs : Value} {f : Fr} (H : dn w ⟨g, .slice (some ⟨sg, 0, none⟩) l cap, vs⟩ f) (n : Nat) (hn : n < f.cells.length) :
  w.cell? ⟨sg, n, none⟩ = some (.int .i64 (f.cells.getD n 0)) ∧ w.frozen? ⟨sg, n, none⟩ = false := by
 obtain ⟨sg', cap', cur, e, _, _, hh, hsz, hcell⟩ := gT H.cs (by intro e; simp [e] at hn)
 have q : sg = sg' := by simpa using (Value.slice.inj e).1
 subst q
 refine ⟨hcell n _ ?_, ai hh n⟩
 rw [Zi hn, List.getD_eq_getElem?_getD, Zi hn]
 rfl
theorem data_store {w : World} {h : Ho} {f : Fr} (H : dn w h f) (n : Nat) (m x : Int) (s : List Int) (hs : f.stack = s ++ [x]) (hn : n < f.cells.length) :
  Calls Tryd.prog 40 #[h.ptr, .agg #[.int .i64 3, .int .i64 n, .int .i64 m]] w (eu w h 0 { f with cells := f.cells.set n x, stack := s }) := by
 obtain ⟨g, vc, vs⟩ := h
 obtain ⟨sg, cap, cur, rfl, hn2, hcap, hh, hsz, hcell⟩ := gT H.cs (by intro e; simp [e] at hn)
 have hb := H.blk; have hgl := bF hb; have hsl := bF hh
 have esg : sg ≠ g := by have := H.vc_ne; simpa [Value.ownBlock] using this
 have HH := aa.mk (H.alloc (.cells #[.int .i64 3, .int .i64 n, .int .i64 m] 43)).drew; have hne1 : w.heap.size ≠ g := Nat.ne_of_gt hgl; have hne2 : sg ≠ w.heap.size := Nat.ne_of_lt hsl
 have c3 : (w.alloc (.cells #[.int .i64 3, .int .i64 n, .int .i64 m] 43)).drew.cell? ⟨g, 3, none⟩ = some (.slice (some ⟨sg, 0, none⟩) f.cells.length cap) := ae HH.out.blk 3
 have c1 : (w.alloc (.cells #[.int .i64 3, .int .i64 n, .int .i64 m] 43)).drew.cell? ⟨w.heap.size, 1, none⟩ = some (.int .i64 n) := ae (bW w _) 1
 have HS := aa.mk hs; clear hs H hb hh hcell hsz
 have HN := aa.mk hn
 have hneA := aa.mk hne1; have hsgA := aa.mk hsl; have hesg := aa.mk esg
 have HC : aa (Calls Tryd.prog 37 #[.pointer (some ⟨g, 0, none⟩)] (w.alloc (.cells #[.int .i64 3, .int .i64 n, .int .i64 m] 43)).drew _) := ⟨HH.out.pop s x HS.out⟩
 show Calls Tryd.prog 40 #[.pointer (some ⟨g, 0, none⟩), .agg #[.int .i64 3, .int .i64 n, .int .i64 m]] w _
 go_enter Tryd.func40, Tryd.ntmps40
 go_wp2
 go_region_held3 (fun W => W.cell? ⟨g, 3, none⟩ = some (.slice (some ⟨sg, 0, none⟩) f.cells.length cap) ∧ W.cell? ⟨w.heap.size, 1, none⟩ = some (.int .i64 n)) (first | exact ⟨by assumption, by assumption⟩ | go_keep) (((with_reducible refine HC.out.mono ?_); rintro e w1 ⟨rfl, v1, hv1, HF1, HM1⟩; have k3 : w1.cell? ⟨g, 3, none⟩ = some (.slice (some ⟨sg, 0, none⟩) f.cells.length cap) := ae HF1.blk 3; have k1 : w1.cell? ⟨w.heap.size, 1, none⟩ = some (.int .i64 n) := ae ((HM1.block w.heap.size (by show _ < (w.heap.push _).size; rw [Array.size_push]; omega) hneA.out).trans (bW w _)) 1; obtain ⟨kc, kf⟩ := HF1.cellAt n HN.out; have HF1 := aa.mk HF1; have HM1 := aa.mk HM1; have HV1 := aa.mk hv1; clear hv1))
 go_wp2
 go_ret
 refine ⟨rfl, v1, fun k e => .inl (HV1.out ▸ e), dn.setCells (f := { f with stack := s }) HF1.out n x HN.out, ((((Mod.refl _ w).alloc _).drew).trans HM1.out (fun i hi h => ?_)).setCell (p := ⟨sg, n, none⟩) (fun _ => by simp [Ho.blocks, Value.ownBlock]) _⟩
 subst h; simp [Ho.blocks]
theorem dn.below {w w' : World} {h : Ho} {f : Fr} (H : dn w h f) (hb : Below w.heap.size w w') : dn w' h f := H.mod (Mod.of_below hb (fun _ => False)) (fun _ _ h => h)
theorem data_index_trap {w : World} {h : Ho} {f : Fr} (H : dn w h f) (n m x : Int) (s : List Int) (hs : f.stack = s ++ [x]) (hx : x < 0 ∨ m ≤ x) :
  Calls Tryd.prog 40 #[h.ptr, .agg #[.int .i64 4, .int .i64 n, .int .i64 m]] w (eu w h 2 { f with stack := s }) := by
 obtain ⟨g, vc, vs⟩ := h
 have hgl := bF H.blk
 have HH := aa.mk (H.alloc (.cells #[.int .i64 4, .int .i64 n, .int .i64 m] 43)).drew; have hneA := aa.mk (Nat.ne_of_gt hgl)
 have c0 : (w.alloc (.cells #[.int .i64 4, .int .i64 n, .int .i64 m] 43)).drew.cell? ⟨w.heap.size, 0, none⟩ = some (.int .i64 4) := ae (bW w _) 0
 have c1 : (w.alloc (.cells #[.int .i64 4, .int .i64 n, .int .i64 m] 43)).drew.cell? ⟨w.heap.size, 1, none⟩ = some (.int .i64 n) := ae (bW w _) 1
 have c2 : (w.alloc (.cells #[.int .i64 4, .int .i64 n, .int .i64 m] 43)).drew.cell? ⟨w.heap.size, 2, none⟩ = some (.int .i64 m) := ae (bW w _) 2
 have HS := aa.mk hs; clear hs H
 have HC : aa (Calls Tryd.prog 37 #[.pointer (some ⟨g, 0, none⟩)] (w.alloc (.cells #[.int .i64 4, .int .i64 n, .int .i64 m] 43)).drew _) := ⟨HH.out.pop s x HS.out⟩
 have HK : aa (gK.f 4 n m x = some (0, 2)) := ⟨by
  unfold gK.f
  by_cases h : x < 0
  ·rw [if_pos h]
  ·rw [if_neg h, if_pos (by omega)]⟩
 clear hx
 show Calls Tryd.prog 40 #[.pointer (some ⟨g, 0, none⟩), .agg #[.int .i64 4, .int .i64 n, .int .i64 m]] w _
 go_enter Tryd.func40, Tryd.ntmps40
 go_wp2
 go_region_held3 (fun W => W.cell? ⟨w.heap.size, 0, none⟩ = some (.int .i64 4) ∧ W.cell? ⟨w.heap.size, 1, none⟩ = some (.int .i64 n) ∧ W.cell? ⟨w.heap.size, 2, none⟩ = some (.int .i64 m)) (first | exact ⟨by assumption, by assumption, by assumption⟩ | go_keep) (first | ((with_reducible refine HC.out.mono ?_); rintro e w1 ⟨rfl, v1, hv1, HF1, HM1⟩; have kb := (HM1.block w.heap.size (by show _ < (w.heap.push _).size; rw [Array.size_push]; omega) hneA.out).trans (bW w _); have k0 := ae kb 0; have k1 := ae kb 1; have k2 := ae kb 2; have HB := aa.mk kb; have HF1 := aa.mk HF1; have HM1 := aa.mk HM1; have HV1 := aa.mk hv1; clear hv1 kb) | ((with_reducible refine (gK.calls 4 n m x 0 2 _ HK.out).mono ?_); rintro e w2 ⟨rfl, hb⟩; have kb := cB HB.out hb; have k0 := ae kb 0; have k1 := ae kb 1; have k2 := ae kb 2; have HB2 := aa.mk hb; clear hb kb))
 go_wp2
 go_ret
 refine ⟨rfl, v1, fun k e => .inl (HV1.out ▸ e), HF1.out.below HB2.out, ((((Mod.refl _ w).alloc _).drew).trans HM1.out (fun i hi h => ?_)).trans (Mod.of_below HB2.out (fun _ => False)) (fun _ _ h => h.elim)⟩
 subst h; simp [Ho.blocks]
theorem post3 {w w1 w2 w3 : World} {g : Nat} {vc vs v1 v3 : Value} {f3 : Fr} {o : Obj} {r : Int} (hv1 : v1.ownBlock = vs.ownBlock) (HM1 : Mod (fun k => k = g) (w.alloc o).drew w1) (hb : Below w1.heap.size w1 w2)
  (hv3 : ∀ k', v3.ownBlock = some k' → v1.ownBlock = some k' ∨ w2.heap.size ≤ k') (HF3 : dn w3 ⟨g, vc, v3⟩ f3) (HM3 : Mod (fun k => k = g ∨ v1.ownBlock = some k) w2 w3) : eu w ⟨g, vc, vs⟩ r f3 (.returned (.int .i64 r)) w3 := by
 have h1 : w.heap.size ≤ w2.heap.size := Ze (Ze (by show _ ≤ (w.heap.push o).size; rw [Array.size_push]; omega) HM1.size) hb.size
 have hM : Mod (fun k => k ∈ Ho.blocks ⟨g, vc, vs⟩) w w2 := (((Mod.refl _ w).alloc o).drew.trans HM1 (fun i hi h => by subst h; simp [Ho.blocks])).trans (Mod.of_below hb (fun _ => False)) (fun _ _ h => h.elim)
 refine ⟨rfl, v3, fun k' e => ?_, HF3, hM.trans HM3 (fun i hi h => ?_)⟩
 ·rcases hv3 k' e with h | h
  ·exact .inl (hv1 ▸ h)
  ·exact .inr (Ze h1 h)
 ·rcases h with rfl | h
  ·simp [Ho.blocks]
  ·rw [hv1] at h; simp [Ho.blocks, h]
theorem data_index_ok {w : World} {h : Ho} {f : Fr} (H : dn w h f) (n m x y : Int) (j : Nat) (s : List Int) (hy : f.cells.getD j 0 = y) (hs : f.stack = s ++ [x]) (hx : 0 ≤ x) (hxm : x < m) (hj : n + x = j) (hjl : j < f.cells.length) (hl : f.stack.length ≤ 1000000) (hc : f.cells.length ≤ 1000000) :
  Calls Tryd.prog 40 #[h.ptr, .agg #[.int .i64 4, .int .i64 n, .int .i64 m]] w (eu w h 0 { f with stack := s ++ [y] }) := by
 obtain ⟨g, vc, vs⟩ := h
 have hgl := bF H.blk
 have HH := aa.mk (H.alloc (.cells #[.int .i64 4, .int .i64 n, .int .i64 m] 43)).drew; have hneA := aa.mk (Nat.ne_of_gt hgl)
 have c0 : (w.alloc (.cells #[.int .i64 4, .int .i64 n, .int .i64 m] 43)).drew.cell? ⟨w.heap.size, 0, none⟩ = some (.int .i64 4) := ae (bW w _) 0
 have c1 : (w.alloc (.cells #[.int .i64 4, .int .i64 n, .int .i64 m] 43)).drew.cell? ⟨w.heap.size, 1, none⟩ = some (.int .i64 n) := ae (bW w _) 1
 have c2 : (w.alloc (.cells #[.int .i64 4, .int .i64 n, .int .i64 m] 43)).drew.cell? ⟨w.heap.size, 2, none⟩ = some (.int .i64 m) := ae (bW w _) 2
 obtain ⟨sg, cap, cur, rfl, hn2, hcap, _⟩ := gT H.cs (by intro e; simp [e] at hjl)
 have hl1 : s.length + 1 ≤ 1000000 := by have e := congrArg List.length hs; simp at e; omega
 have HS := aa.mk hs; have HL := aa.mk hl1; clear hs H hl hl1
 have HC : aa (Calls Tryd.prog 37 #[.pointer (some ⟨g, 0, none⟩)] (w.alloc (.cells #[.int .i64 4, .int .i64 n, .int .i64 m] 43)).drew _) := ⟨HH.out.pop s x HS.out⟩
 have HK : aa (gK.f 4 n m x = some ((j : Int), 0)) := ⟨by
  unfold gK.f
  rw [if_neg (by omega), if_neg (by omega), hj, show wrap64 (j : Int) = j by unfold wrap64; omega]⟩
 have HJ := aa.mk hjl; have HY := aa.mk hy; clear hj hx hxm hc hy
 show Calls Tryd.prog 40 #[.pointer (some ⟨g, 0, none⟩), .agg #[.int .i64 4, .int .i64 n, .int .i64 m]] w _
 go_enter Tryd.func40, Tryd.ntmps40
 go_wp2
 go_region_held3 (fun W => W.cell? ⟨w.heap.size, 0, none⟩ = some (.int .i64 4) ∧ W.cell? ⟨w.heap.size, 1, none⟩ = some (.int .i64 n) ∧ W.cell? ⟨w.heap.size, 2, none⟩ = some (.int .i64 m)) (first | exact ⟨by assumption, by assumption, by assumption⟩ | go_keep) (first | ((with_reducible refine HC.out.mono ?_); rintro e w1 ⟨rfl, v1, hv1, HF1, HM1⟩; have kb := (HM1.block w.heap.size (by show _ < (w.heap.push _).size; rw [Array.size_push]; omega) hneA.out).trans (bW w _); have k0 := ae kb 0; have k1 := ae kb 1; have k2 := ae kb 2; have HB := aa.mk kb; have HF1 := aa.mk HF1; have HM1 := aa.mk HM1; have HV1 := aa.mk hv1; clear hv1 kb) | ((with_reducible refine (gK.calls 4 n m x j 0 _ HK.out).mono ?_); rintro e w2 ⟨rfl, hb⟩; have kb := cB HB.out hb; have k0 := ae kb 0; have k1 := ae kb 1; have k2 := ae kb 2; have HB2 := aa.mk hb; clear hb kb))
 have HF2 := aa.mk (HF1.out.below HB2.out)
 have q3 : w2.cell? ⟨g, 3, none⟩ = some (.slice (some ⟨sg, 0, none⟩) f.cells.length cap) := ae HF2.out.blk 3
 have qc := (HF2.out.cellAt j HJ.out).1
 rw [HY.out] at qc
 go_wp2_with ((with_reducible refine ah (f := 38) rfl ?_); refine gl 79 Tryd.func38 #[.pointer (some ⟨g, 0, none⟩), .int .i64 y] ?_; refine (HF2.out.push y HL.out).mono ?_; rintro e w3 ⟨rfl, v3, hv3, HF3, HM3⟩; have HF3 := aa.mk HF3; have HM3 := aa.mk HM3; have HV3 := aa.mk hv3; clear hv3; refine ⟨_, rfl, ?_⟩)
 go_ret
 exact post3 HV1.out HM1.out HB2.out HV3.out HF3.out HM3.out
theorem data_put_trap {w : World} {h : Ho} {f : Fr} (H : dn w h f) (n m a x : Int) (s : List Int) (hs : f.stack = s ++ [a] ++ [x]) (hx : a < 0 ∨ m ≤ a) :
  Calls Tryd.prog 40 #[h.ptr, .agg #[.int .i64 5, .int .i64 n, .int .i64 m]] w (eu w h 2 { f with stack := s }) := by
 obtain ⟨g, vc, vs⟩ := h
 have hneA := aa.mk (Nat.ne_of_gt (bF H.blk))
 have HC0 : aa (Calls Tryd.prog 37 #[.pointer (some ⟨g, 0, none⟩)] (w.alloc (.cells #[.int .i64 5, .int .i64 n, .int .i64 m] 43)) _) := ⟨(H.alloc _).pop (s ++ [a]) x hs⟩
 clear hs H
 have HK : aa (gK.f 5 n m a = some (0, 2)) := ⟨by
  unfold gK.f
  by_cases h : a < 0
  ·rw [if_pos h]
  ·rw [if_neg h, if_pos (by omega)]⟩
 clear hx
 show Calls Tryd.prog 40 #[.pointer (some ⟨g, 0, none⟩), .agg #[.int .i64 5, .int .i64 n, .int .i64 m]] w _
 go_enter Tryd.func40, Tryd.ntmps40
 go_wp2_with ((with_reducible refine ah (f := 37) rfl ?_); refine gl 83 Tryd.func37 #[.pointer (some ⟨g, 0, none⟩)] ?_; refine (HC0.out).mono ?_; rintro e w0 ⟨rfl, v0, hv0, HF0, HM0⟩; have kb := (HM0.block w.heap.size (by show _ < (w.heap.push _).size; rw [Array.size_push]; omega) hneA.out).trans (bW w _); have c0 := ae (bD kb) 0; have c1 := ae (bD kb) 1; have c2 := ae (bD kb) 2; have HB0 := aa.mk kb; have HC : aa (Calls Tryd.prog 37 #[.pointer (some ⟨g, 0, none⟩)] w0.drew _) := ⟨HF0.drew.pop s a rfl⟩; have HF0 := aa.mk HF0; have HM0 := aa.mk HM0; have HV0 := aa.mk hv0; have hlt0 := aa.mk (bF kb); clear hv0 kb; refine ⟨_, rfl, ?_⟩)
 go_region_held3 (fun W => W.cell? ⟨w.heap.size, 0, none⟩ = some (.int .i64 5) ∧ W.cell? ⟨w.heap.size, 1, none⟩ = some (.int .i64 n) ∧ W.cell? ⟨w.heap.size, 2, none⟩ = some (.int .i64 m)) (first | exact ⟨by assumption, by assumption, by assumption⟩ | go_keep) (first | ((with_reducible refine HC.out.mono ?_); rintro e w1 ⟨rfl, v1, hv1, HF1, HM1⟩; have kb := (HM1.block w.heap.size (show w.heap.size < w0.heap.size from hlt0.out) hneA.out).trans HB0.out; have k0 := ae kb 0; have k1 := ae kb 1; have k2 := ae kb 2; have HB := aa.mk kb; have HF1 := aa.mk HF1; have HM1 := aa.mk HM1; have HV1 := aa.mk hv1; clear hv1 kb) | ((with_reducible refine (gK.calls 5 n m a 0 2 _ HK.out).mono ?_); rintro e w2 ⟨rfl, hb⟩; have kb := cB HB.out hb; have k0 := ae kb 0; have k1 := ae kb 1; have k2 := ae kb 2; have HB2 := aa.mk hb; clear hb kb))
 go_wp2
 go_ret
 exact ⟨rfl, v1, fun k e => .inl (HV0.out ▸ HV1.out ▸ e), HF1.out.below HB2.out, (((Mod.refl _ w).alloc _).trans HM0.out (fun i hi h => by subst h; simp [Ho.blocks]) |>.drew.trans HM1.out (fun i hi h => by subst h; simp [Ho.blocks])).trans (Mod.of_below HB2.out (fun _ => False)) (fun _ _ h => h.elim)⟩
theorem data_put_ok {w : World} {h : Ho} {f : Fr} (H : dn w h f) (n m a x : Int) (j : Nat) (s : List Int) (hs : f.stack = s ++ [a] ++ [x]) (hx : 0 ≤ a) (hxm : a < m) (hj : n + a = j) (hjl : j < f.cells.length) (hc : f.cells.length ≤ 1000000) :
  Calls Tryd.prog 40 #[h.ptr, .agg #[.int .i64 5, .int .i64 n, .int .i64 m]] w (eu w h 0 { f with cells := f.cells.set j x, stack := s }) := by
 obtain ⟨g, vc, vs⟩ := h
 have hneA := aa.mk (Nat.ne_of_gt (bF H.blk))
 obtain ⟨sg, cap, cur, rfl, hn2, hcap, _⟩ := gT H.cs (by intro e; simp [e] at hjl)
 have HC0 : aa (Calls Tryd.prog 37 #[.pointer (some ⟨g, 0, none⟩)] (w.alloc (.cells #[.int .i64 5, .int .i64 n, .int .i64 m] 43)) _) := ⟨(H.alloc _).pop (s ++ [a]) x hs⟩
 clear hs H
 have HK : aa (gK.f 5 n m a = some ((j : Int), 0)) := ⟨by
  unfold gK.f
  rw [if_neg (by omega), if_neg (by omega), hj, show wrap64 (j : Int) = j by unfold wrap64; omega]⟩
 have HJ := aa.mk hjl; clear hj hx hxm hc
 show Calls Tryd.prog 40 #[.pointer (some ⟨g, 0, none⟩), .agg #[.int .i64 5, .int .i64 n, .int .i64 m]] w _
 go_enter Tryd.func40, Tryd.ntmps40
 go_wp2_with ((with_reducible refine ah (f := 37) rfl ?_); refine gl 83 Tryd.func37 #[.pointer (some ⟨g, 0, none⟩)] ?_; refine (HC0.out).mono ?_; rintro e w0 ⟨rfl, v0, hv0, HF0, HM0⟩; have kb := (HM0.block w.heap.size (by show _ < (w.heap.push _).size; rw [Array.size_push]; omega) hneA.out).trans (bW w _); have c0 := ae (bD kb) 0; have c1 := ae (bD kb) 1; have c2 := ae (bD kb) 2; have HB0 := aa.mk kb; have HC : aa (Calls Tryd.prog 37 #[.pointer (some ⟨g, 0, none⟩)] w0.drew _) := ⟨HF0.drew.pop s a rfl⟩; have HF0 := aa.mk HF0; have HM0 := aa.mk HM0; have HV0 := aa.mk hv0; have hlt0 := aa.mk (bF kb); clear hv0 kb; refine ⟨_, rfl, ?_⟩)
 go_region_held3 (fun W => W.cell? ⟨w.heap.size, 0, none⟩ = some (.int .i64 5) ∧ W.cell? ⟨w.heap.size, 1, none⟩ = some (.int .i64 n) ∧ W.cell? ⟨w.heap.size, 2, none⟩ = some (.int .i64 m)) (first | exact ⟨by assumption, by assumption, by assumption⟩ | go_keep) (first | ((with_reducible refine HC.out.mono ?_); rintro e w1 ⟨rfl, v1, hv1, HF1, HM1⟩; have kb := (HM1.block w.heap.size (show w.heap.size < w0.heap.size from hlt0.out) hneA.out).trans HB0.out; have k0 := ae kb 0; have k1 := ae kb 1; have k2 := ae kb 2; have HB := aa.mk kb; have HF1 := aa.mk HF1; have HM1 := aa.mk HM1; have HV1 := aa.mk hv1; clear hv1 kb) | ((with_reducible refine (gK.calls 5 n m a j 0 _ HK.out).mono ?_); rintro e w2 ⟨rfl, hb⟩; have kb := cB HB.out hb; have k0 := ae kb 0; have k1 := ae kb 1; have k2 := ae kb 2; have HB2 := aa.mk hb; clear hb kb))
 have HF2 := aa.mk (HF1.out.below HB2.out)
 have q3 : w2.cell? ⟨g, 3, none⟩ = some (.slice (some ⟨sg, 0, none⟩) f.cells.length cap) := ae HF2.out.blk 3
 obtain ⟨qc, qf⟩ := HF2.out.cellAt j HJ.out
 go_wp2
 go_ret
 exact ⟨rfl, v1, fun k e => .inl (HV0.out ▸ HV1.out ▸ e), dn.setCells (f := { f with stack := s }) HF2.out j x HJ.out, ((((Mod.refl _ w).alloc _).trans HM0.out (fun i hi h => by subst h; simp [Ho.blocks]) |>.drew.trans HM1.out (fun i hi h => by subst h; simp [Ho.blocks])).trans (Mod.of_below HB2.out (fun _ => False)) (fun _ _ h => h.elim)).setCell (p := ⟨sg, j, none⟩) (fun _ => by simp [Ho.blocks, Value.ownBlock]) _⟩
theorem dn.clears {g sg cap : Nat} {vs : Value} : ∀ (m : Nat) {w : World} {f : Fr} (H : dn w ⟨g, .slice (some ⟨sg, 0, none⟩) f.cells.length cap, vs⟩ f) (n : Nat) (hn : n + m ≤ f.cells.length),
  dn (w.setCells sg n (List.replicate m (.int .i64 0))) ⟨g, .slice (some ⟨sg, 0, none⟩) f.cells.length cap, vs⟩ { f with cells := fe f.cells n m }
 | 0, w, f, H, n, _ => H
 | m + 1, w, f, H, n, hn => by
  have h1 := H.setCells n 0 (by omega)
  have e : (f.cells.set n 0).length = f.cells.length := List.length_set
  have h2 := dn.clears m (f := { f with cells := f.cells.set n 0 }) (by rw [show ({ f with cells := f.cells.set n 0 } : Fr).cells.length = f.cells.length from e]; exact h1) (n + 1) (by rw [show ({ f with cells := f.cells.set n 0 } : Fr).cells.length = f.cells.length from e]; omega)
  rw [show ({ f with cells := f.cells.set n 0 } : Fr).cells.length = f.cells.length from e] at h2
  exact h2
theorem Mod.setCells {S : Nat → Prop} {b : Nat} (hS : S b) : ∀ (vs : List Value) {a w : World} (h : Mod S a w) (n : Nat), Mod S a (w.setCells b n vs)
 | [], _, _, h, _ => h
 | v :: vs, _, _, h, n => Mod.setCells hS vs (h.setCell (p := ⟨b, n, none⟩) (fun _ => hS) v) (n + 1)
theorem wp_clear {P : Program} {o : Oper} {a : Act} {w : World} {K : Act → World → Prop} {Q : Exit → Act → World → Prop} (t e : TypeId) (x : Operand) (z : Value) (ho : o.op = .call { callee := .builtin .clear, args := #[x], argTypes := #[t] })
  (b off n c : Nat) (hx : a.eval x = .slice (some ⟨b, off, none⟩) n c) (ht : P.underlying t = some (.slice e)) (hv : ∀ w, (zeroValue e).run P w = .ok z w) (hz : z.cells = #[z]) (h1 : z.oneCell' = true) (hn : 0 < n)
  (hc : ∀ j, j < n → (w.cell? ⟨b, off + j, none⟩).isSome = true) (hf : ∀ j, j < n → w.frozen? ⟨b, off + j, none⟩ = false) (h : K (a.put o.dst (.tuple #[])) (w.setCells b off (List.replicate n z))) : o.wp P a w K Q := by
 have hrun := Lib.run_clear_slice (P := P) w t e o.type z ht hv hz h1 b off n c hn hc hf
 unfold Oper.wp
 simp [execOp, ho, resolve, invoke, builtin, hx, hrun, Result.andThen]
 exact h
theorem zero2 (w : World) : (zeroValue 2).run Tryd.prog w = .ok (.int .i64 0) w := by
 obtain ⟨i, hi, hz⟩ := Zo.1 jd
 simp only [Zm] at hz
 simp [zeroValue, typeInfo, hi, hz.1]
theorem data_clear {w : World} {h : Ho} {f : Fr} (H : dn w h f) (n m : Nat) (hm : 1 ≤ m) (hnm : n + m ≤ f.cells.length) (hc : f.cells.length ≤ 1000000) :
  Calls Tryd.prog 40 #[h.ptr, .agg #[.int .i64 6, .int .i64 n, .int .i64 m]] w (eu w h 0 { f with cells := fe f.cells n m }) := by
 obtain ⟨g, vc, vs⟩ := h
 have hgl := bF H.blk
 obtain ⟨sg, cap, cur, rfl, hn2, hcap, _⟩ := gT H.cs (by intro e; simp [e] at hnm; omega)
 have HH := aa.mk (H.alloc (.cells #[.int .i64 6, .int .i64 n, .int .i64 m] 43)).drew; have hneA := aa.mk (Nat.ne_of_gt hgl)
 have c1 : (w.alloc (.cells #[.int .i64 6, .int .i64 n, .int .i64 m] 43)).drew.cell? ⟨w.heap.size, 1, none⟩ = some (.int .i64 n) := ae (bW w _) 1
 have c2 : (w.alloc (.cells #[.int .i64 6, .int .i64 n, .int .i64 m] 43)).drew.cell? ⟨w.heap.size, 2, none⟩ = some (.int .i64 m) := ae (bW w _) 2
 have c3 : (w.alloc (.cells #[.int .i64 6, .int .i64 n, .int .i64 m] 43)).drew.cell? ⟨g, 3, none⟩ = some (.slice (some ⟨sg, 0, none⟩) f.cells.length cap) := ae HH.out.blk 3
 clear H
 have esg : sg ≠ g := by have := HH.out.vc_ne; simpa [Value.ownBlock] using this
 have esw : sg ≠ w.heap.size := by
  have := HH.out.lt
  intro e
  have e2 := bW w (.cells #[.int .i64 6, .int .i64 n, .int .i64 m] 43)
  obtain ⟨sg', cap', cur', e3, _, _, hh, _⟩ := gT HH.out.cs (by intro e; simp [e] at hnm; omega)
  have q : sg = sg' := by simpa using (Value.slice.inj e3).1
  subst q; subst e
  rw [show (w.alloc (.cells #[.int .i64 6, .int .i64 n, .int .i64 m] 43)).drew.heap = (w.alloc (.cells #[.int .i64 6, .int .i64 n, .int .i64 m] 43)).heap from rfl, e2] at hh
  injection hh with hh; injection hh with _ hh; exact absurd hh (by decide)
 have d3 := (World.cell?_setCells_out sg (List.replicate m (.int .i64 0)) n (w.alloc (.cells #[.int .i64 6, .int .i64 n, .int .i64 m] 43)).drew ⟨g, 3, none⟩ (fun h => absurd h (Ne.symm esg))).trans c3
 have d1 := (World.cell?_setCells_out sg (List.replicate m (.int .i64 0)) n (w.alloc (.cells #[.int .i64 6, .int .i64 n, .int .i64 m] 43)).drew ⟨w.heap.size, 1, none⟩ (fun h => absurd h (Ne.symm esw))).trans c1
 have d2 := (World.cell?_setCells_out sg (List.replicate m (.int .i64 0)) n (w.alloc (.cells #[.int .i64 6, .int .i64 n, .int .i64 m] 43)).drew ⟨w.heap.size, 2, none⟩ (fun h => absurd h (Ne.symm esw))).trans c2
 clear esg esw
 have HM1 := aa.mk hm; have HL1 := aa.mk hnm
 have e1 : IntKind.i64.wrap ((n : Int) + (m : Int)) = (n : Int) + (m : Int) := IntWalk.i64_in _ (by omega)
 have e2 : (0 : Int) ≤ (n : Int) := by omega
 have e3 : (n : Int) ≤ (n : Int) + (m : Int) := by omega
 have e4 : (n : Int) + (m : Int) ≤ (f.cells.length : Int) := by omega
 have e5 : (n : Int) + (m : Int) ≤ (cap : Int) := by omega
 show Calls Tryd.prog 40 #[.pointer (some ⟨g, 0, none⟩), .agg #[.int .i64 6, .int .i64 n, .int .i64 m]] w _
 go_enter Tryd.func40, Tryd.ntmps40
 go_wp2
 go_region_held3 (fun W => W.cell? ⟨g, 3, none⟩ = some (.slice (some ⟨sg, 0, none⟩) f.cells.length cap) ∧ W.cell? ⟨w.heap.size, 1, none⟩ = some (.int .i64 n) ∧ W.cell? ⟨w.heap.size, 2, none⟩ = some (.int .i64 m)) (first | exact ⟨by assumption, by assumption, by assumption⟩ | go_keep) ((rw [if_pos (by rfl)]; refine wp_clear 23 2 (.tmp 114) (.int .i64 0) rfl sg n m (cap - n) ?hx Tryd.underlying23 zero2 rfl rfl HM1.out ?hc ?hf ?hK; (case hx => go_simp; exact ⟨fun h => by omega, by omega⟩); (case hc => intro j hj; rw [(HH.out.cellAt (n + j) (by have := HL1.out; omega)).1]; rfl); (case hf => intro j hj; exact (HH.out.cellAt (n + j) (by have := HL1.out; omega)).2)))
 go_wp2
 go_ret
 exact ⟨rfl, vs, fun k e => .inl e, HH.out.clears m n HL1.out, Mod.setCells (by simp [Ho.blocks, Value.ownBlock]) _ ((Mod.refl _ w).alloc _).drew n⟩
theorem two_is (op a b : Int) : gW.f 1 op a b = some (iK op a b) := by
 unfold gW.f iK
 by_cases h7 : op = 7
 ·rw [if_pos h7, if_pos h7]; rfl
 rw [if_neg h7, if_neg h7]
 by_cases h8 : op = 8
 ·rw [if_pos h8, if_pos h8]; rfl
 rw [if_neg h8, if_neg h8]
 by_cases h9 : op = 9
 ·rw [if_pos h9, if_pos h9]; rfl
 rw [if_neg h9, if_neg h9]
 by_cases h10 : op = 10
 ·rw [if_pos h10, if_pos h10]
  subst h10
  simp only [gW.j0]
  rw [if_pos (show ((10 : Int) == 10) = true by decide)]
  by_cases hb : b = 0
  ·rw [if_pos hb, if_pos hb]
  ·rw [if_neg hb, if_neg hb]
   unfold kL.f
   rw [if_neg hb]
   rfl
 rw [if_neg h10, if_neg h10]
 by_cases h11 : op = 11
 ·rw [if_pos h11]
  subst h11
  simp only [gW.j0]
  rw [if_pos (show ((11 : Int) == 11) = true by decide)]
  by_cases hb : b = 0
  ·rw [if_pos hb, if_pos hb]
  ·rw [if_neg hb, if_neg hb]
   unfold kL.f lL.f
   rw [if_neg hb, if_neg hb]
   rfl
 rw [if_neg h11]
 simp only [gW.j0]
 rw [if_neg (by rw [Zh h11]; decide)]
 by_cases h12 : op = 12
 ·rw [if_pos h12, if_pos h12]
  by_cases hb : a < b
  ·rw [if_pos hb, Za hb]; rfl
  ·rw [if_neg hb, Zb hb]; rfl
 rw [if_neg h12, if_neg h12]
 by_cases h13 : op = 13
 ·rw [if_pos h13, if_pos h13]
  by_cases hb : a ≤ b
  ·rw [if_pos hb, Za hb]; rfl
  ·rw [if_neg hb, Zb hb]; rfl
 rw [if_neg h13, if_neg h13]
 by_cases hb : a = b
 ·rw [if_pos hb, beq_iff_eq.mpr hb]; rfl
 ·rw [if_neg hb, Zh hb]; rfl
theorem data_two {w : World} {h : Ho} {f : Fr} (H : dn w h f) (op n m a x : Int) (s : List Int) (hs : f.stack = s ++ [a] ++ [x]) (h7 : 7 ≤ op) (h14 : op ≤ 14) (hl : f.stack.length ≤ 1000000) :
  Calls Tryd.prog 40 #[h.ptr, .agg #[.int .i64 op, .int .i64 n, .int .i64 m]] w (eu w h (iK op a x).2 { f with stack := s ++ [(iK op a x).1] }) := by
 obtain ⟨g, vc, vs⟩ := h
 have hneA := aa.mk (Nat.ne_of_gt (bF H.blk))
 have HC0 : aa (Calls Tryd.prog 37 #[.pointer (some ⟨g, 0, none⟩)] (w.alloc (.cells #[.int .i64 op, .int .i64 n, .int .i64 m] 43)) _) := ⟨(H.alloc _).pop (s ++ [a]) x hs⟩
 have hl1 : s.length + 1 ≤ 1000000 := by have e := congrArg List.length hs; simp at e; omega
 have HL := aa.mk hl1; clear hs H hl hl1
 have HK := aa.mk (two_is op a x)
 obtain ⟨p, hp⟩ : ∃ p, p = iK op a x := ⟨_, rfl⟩
 rw [← hp] at HK ⊢
 clear hp
 obtain ⟨y, r⟩ := p
 have k1 : (op == 1) = false := Zh (by omega)
 have k2 : (op == 2) = false := Zh (by omega)
 have k3 : (op == 3) = false := Zh (by omega)
 have k4 : (op == 4) = false := Zh (by omega)
 have k5 : (op == 5) = false := Zh (by omega)
 have k6 : (op == 6) = false := Zh (by omega)
 have k15 : (op == 15) = false := Zh (by omega)
 have k16 : (op == 16) = false := Zh (by omega)
 have k17 : (op == 17) = false := Zh (by omega)
 have k18 : (op == 18) = false := Zh (by omega)
 have k23 : (op == 23) = false := Zh (by omega)
 have k25 : (op == 25) = false := Zh (by omega)
 show Calls Tryd.prog 40 #[.pointer (some ⟨g, 0, none⟩), .agg #[.int .i64 op, .int .i64 n, .int .i64 m]] w _
 go_enter Tryd.func40, Tryd.ntmps40
 go_wp2_with ((with_reducible refine ah (f := 37) rfl ?_); refine gl 16 Tryd.func37 #[.pointer (some ⟨g, 0, none⟩)] ?_; refine (HC0.out).mono ?_; rintro e w0 ⟨rfl, v0, hv0, HF0, HM0⟩; have kb := (HM0.block w.heap.size (by show _ < (w.heap.push _).size; rw [Array.size_push]; omega) hneA.out).trans (bW w _); have c0 := ae (bD kb) 0; have HB0 := aa.mk kb; have HC : aa (Calls Tryd.prog 37 #[.pointer (some ⟨g, 0, none⟩)] w0.drew _) := ⟨HF0.drew.pop s a rfl⟩; have HF0 := aa.mk HF0; have HM0 := aa.mk HM0; have HV0 := aa.mk hv0; have hlt0 := aa.mk (bF kb); clear hv0 kb; refine ⟨_, rfl, ?_⟩)
 go_region_held3 (fun W => W.cell? ⟨w.heap.size, 0, none⟩ = some (.int .i64 op)) (first | exact (by assumption) | go_keep) (first | ((with_reducible refine HC.out.mono ?_); rintro e w1 ⟨rfl, v1, hv1, HF1, HM1⟩; have kb := (HM1.block w.heap.size (show w.heap.size < w0.heap.size from hlt0.out) hneA.out).trans HB0.out; have k0 := ae kb 0; have HB := aa.mk kb; have HF1 := aa.mk HF1; have HM1 := aa.mk HM1; have HV1 := aa.mk hv1; clear hv1 kb) | ((with_reducible refine (gW.calls 1 op a x y r _ HK.out).mono ?_); rintro e w2 ⟨rfl, nd, rfl⟩; have kb := HB.out; have kb2 : (w1.drewN nd).heap[w.heap.size]? = some (.cells #[.int .i64 op, .int .i64 n, .int .i64 m] 43 (0, 0)) := kb; have k0 := ae kb2 0; clear kb kb2))
 go_wp2_with ((with_reducible refine ah (f := 38) rfl ?_); refine gl 28 Tryd.func38 #[.pointer (some ⟨g, 0, none⟩), .int .i64 y] ?_; refine ((HF1.out.drewN _).push y HL.out).mono ?_; rintro e w3 ⟨rfl, v3, hv3, HF3, HM3⟩; have HF3 := aa.mk HF3; have HM3 := aa.mk HM3; have HV3 := aa.mk hv3; clear hv3; refine ⟨_, rfl, ?_⟩)
 go_ret
 have hM : Mod (fun k => k ∈ Ho.blocks ⟨g, vc, vs⟩) w w1 := ((Mod.refl _ w).alloc _).trans HM0.out (fun i hi h => by subst h; simp [Ho.blocks]) |>.drew.trans HM1.out (fun i hi h => by subst h; simp [Ho.blocks])
 have h1 : w.heap.size ≤ w1.heap.size := hM.size
 refine ⟨rfl, v3, fun k' e => ?_, HF3.out, (show Mod (fun k => k ∈ Ho.blocks ⟨g, vc, vs⟩) w (w1.drewN nd) from ⟨hM.os, hM.tape, hM.output, hM.size, hM.block⟩).trans HM3.out (fun i hi h => ?_)⟩
 ·rcases HV3.out k' e with h | h
  ·exact .inl (HV0.out ▸ HV1.out ▸ h)
  ·exact .inr (Ze h1 h)
 ·rcases h with rfl | h
  ·simp [Ho.blocks]
  ·rw [HV1.out, HV0.out] at h; simp [Ho.blocks, h]
structure kW (f : Fr) (i : S43) : Prop where
 op : i.f0 = 1 ∨ i.f0 = 2 ∨ i.f0 = 3 ∨ i.f0 = 4 ∨ i.f0 = 5 ∨ i.f0 = 6 ∨ (7 ≤ i.f0 ∧ i.f0 ≤ 14) ∨ i.f0 = 15 ∨ i.f0 = 16 ∨ i.f0 = 17 ∨ i.f0 = 18 ∨ i.f0 = 23 ∨ i.f0 = 25
 cell : i.f0 = 2 ∨ i.f0 = 3 → 0 ≤ i.f1 ∧ i.f1 < (f.cells.length : Int)
 row : i.f0 = 4 ∨ i.f0 = 5 ∨ i.f0 = 6 → 0 ≤ i.f1 ∧ 1 ≤ i.f2 ∧ i.f1 + i.f2 ≤ (f.cells.length : Int)
 one : i.f0 = 3 ∨ i.f0 = 4 ∨ i.f0 = 15 ∨ i.f0 = 16 ∨ i.f0 = 18 ∨ i.f0 = 23 ∨ i.f0 = 25 → 1 ≤ f.stack.length
 two : i.f0 = 5 ∨ (7 ≤ i.f0 ∧ i.f0 ≤ 14) → 2 ≤ f.stack.length
 stack : f.stack.length ≤ 4096
 cells : f.cells.length ≤ 65536
theorem nE {l : List Int} (h : 1 ≤ l.length) : l = l.dropLast ++ [l.getLastD 0] := by
 rcases List.eq_nil_or_concat l with rfl | ⟨s, x, rfl⟩
 ·simp at h
 ·simp
theorem data_calls {w : World} {h : Ho} {f : Fr} (H : dn w h f) (i : S43) (F : kW f i) :
  Calls Tryd.prog 40 #[h.ptr, .agg #[.int .i64 i.f0, .int .i64 i.f1, .int .i64 i.f2]] w (eu w h (cO f i).2 (cO f i).1) := by
 obtain ⟨op, n, m⟩ := i
 have hs := F.stack; have hc := F.cells
 have s1 : ∀ l : List Int, 1 ≤ l.length → l = l.dropLast ++ [l.getLastD 0] := fun l => nE
 have s2 : 2 ≤ f.stack.length → f.stack = f.stack.dropLast.dropLast ++ [f.stack.dropLast.getLastD 0] ++ [f.stack.getLastD 0] := fun h => by
  rw [← s1 f.stack.dropLast (by simp; omega)]
  exact s1 _ (by omega)
 have hop := F.op
 simp only at hop
 rcases hop with rfl | rfl | rfl | rfl | rfl | rfl | ⟨h7, h14⟩ | rfl | rfl | rfl | rfl | rfl | rfl
 ·exact data_push H n m (by omega)
 ·obtain ⟨a, b⟩ := F.cell (.inl rfl)
  simp only at a b
  obtain ⟨n, rfl⟩ : ∃ k : Nat, n = k := ⟨n.toNat, by omega⟩
  exact data_load H n m _ (by
   rw [Zi (by simpa using b)]
   show some _ = some (f.cells.getD ((n : Nat) : Int).toNat 0)
   rw [Int.toNat_natCast, List.getD_eq_getElem?_getD, Zi (by simpa using b)]; rfl) (by omega)
 ·obtain ⟨a, b⟩ := F.cell (.inr rfl)
  simp only at a b
  obtain ⟨n, rfl⟩ : ∃ k : Nat, n = k := ⟨n.toNat, by omega⟩
  exact data_store H n m _ _ (s1 _ (F.one (.inl rfl))) (by simpa using b)
 ·obtain ⟨a, b, c⟩ := F.row (.inl rfl)
  simp only at a b c
  have st := s1 _ (F.one (.inr (.inl rfl)))
  generalize f.stack.getLastD 0 = x at st
  generalize f.stack.dropLast = s at st
  have e1 : f.stack.getLastD 0 = x := by rw [st]; simp
  have e2 : f.stack.dropLast = s := by rw [st]; simp
  simp only [cO, e1, e2]
  simp only [show ((4 : Int) = 1) = False from eq_false (by decide), show ((4 : Int) = 2) = False from eq_false (by decide), show ((4 : Int) = 3) = False from eq_false (by decide), if_false, if_true]
  by_cases hx : x < 0 ∨ m ≤ x
  ·rw [if_pos hx]
   exact data_index_trap H n m x s st hx
  ·rw [if_neg hx]
   exact data_index_ok H n m x _ (n + x).toNat s rfl st (by omega) (by omega) (by omega) (by omega) (by omega) (by omega)
 ·obtain ⟨a, b, c⟩ := F.row (.inr (.inl rfl))
  simp only at a b c
  have st := s2 (F.two (.inl rfl))
  generalize f.stack.getLastD 0 = x at st
  generalize f.stack.dropLast.getLastD 0 = y at st
  generalize f.stack.dropLast.dropLast = s at st
  have e1 : f.stack.getLastD 0 = x := by rw [st]; simp
  have e2 : f.stack.dropLast = s ++ [y] := by rw [st]; simp
  have e3 : (s ++ [y]).dropLast = s := by simp
  have e4 : (s ++ [y]).getLastD 0 = y := by simp
  simp only [cO, e1, e2, e3, e4]
  simp only [show ((5 : Int) = 1) = False from eq_false (by decide), show ((5 : Int) = 2) = False from eq_false (by decide), show ((5 : Int) = 3) = False from eq_false (by decide), show ((5 : Int) = 4) = False from eq_false (by decide), if_false, if_true]
  by_cases hx : y < 0 ∨ m ≤ y
  ·rw [if_pos hx]
   exact data_put_trap H n m y x s st hx
  ·rw [if_neg hx]
   exact data_put_ok H n m y x (n + y).toNat s st (by omega) (by omega) (by omega) (by omega) (by omega)
 ·obtain ⟨a, b, c⟩ := F.row (.inr (.inr rfl))
  simp only at a b c
  obtain ⟨n, rfl⟩ : ∃ k : Nat, n = k := ⟨n.toNat, by omega⟩
  obtain ⟨m, rfl⟩ : ∃ k : Nat, m = k := ⟨m.toNat, by omega⟩
  exact data_clear H n m (by omega) (by omega) (by omega)
 ·have st := s2 (F.two (.inr ⟨h7, h14⟩))
  generalize f.stack.getLastD 0 = x at st
  generalize f.stack.dropLast.getLastD 0 = y at st
  generalize f.stack.dropLast.dropLast = s at st
  have e1 : f.stack.getLastD 0 = x := by rw [st]; simp
  have e2 : f.stack.dropLast = s ++ [y] := by rw [st]; simp
  have e3 : (s ++ [y]).dropLast = s := by simp
  have e4 : (s ++ [y]).getLastD 0 = y := by simp
  simp only [cO, e1, e2, e3, e4]
  rw [if_neg (by omega), if_neg (by omega), if_neg (by omega), if_neg (by omega), if_neg (by omega), if_neg (by omega), if_neg (by omega), if_neg (by omega), if_neg (by omega), if_neg (by omega), if_neg (by omega), if_neg (by omega)]
  exact data_two H op n m y x s st h7 h14 (by omega)
 ·exact data_not H n m _ _ (s1 _ (F.one (by simp))) (by omega)
 ·exact data_neg H n m _ _ (s1 _ (F.one (by simp))) (by omega)
 ·exact data_jump H n m
 ·exact data_zero H n m _ _ (s1 _ (F.one (by simp)))
 ·exact data_test H n m _ _ (s1 _ (F.one (by simp)))
 ·exact data_drop H n m _ _ (s1 _ (F.one (by simp)))
structure Fits (m : Mc) (r : List Fr) (f : Fr) : Prop where
 fr : m.frames = r ++ [f]
 pr : 0 ≤ f.pr ∧ f.pr < (m.codes.length : Int)
 at_ : 0 ≤ f.at_ ∧ f.at_ < ((au m.codes f.pr).f0.length : Int)
 at2 : f.at_ ≤ 65536
 data : (m.ins f).f0 ≠ 19 → (m.ins f).f0 ≠ 20 → (m.ins f).f0 ≠ 21 → (m.ins f).f0 ≠ 22 → (m.ins f).f0 ≠ 24 → kW { f with at_ := f.at_ + 1 } (m.ins f)
 call : (m.ins f).f0 = 19 → 0 ≤ (m.ins f).f1 ∧ (m.ins f).f1 < (m.codes.length : Int) ∧ 0 ≤ (m.ins f).f2 ∧ (m.ins f).f2 ≤ (f.stack.length : Int) ∧ (m.ins f).f2 ≤ (au m.codes (m.ins f).f1).f1 ∧ (au m.codes (m.ins f).f1).f1 ≤ 65536
 leave : (m.ins f).f0 = 20 → (m.ins f).f1 = 0 ∨ ((m.ins f).f1 = 1 ∧ 1 ≤ f.stack.length)
 print : (m.ins f).f0 = 21 → 1 ≤ f.stack.length
 stack : ∀ g ∈ m.frames, g.stack.length ≤ 4096
 deep : r.length + 1 ≤ 50
 fuel : 0 ≤ m.fuel ∧ m.fuel ≤ 1048576
 ticks : 0 ≤ m.ticks ∧ m.ticks ≤ 1048576
 events : m.events.length + 2 ≤ 4398046511104
 read : m.read ≤ m.input.length
 inp : m.input.length ≤ 1000000
section
variable {Rd : Nat → Prop} {w : World} {o : MHo} {m : Mc}
theorem mark_none (H : MOn Rd w o m) (v : Value) (n k : Int) (h0 : m.fuel = 0) (hl : m.events.length + 1 ≤ 4398046511104) :
  Calls Tryd.prog 39 #[o.ptr, v, .agg #[.int .i64 24, .int .i64 n, .int .i64 k]] w (gN Rd w o (m.endM 5 0) (.tuple #[])) := by
 have c4 : (w.alloc (.cells #[.int .i64 24, .int .i64 n, .int .i64 k] 43)).cell? ⟨o.g, 4, none⟩ = some (.int .i64 0) := by rw [ae (H.alloc _).blk 4, ← h0]; rfl
 have HH := aa.mk H; clear H h0
 show Calls Tryd.prog 39 #[.pointer (some ⟨o.g, 0, none⟩), v, .agg #[.int .i64 24, .int .i64 n, .int .i64 k]] w _
 go_enter Tryd.func39, Tryd.ntmps39
 go_wp2_with ((with_reducible refine ah (f := 41) rfl ?_); refine gl 12 Tryd.func41 #[.pointer (some ⟨o.g, 0, none⟩), .int .i64 5, .int .i64 0] ?_; refine (qD (HH.out.alloc _) 5 0 hl).mono ?_; rintro e w3 ⟨rfl, o3, hsub3, HM3, hmod⟩; have HP := aa.mk (And.intro hsub3 (And.intro HM3 hmod)); clear hsub3 HM3 hmod; refine ⟨_, rfl, ?_⟩)
 go_end0
 obtain ⟨hsub3, HM3, hmod⟩ := HP.out
 have hsz : w.heap.size ≤ (w.alloc (.cells #[.int .i64 24, .int .i64 n, .int .i64 k] 43)).heap.size := by show _ ≤ (w.heap.push _).size; rw [Array.size_push]; omega
 exact ⟨rfl, o3, ⟨hsub3.1, fun k hk => (hsub3.2 k hk).imp_right (Ze hsz)⟩, HM3, ((Mod.refl _ w).alloc _).trans hmod (fun _ _ h => h)⟩
theorem ins_at (H : MOn Rd w o m) {r : List Fr} {f : Fr} (F : Fits m r f) : ∃ ad cc bd c0, o.cv = .slice (some ad) m.codes.length cc ∧ w.cell? (ad.add (f.pr.toNat * 4)) = some (.slice (some bd) (au m.codes f.pr).f0.length c0) ∧
  w.cell? (bd.add (f.at_.toNat * 3)) = some (.int .i64 (m.ins f).f0) ∧ w.cell? ⟨(bd.add (f.at_.toNat * 3)).block, (bd.add (f.at_.toNat * 3)).off + 1, none⟩ = some (.int .i64 (m.ins f).f1) ∧ w.cell? ⟨(bd.add (f.at_.toNat * 3)).block, (bd.add (f.at_.toNat * 3)).off + 2, none⟩ = some (.int .i64 (m.ins f).f2) := by
 obtain ⟨A, cc, hcv, hcl, HF⟩ := H.cs
 obtain ⟨ad, A0, c0, rfl, hx0, hx1, hx2, hx3, hl0, hi0⟩ := eZ (Kd.oL HF) f.pr F.pr.1 F.pr.2
 obtain ⟨bd, rfl, hy0, hy1, hy2⟩ := jW hi0 f.at_ F.at_.1 F.at_.2
 exact ⟨ad, cc, bd, c0, hcv, hx0, hy0, hy1, hy2⟩
theorem oH (H : MOn Rd w o m) (h : m.read < m.input.length) : ∃ ad cc, o.iv = .slice (some ad) m.input.length cc ∧ w.cell? (ad.add m.read) = some (.int .i64 (m.input.getD m.read 0)) := by
 obtain ⟨A, cc, hcv, hcl, HF⟩ := H.inp
 obtain ⟨ad, c, rfl, hlen, hK, hcell⟩ := Kd.qd (Kd.oL HF) 0 (m.read : Int) (by omega) (by omega)
 refine ⟨ad, cc, hcv, ?_⟩
 have hK : c = [.int .i64 (m.input.getD (m.read : Int).toNat 0)] := hK
 have := hcell 0 (.int .i64 (m.input.getD (m.read : Int).toNat 0)) (by rw [hK]; rfl)
 simpa [Kd.int, Kd.scalar] using this
theorem sN (H : MOn Rd w o m) : ∃ A cc, o.iv = .slice A m.input.length cc := by
 obtain ⟨A, cc, hcv, _, _⟩ := H.inp
 exact ⟨A, cc, hcv⟩
end
structure RHo where
 vc : Value
 vs : Value
def RHo.blocks (h : RHo) : List Nat := h.vc.ownBlock.toList ++ h.vs.ownBlock.toList
def eX (h : RHo) (f : Fr) : List Value := [.int .i64 f.pr, .int .i64 f.at_, .int .i64 f.mark, h.vc, h.vs]
structure RFr (w : World) (h : RHo) (f : Fr) : Prop where
 cs : w.ownsRow 0 2 1 h.vc f.cells.length (ints f.cells)
 st : w.ownsRow 0 2 1 h.vs f.stack.length (ints f.stack)
theorem RFr.lt {w : World} {h : RHo} {f : Fr} (H : RFr w h f) : ∀ k ∈ h.blocks, k < w.heap.size := by
 intro k hk
 simp only [RHo.blocks, Zn, Option.mem_toList] at hk
 rcases hk with hk | hk
 ·exact (H.cs.lt k hk).2
 ·exact (H.st.lt k hk).2
theorem RFr.kept {w w' : World} {h : RHo} {f : Fr} (H : RFr w h f) (hk : ∀ k ∈ h.blocks, w'.heap[k]? = w.heap[k]?) : RFr w' h f :=
 ⟨bZ H.cs (fun k e => hk k (by simp [RHo.blocks, e])), bZ H.st (fun k e => hk k (by simp [RHo.blocks, e]))⟩
def gM (hs : List RHo) (fs : List Fr) : List Value := (List.zipWith eX hs fs).flatten
theorem ll {hs0 : List RHo} {r : List Fr} (h : RHo) (f : Fr) (hl : hs0.length = r.length) : gM (hs0 ++ [h]) (r ++ [f]) = gM hs0 r ++ eX h f := by
 unfold gM
 rw [List.zipWith_append hl, List.flatten_append]
 simp
theorem jU : ∀ {hs : List RHo} {r : List Fr}, hs.length = r.length → (gM hs r).length = r.length * 5
 | [], [], _ => rfl
 | a :: hs, b :: r, h => by
  have := jU (hs := hs) (r := r) (by simpa using h)
  show (eX a b ++ gM hs r).length = _
  rw [List.length_append, this]
  simp [eX]; omega
structure RMo where
 g : Nat
 cv : Value
 fv : Value
 iv : Value
 ev : Value
 ran : Int
 hs : List RHo
def RMo.own (o : RMo) : List Nat := [o.g] ++ (o.fv.ownBlock.toList ++ (o.ev.ownBlock.toList ++ o.hs.flatMap RHo.blocks))
def RMo.ptr (o : RMo) : Value := .pointer (some ⟨o.g, 0, none⟩)
def oo (o : RMo) (m : Mc) : Array Value := #[o.cv, o.fv, o.iv, .int .i64 (m.read : Int), .int .i64 m.fuel, .int .i64 m.ticks, .int .i64 m.tick.1, .int .i64 m.tick.2.1, .int .i64 m.tick.2.2.1, .int .i64 m.tick.2.2.2, o.ev, .bool m.ended, .int .i64 o.ran]
structure ROn (Rd : Nat → Prop) (w : World) (o : RMo) (m : Mc) : Prop where
 blk : w.heap[o.g]? = some (.cells (oo o m) 54 (0, 0))
 fr : w.ownsRow 0 80 5 o.fv m.frames.length (gM o.hs m.frames)
 ev : w.ownsRow 0 38 2 o.ev m.events.length (evs m.events)
 frs : je (RFr w) o.hs m.frames
 nd : o.own.Nodup
 rd : ∀ k ∈ o.own, ¬ Rd k
 low : ∀ k, Rd k → k < w.heap.size
 cs : Kd.V k46 46 w 0 Rd o.cv m.codes
 inp : Kd.V (Kd.int .i64) 2 w 0 Rd o.iv m.input
section
variable {Rd : Nat → Prop} {w w' : World} {o o' : RMo} {m m' : Mc}
theorem kP {hs : List RHo} {fs : List Fr} (h : je (RFr w) hs fs) : ∀ k ∈ hs.flatMap RHo.blocks, k < w.heap.size := by
 induction h with
 | nil => intro k hk; simp at hk
 | cons h _ ih =>
  intro k hk
  rw [List.flatMap_cons, Zn] at hk
  rcases hk with hk | hk
  ·exact h.lt k hk
  ·exact ih k hk
theorem jk {hs : List RHo} {fs : List Fr} (h : je (RFr w) hs fs) (hk : ∀ k ∈ hs.flatMap RHo.blocks, w'.heap[k]? = w.heap[k]?) : je (RFr w') hs fs := by
 induction h with
 | nil => exact .nil
 | cons h _ ih =>
  rw [List.flatMap_cons] at hk
  exact .cons (h.kept (fun k hk' => hk k (List.mem_append_left _ hk'))) (ih (fun k hk' => hk k (List.mem_append_right _ hk')))
theorem jR {hs0 : List RHo} {h : RHo} {r : List Fr} {f : Fr} (H : je (RFr w) (hs0 ++ [h]) (r ++ [f])) : je (RFr w) hs0 r ∧ RFr w h f := by
 have hl : hs0.length = r.length := by have := H.fB; simp at this; exact this
 induction hs0 generalizing r with
 | nil =>
  obtain rfl : r = [] := List.length_eq_zero_iff.1 (by simpa using hl.symm)
  cases H with | cons h _ => exact ⟨.nil, h⟩
 | cons a t ih =>
  cases r with
  | nil => simp at hl
  | cons b u =>
   cases H with
   | cons h1 h2 =>
    obtain ⟨a1, a2⟩ := ih h2 (by simpa using hl)
    exact ⟨.cons h1 a1, a2⟩
theorem pU {hs0 : List RHo} {h : RHo} {r : List Fr} {f : Fr} (H : je (RFr w) hs0 r) (h1 : RFr w h f) : je (RFr w) (hs0 ++ [h]) (r ++ [f]) := by
 induction H with
 | nil => exact .cons h1 .nil
 | cons a _ ih => exact .cons a ih
theorem ROn.lt (H : ROn Rd w o m) : ∀ k ∈ o.own, k < w.heap.size := by
 intro k hk
 simp only [RMo.own, Zn, List.mem_singleton, Option.mem_toList] at hk
 rcases hk with rfl | hk | hk | hk
 ·exact bF H.blk
 ·exact (H.fr.lt k hk).2
 ·exact (H.ev.lt k hk).2
 ·exact kP H.frs k hk
theorem ROn.kept (H : ROn Rd w o m) (hsz : w.heap.size ≤ w'.heap.size) (hk : ∀ k, k ∈ o.own ∨ Rd k → w'.heap[k]? = w.heap[k]?) : ROn Rd w' o m := by
 have ho : ∀ k, k ∈ o.own → w'.heap[k]? = w.heap[k]? := fun k h => hk k (.inl h)
 exact ⟨(ho _ (by simp [RMo.own])).trans H.blk, bZ H.fr (fun k e => ho k (by simp [RMo.own, e])), bZ H.ev (fun k e => ho k (by simp [RMo.own, e])),
  jk H.frs (fun k h => ho k (by simp only [RMo.own, Zn]; exact .inr (.inr (.inr h)))), H.nd, H.rd, fun k h => Zf (H.low k h) hsz,
  Kd.jJ H.cs (fun k h _ => hk k (.inr h)), Kd.jJ H.inp (fun k h _ => hk k (.inr h))⟩
theorem ROn.mod {S : Nat → Prop} (H : ROn Rd w o m) (hM : Mod S w w') (hS : ∀ k, k ∈ o.own ∨ Rd k → ¬ S k) : ROn Rd w' o m :=
 H.kept hM.size (fun k h => hM.block k (h.elim (H.lt k) (H.low k)) (hS k h))
theorem ROn.below (H : ROn Rd w o m) (hb : Below w.heap.size w w') : ROn Rd w' o m := H.mod (Mod.of_below hb (fun _ => False)) (fun _ _ h => h)
theorem ROn.alloc (H : ROn Rd w o m) (b : Obj) : ROn Rd (w.alloc b) o m := H.below (bN (Below.refl _ _) b)
theorem ROn.drew (H : ROn Rd w o m) : ROn Rd w.drew o m := H.below (iF (Below.refl _ _))
theorem ROn.split (H : ROn Rd w o m) {r : List Fr} {f : Fr} (hf : m.frames = r ++ [f]) : ∃ hs0 h, o.hs = hs0 ++ [h] ∧ hs0.length = r.length := by
 have hl := H.frs.fB
 rcases List.eq_nil_or_concat o.hs with e | ⟨s, x, e⟩
 ·rw [e, hf] at hl; simp at hl
 ·refine ⟨s, x, by simpa using e, ?_⟩
  rw [e, hf] at hl; simpa using hl
theorem ROn.top (H : ROn Rd w o m) {hs0 : List RHo} {h : RHo} {r : List Fr} {f : Fr} (ho : o.hs = hs0 ++ [h]) (hf : m.frames = r ++ [f]) : RFr w h f := by
 have := H.frs
 rw [ho, hf] at this
 exact (jR this).2
def jK (w : World) (o o' : RMo) : Prop := o'.g = o.g ∧ ∀ k ∈ o'.own, k ∈ o.own ∨ w.heap.size ≤ k
theorem jK.refl (w : World) (o : RMo) : jK w o o := ⟨rfl, fun _ h => .inl h⟩
theorem jK.trans {o1 o2 : RMo} (h : jK w o o1) (hs : w.heap.size ≤ w'.heap.size) (h' : jK w' o1 o2) : jK w o o2 :=
 ⟨h'.1.trans h.1, fun k hk => (h'.2 k hk).elim (h.2 k) (fun e => .inr (Ze hs e))⟩
def iw (Rd : Nat → Prop) (w : World) (o : RMo) (m : Mc) (w' : World) : Prop := ∃ o', jK w o o' ∧ ROn Rd w' o' m ∧ Mod (fun k => k ∈ o.own) w w'
theorem iw.refl (H : ROn Rd w o m) : iw Rd w o m w := ⟨o, jK.refl _ _, H, Mod.refl _ _⟩
theorem iw.then_ {w2 : World} {o1 : RMo} (hs : jK w o o1) (hm : Mod (fun k => k ∈ o.own) w w') (h : iw Rd w' o1 m w2) : iw Rd w o m w2 := by
 obtain ⟨o2, h1, h2, h3⟩ := h
 exact ⟨o2, hs.trans hm.size h1, h2, hm.trans h3 (fun k hk h => (hs.2 k h).elim id (fun e => by omega))⟩
theorem ROn.jy {S : Nat → Prop} (H : ROn Rd w o m) (hM : Mod S w w') (hS : ∀ k, k < w.heap.size → S k → k ∈ o.own) (hblk : w'.heap[o'.g]? = some (.cells (oo o' m') 54 (0, 0)))
  (hfr : w'.ownsRow 0 80 5 o'.fv m'.frames.length (gM o'.hs m'.frames)) (hev : w'.ownsRow 0 38 2 o'.ev m'.events.length (evs m'.events)) (hfrs : je (RFr w') o'.hs m'.frames)
  (hnd : o'.own.Nodup) (hnew : ∀ k ∈ o'.own, k ∈ o.own ∨ w.heap.size ≤ k) (e1 : o'.cv = o.cv) (e2 : o'.iv = o.iv) (e3 : m'.codes = m.codes) (e4 : m'.input = m.input) : ROn Rd w' o' m' := by
 refine ⟨hblk, hfr, hev, hfrs, hnd, fun k hk q => ?_, fun k q => Zf (H.low k q) hM.size, ?_, ?_⟩
 ·rcases hnew k hk with h1 | h1
  ·exact H.rd k h1 q
  ·have := H.low k q; omega
 ·rw [e1, e3]
  exact Kd.jJ H.cs (fun k q hlt => hM.block k hlt (fun q' => H.rd k (hS k hlt q') q))
 ·rw [e2, e4]
  exact Kd.jJ H.inp (fun k q hlt => hM.block k hlt (fun q' => H.rd k (hS k hlt q') q))
theorem gH (H : ROn Rd w o m) : o.fv.ownBlock ≠ some o.g ∧ o.ev.ownBlock ≠ some o.g ∧ o.g ∉ o.hs.flatMap RHo.blocks := by
 have nd := H.nd
 unfold RMo.own at nd
 exact ⟨fun q => apart nd (k := o.g) (by simp) (by simp [q]), fun q => apart nd (k := o.g) (by simp) (by simp [q]), fun q => apart nd (k := o.g) (by simp) (by simp only [Zn]; exact .inr (.inr q))⟩
theorem jO (H : ROn Rd w o m) (k : Nat) (e : o.fv.ownBlock = some k) : o.ev.ownBlock ≠ some k ∧ k ∉ o.hs.flatMap RHo.blocks := by
 have nd := H.nd
 unfold RMo.own at nd
 have nd2 := (List.nodup_append.1 nd).2.1
 exact ⟨fun q => apart nd2 (k := k) (by simp [e]) (by simp [q]), fun q => apart nd2 (k := k) (by simp [e]) (by simp only [Zn]; exact .inr q)⟩
theorem rev_apart (H : ROn Rd w o m) (k : Nat) (e : o.ev.ownBlock = some k) : k ∉ o.hs.flatMap RHo.blocks := by
 have nd := H.nd
 unfold RMo.own at nd
 have nd2 := (List.nodup_append.1 (List.nodup_append.1 nd).2.1).2.1
 exact fun q => apart nd2 (k := k) (by simp [e]) q
theorem jv (H : ROn Rd w o m) {hs0 : List RHo} {h : RHo} (ho : o.hs = hs0 ++ [h]) : ∀ k ∈ h.blocks, k ≠ o.g ∧ o.fv.ownBlock ≠ some k ∧ o.ev.ownBlock ≠ some k ∧ k ∉ hs0.flatMap RHo.blocks := by
 have e : o.own = ([o.g] ++ (o.fv.ownBlock.toList ++ (o.ev.ownBlock.toList ++ hs0.flatMap RHo.blocks))) ++ h.blocks := by simp [RMo.own, ho]
 have nd := H.nd
 rw [e] at nd
 intro k hk
 exact ⟨fun q => apart nd (by simp [q]) hk, fun q => apart nd (by simp [q]) hk, fun q => apart nd (by simp [q]) hk, fun q => apart nd (by simp only [Zn]; exact .inr (.inr (.inr q))) hk⟩
theorem kD {hs0 : List RHo} {h : RHo} (ho : o.hs = hs0 ++ [h]) : ∀ k ∈ h.blocks, k ∈ o.own := by
 intro k hk
 simp only [RMo.own, ho, List.flatMap_append, List.flatMap_cons, List.flatMap_nil, List.append_nil, Zn]
 exact .inr (.inr (.inr (.inr hk)))
theorem fZ {k : Nat} (h : o.fv.ownBlock = some k) : k ∈ o.own := by simp [RMo.own, h]
theorem rev_own {k : Nat} (h : o.ev.ownBlock = some k) : k ∈ o.own := by simp [RMo.own, h]
theorem tC (H : ROn Rd w o m) {hs0 : List RHo} {h : RHo} (ho : o.hs = hs0 ++ [h]) : h.blocks.Nodup := by
 have e : o.own = ([o.g] ++ (o.fv.ownBlock.toList ++ (o.ev.ownBlock.toList ++ hs0.flatMap RHo.blocks))) ++ h.blocks := by simp [RMo.own, ho]
 have nd := H.nd
 rw [e] at nd
 exact (List.nodup_append.1 nd).2.1
theorem jT {hs0 : List RHo} {h : RHo} (ho : o.hs = hs0 ++ [h]) : o.own = ([o.g] ++ (o.fv.ownBlock.toList ++ (o.ev.ownBlock.toList ++ (hs0.flatMap RHo.blocks ++ h.vc.ownBlock.toList)))) ++ (h.vs.ownBlock.toList ++ []) := by
 simp [RMo.own, ho, RHo.blocks]
theorem ROn.turn (H : ROn Rd w o m) {hs0 : List RHo} {h : RHo} {r : List Fr} {f f' : Fr} {vs' : Value} (ho : o.hs = hs0 ++ [h]) (hf : m.frames = r ++ [f]) (hM : Mod (fun k => o.fv.ownBlock = some k ∨ k ∈ h.blocks) w w')
  (hv : ∀ k, vs'.ownBlock = some k → h.vs.ownBlock = some k ∨ w.heap.size ≤ k) (hrow : w'.ownsRow 0 80 5 o.fv (r.length + 1) (gM hs0 r ++ eX { h with vs := vs' } f')) (HF : RFr w' { h with vs := vs' } f') :
  ROn Rd w' { o with hs := hs0 ++ [{ h with vs := vs' }] } { m with frames := r ++ [f'] } := by
 have hap := jv H ho
 have hown := kD ho
 have hlt := H.lt
 have ga := gH H
 have hfrs := H.frs
 rw [ho, hf] at hfrs
 obtain ⟨f1, f2⟩ := jR hfrs
 have hl := f1.fB
 have e' := jT (o := { o with hs := hs0 ++ [{ h with vs := vs' }] }) rfl
 have e := jT ho
 have hnew : ∀ k ∈ RMo.own { o with hs := hs0 ++ [{ h with vs := vs' }] }, k ∈ o.own ∨ w.heap.size ≤ k := by
  intro k hk
  rw [e', Zn] at hk
  rw [e, Zn]
  rcases hk with hk | hk
  ·exact .inl (.inl hk)
  ·have : vs'.ownBlock = some k := by simpa using hk
   rcases hv k this with q | q
   ·exact .inl (.inr (by simp [q]))
   ·exact .inr q
 have hgb := ga.2.2
 rw [ho, List.flatMap_append, Zn] at hgb
 refine H.jy hM (fun k _ q => q.elim fZ (hown k)) ?_ ?_ ?_ ?_ ?_ hnew rfl rfl rfl rfl
 ·exact (hM.block o.g (bF H.blk) (fun q => q.elim ga.1 (fun q => (hap _ q).1 rfl))).trans H.blk
 ·show w'.ownsRow 0 80 5 o.fv (r ++ [f']).length (gM (hs0 ++ [{ h with vs := vs' }]) (r ++ [f']))
  rw [ll _ _ hl, show (r ++ [f']).length = r.length + 1 by simp]
  exact hrow
 ·exact bZ H.ev (fun k q => hM.block k (H.ev.lt k q).2 (fun q' => q'.elim (fun e => (jO H k e).1 q) (fun q' => (hap _ q').2.2.1 q)))
 ·refine pU (jk f1 (fun k q => hM.block k (kP f1 k q) (fun q' => q'.elim (fun e => (jO H k e).2 ?_) (fun q' => (hap _ q').2.2.2 q)))) HF
  rw [ho, List.flatMap_append, Zn]; exact .inl q
 ·rw [e']
  have nd := H.nd
  have hN := H.lt
  rw [e] at nd hN
  exact ji nd hN hv
theorem qO {hs0 : List RHo} {h : RHo} {vs' : Value} (ho : o.hs = hs0 ++ [h]) (hv : ∀ k, vs'.ownBlock = some k → h.vs.ownBlock = some k ∨ w.heap.size ≤ k) : jK w o { o with hs := hs0 ++ [{ h with vs := vs' }] } := by
 refine ⟨rfl, fun k hk => ?_⟩
 rw [jT (o := { o with hs := hs0 ++ [{ h with vs := vs' }] }) rfl, Zn] at hk
 rw [jT ho, Zn]
 rcases hk with hk | hk
 ·exact .inl (.inl hk)
 ·have : vs'.ownBlock = some k := by simpa using hk
  rcases hv k this with q | q
  ·exact .inl (.inr (by simp [q]))
  ·exact .inr q
theorem jA (H : ROn Rd w o m) {hs0 : List RHo} {h : RHo} {r : List Fr} {f : Fr} (ho : o.hs = hs0 ++ [h]) (hf : m.frames = r ++ [f]) :
  ∃ fb cap, o.fv = .slice (some ⟨fb, 0, none⟩) (r.length + 1) cap ∧ r.length + 1 ≤ cap ∧ cap ≤ 9223372036854775807 ∧ w.ownsRow 0 80 5 o.fv (r.length + 1) (gM hs0 r ++ eX h f) ∧ (gM hs0 r).length = r.length * 5 := by
 have hfl : m.frames.length = r.length + 1 := by rw [hf]; simp
 have hfrs := H.frs
 rw [ho, hf] at hfrs
 have hl := (jR hfrs).1.fB
 have h1 := H.fr
 rw [hfl, ho, hf, ll _ _ hl] at h1
 rcases h1.2 with ⟨h, e⟩ | ⟨fg, fc, cur, h, _, hh, hn, hcap, hsz, htk⟩
 ·omega
 ·exact ⟨fg, fc, h, hn, by simp only [maxLen] at hcap; omega, h1, jU hl⟩
end
theorem mq {w : World} {base e size n : Nat} {fb cap l : Nat} {xs : List Value} (h : w.ownsRow base e size (.slice (some ⟨fb, 0, none⟩) l cap) n xs) {j : Nat} {u : Value} (hj : xs[j]? = some u) : w.cell? ⟨fb, j, none⟩ = some u ∧ w.frozen? ⟨fb, j, none⟩ = false := by
 rcases h.2 with ⟨h, _⟩ | ⟨fg, fc, cur, h, _, hh, hn, hcap, hsz, htk⟩
 ·cases h
 obtain ⟨rfl, rfl⟩ : fb = fg ∧ l = n := by simp only [Value.slice.injEq, Zl, Addr.mk.injEq] at h; exact ⟨h.1.1, h.2.1⟩
 refine ⟨?_, ai hh j⟩
 rw [ae hh, ← Array.getElem?_toList]
 have hlt := (List.getElem?_eq_some_iff.1 hj).1
 have e1 : (cur.toList.take (l * size))[j]? = some u := by rw [htk]; exact hj
 rw [List.getElem?_take] at e1
 by_cases hq : j < l * size
 ·rwa [if_pos hq] at e1
 ·rw [if_neg hq] at e1; cases e1
theorem rP {w : World} {base e size n : Nat} {fb cap l : Nat} {xs : List Value} (h : w.ownsRow base e size (.slice (some ⟨fb, 0, none⟩) l cap) n xs) (j : Nat) (u : Value) : (w.setCell ⟨fb, j, none⟩ u).ownsRow base e size (.slice (some ⟨fb, 0, none⟩) l cap) n (xs.set j u) := by
 refine ⟨by rw [List.length_set]; exact h.1, ?_⟩
 rcases h.2 with ⟨h, _⟩ | ⟨fg, fc, cur, h, hb, hh, hn, hcap, hsz, htk⟩
 ·cases h
 obtain ⟨rfl, rfl, rfl⟩ : fb = fg ∧ l = n ∧ cap = fc := by simp only [Value.slice.injEq, Zl, Addr.mk.injEq] at h; exact ⟨h.1.1, h.2.1, h.2.2⟩
 refine .inr ⟨fb, cap, cur.setIfInBounds j u, rfl, hb, dH hh j u, hn, hcap, by simpa using hsz, ?_⟩
 rw [Array.toList_setIfInBounds, List.take_set, htk]
section
variable {Rd : Nat → Prop} {w w' : World} {o o' : RMo} {m m' : Mc}
theorem ROn.putF (H : ROn Rd w o m) {hs0 : List RHo} {h : RHo} {r : List Fr} {f f' : Fr} {vs' : Value} (ho : o.hs = hs0 ++ [h]) (hf : m.frames = r ++ [f]) {fb n cap K : Nat} (hfv : o.fv = .slice (some ⟨fb, 0, none⟩) n cap) (hK : K = r.length * 5) (j : Nat) (u : Value)
  (hc : (eX h f).set j u = eX { h with vs := vs' } f') (hv : ∀ k, vs'.ownBlock = some k → h.vs.ownBlock = some k) (HF : RFr w { h with vs := vs' } f') :
  ROn Rd (w.setCell ⟨fb, K + j, none⟩ u) { o with hs := hs0 ++ [{ h with vs := vs' }] } { m with frames := r ++ [f'] } ∧ Mod (fun k => k = fb) w (w.setCell ⟨fb, K + j, none⟩ u) ∧ jK w o { o with hs := hs0 ++ [{ h with vs := vs' }] } := by
 obtain ⟨fb', cap', hfv', _, _, hrow, hX⟩ := jA H ho hf
 obtain ⟨rfl, rfl, rfl⟩ : fb = fb' ∧ n = r.length + 1 ∧ cap = cap' := by rw [hfv] at hfv'; simp only [Value.slice.injEq, Zl, Addr.mk.injEq] at hfv'; exact ⟨hfv'.1.1, hfv'.2.1, hfv'.2.2⟩
 have hob : o.fv.ownBlock = some fb := by rw [hfv]; rfl
 have hM : Mod (fun k => k = fb) w (w.setCell ⟨fb, K + j, none⟩ u) := (Mod.refl (fun k => k = fb) w).setCell (p := ⟨fb, K + j, none⟩) (fun _ => rfl) _
 have hap := jv H ho
 have hne : ∀ k ∈ RHo.blocks { h with vs := vs' }, k ≠ fb := fun k hk e => by
  subst e
  have : k ∈ h.blocks := by
   simp only [RHo.blocks, Zn, Option.mem_toList] at hk ⊢
   exact hk.imp_right (hv k)
  exact (hap k this).2.1 hob
 refine ⟨H.turn ho hf (hM.mono (fun k _ e => .inl (e ▸ hob))) (fun k e => .inl (hv k e)) ?_ (HF.kept (fun k hk => hM.block k (HF.lt k hk) (hne k hk))), hM, qO ho (fun k e => .inl (hv k e))⟩
 rw [hfv] at hrow ⊢
 have h1 := rP hrow (K + j) u
 rw [List.set_append_right _ _ (by omega), hX, show K + j - r.length * 5 = j by omega, hc] at h1
 exact h1
theorem ROn.getF (H : ROn Rd w o m) {hs0 : List RHo} {h : RHo} {r : List Fr} {f : Fr} (ho : o.hs = hs0 ++ [h]) (hf : m.frames = r ++ [f]) {fb n cap K : Nat} (hfv : o.fv = .slice (some ⟨fb, 0, none⟩) n cap) (hK : K = r.length * 5) {j : Nat} {u : Value}
  (hj : (eX h f)[j]? = some u) : w.cell? ⟨fb, K + j, none⟩ = some u ∧ w.frozen? ⟨fb, K + j, none⟩ = false := by
 obtain ⟨fb', cap', hfv', _, _, hrow, hX⟩ := jA H ho hf
 obtain ⟨rfl, rfl, rfl⟩ : fb = fb' ∧ n = r.length + 1 ∧ cap = cap' := by rw [hfv] at hfv'; simp only [Value.slice.injEq, Zl, Addr.mk.injEq] at hfv'; exact ⟨hfv'.1.1, hfv'.2.1, hfv'.2.2⟩
 rw [hfv] at hrow
 exact mq hrow (by rw [List.getElem?_append_right (by omega), hX, show K + j - r.length * 5 = j by omega]; exact hj)
theorem iw.of (H : ROn Rd w o m) {S : Nat → Prop} {o1 : RMo} (h1 : ROn Rd w' o1 m') (hs : jK w o o1) (hM : Mod S w w') (hS : ∀ k, k < w.heap.size → S k → k ∈ o.own) : iw Rd w o m' w' := ⟨o1, hs, h1, hM.mono hS⟩
theorem RFr.cut {w : World} {vc : Value} {A : Option Addr} {L cap n : Nat} {f : Fr} (H : RFr w ⟨vc, .slice A L cap⟩ f) (hn : n ≤ f.stack.length) : RFr w ⟨vc, .slice A n cap⟩ { f with stack := f.stack.take n } := by
 have hlen : (f.stack.take n).length = n := by rw [List.length_take]; omega
 refine ⟨H.cs, ?_⟩
 show World.ownsRow _ 0 2 1 (.slice A n cap) (f.stack.take n).length (ints (f.stack.take n))
 rw [hlen]
 refine ⟨by simp [ints]; omega, ?_⟩
 rcases H.st.2 with ⟨h, h0⟩ | ⟨sg, cap', cur, h, hb, hh, hn', hcap, hsz, htk⟩
 ·obtain ⟨rfl, rfl, rfl⟩ := Value.slice.inj h
  exact .inl ⟨by rw [show n = 0 by omega], by omega⟩
 ·obtain ⟨rfl, rfl, rfl⟩ := Value.slice.inj h
  refine .inr ⟨sg, cap, cur, rfl, hb, hh, by omega, hcap, hsz, ?_⟩
  have e2 := congrArg (List.take n) htk
  rw [List.take_take] at e2
  rw [show min n (f.stack.length * 1) = n * 1 by omega] at e2
  rw [e2]
  simp [ints, List.map_take]
end
theorem rend_calls (w : World) (g n : Nat) (vs vr : Value) (d : Bool) (pre : Array Value) (hp : pre.size = 10) (t : TypeId) (kd x : Int) (xs : List Value)
  (hg : w.heap[g]? = some (.cells (pre ++ #[vs, .bool d, vr]) t (0, 0))) (hs : w.ownsRow 0 38 2 vs n xs) (hne : vs.ownBlock ≠ some g) (hl : n + 1 ≤ 4398046511104) :
  Calls Tryd.prog 44 #[.pointer (some ⟨g, 0, none⟩), .int .i64 kd, .int .i64 x] w fun e w' => e = .returned (.tuple #[]) ∧ ∃ v1 w1, w1.ownsRow 0 38 2 v1 (n + 1) (xs ++ [.int .i64 kd, .int .i64 x]) ∧ w.grownBy w1 vs.ownBlock ∧ (v1.ownBlock = vs.ownBlock ∨ ∃ b, v1.ownBlock = some b ∧ w.heap.size ≤ b) ∧ w' = (w1.setCell ⟨g, 10, none⟩ v1).setCell ⟨g, 11, none⟩ (.bool true) := by
 have c4 : w.cell? ⟨g, 10, none⟩ = some vs := by rw [ae hg, Array.getElem?_append_right (by omega), hp]; rfl
 obtain ⟨A, l, c, rfl⟩ : ∃ A l c, vs = .slice A l c := by
  rcases hs.2 with ⟨h, _⟩ | ⟨_, _, _, h, _⟩ <;> exact ⟨_, _, _, h⟩
 go_enter Tryd.func44, Tryd.ntmps44
 go_wp2_with (at_builtin; refine eB 0 rfl (.tmp 10) (.tmp 14) 35 38 (.agg #[.int .i64 0, .int .i64 0]) 2 16 rfl Tryd.underlying35 mO rfl (by decide) (by decide) _ n xs [.int .i64 kd, .int .i64 x] rfl rfl rfl ?c2 hs (Below.refl 0 w) (Nat.zero_le _) (by omega) ?grow)
 case c2 => intro u hu; simp at hu; rcases hu with rfl | rfl <;> rfl
 case grow =>
  intro v1 w1 hown _ hgrow hat
  obtain ⟨g1, cap1, rfl⟩ : ∃ g1 cap1, v1 = .slice (some ⟨g1, 0, none⟩) (n + 1) cap1 := by
   rcases hown.2 with ⟨_, h⟩ | ⟨g1, cap1, _, h, _⟩
   ·omega
   ·exact ⟨g1, cap1, h⟩
  have hb := cZ hg hgrow (Ne.symm hne)
  have HAT := aa.mk hat; clear hat
  have k4 : w1.cell? ⟨g, 10, none⟩ = some (.slice A l c) := by rw [ae hb, Array.getElem?_append_right (by omega), hp]; rfl
  have f4 : w1.frozen? ⟨g, 10, none⟩ = false := ai hb 10
  have k5 : w1.cell? ⟨g, 11, none⟩ = some (.bool d) := by rw [ae hb, Array.getElem?_append_right (by omega), hp]; rfl
  have f5 : w1.frozen? ⟨g, 11, none⟩ = false := ai hb 11
  clear hb
  go_wp2
  go_end0
  exact ⟨rfl, _, w1, hown, hgrow, HAT.out, rfl⟩
section
variable {Rd : Nat → Prop} {w w' : World} {o o' : RMo} {m m' : Mc}
theorem ROn.setEv {v1 : Value} (H : ROn Rd w o m) (hM : Mod (fun k => k = o.g ∨ o.ev.ownBlock = some k) w w') (hv : ∀ k, v1.ownBlock = some k → o.ev.ownBlock = some k ∨ w.heap.size ≤ k)
  (hblk : w'.heap[o.g]? = some (.cells (oo { o with ev := v1 } m') 54 (0, 0))) (hev : w'.ownsRow 0 38 2 v1 m'.events.length (evs m'.events)) (e1 : m'.codes = m.codes) (e2 : m'.frames = m.frames) (e3 : m'.input = m.input) :
  ROn Rd w' { o with ev := v1 } m' := by
 have ga := gH H
 have hnew : ∀ k ∈ RMo.own { o with ev := v1 }, k ∈ o.own ∨ w.heap.size ≤ k := by
  intro k hk
  simp only [RMo.own, Zn, List.mem_singleton, Option.mem_toList] at hk ⊢
  rcases hk with hk | hk | hk | hk
  ·exact .inl (.inl hk)
  ·exact .inl (.inr (.inl hk))
  ·exact (hv k hk).imp_left (fun h => .inr (.inr (.inl h)))
  ·exact .inl (.inr (.inr (.inr hk)))
 refine H.jy (o' := { o with ev := v1 }) hM (fun k _ h => ?_) hblk ?_ hev ?_ ?_ hnew rfl rfl e1 e3
 ·rcases h with rfl | h
  ·simp [RMo.own]
  ·simp [RMo.own, h]
 ·rw [e2]
  refine bZ H.fr (fun k q => hM.block k (H.fr.lt k q).2 ?_)
  rintro (rfl | q')
  ·exact ga.1 q
  ·exact (jO H k q).1 q'
 ·rw [e2]
  refine jk H.frs (fun k q => hM.block k (kP H.frs k q) ?_)
  rintro (rfl | q')
  ·exact ga.2.2 q
  ·exact rev_apart H k q' q
 ·have nd := H.nd
  have hN := H.lt
  unfold RMo.own at nd hN ⊢
  rw [← List.append_assoc] at nd hN ⊢
  exact ji nd hN hv
theorem oP {v1 : Value} (hv : ∀ k, v1.ownBlock = some k → o.ev.ownBlock = some k ∨ w.heap.size ≤ k) : jK w o { o with ev := v1 } := by
 refine ⟨rfl, fun k hk => ?_⟩
 simp only [RMo.own, Zn, List.mem_singleton, Option.mem_toList] at hk ⊢
 rcases hk with hk | hk | hk | hk
 ·exact .inl (.inl hk)
 ·exact .inl (.inr (.inl hk))
 ·exact (hv k hk).imp_left (fun h => .inr (.inr (.inl h)))
 ·exact .inl (.inr (.inr (.inr hk)))
theorem ROn.event (H : ROn Rd w o m) (kd x : Int) {v1 : Value} {w1 : World} (hown : w1.ownsRow 0 38 2 v1 (m.events.length + 1) (evs m.events ++ [.int .i64 kd, .int .i64 x])) (hgr : w.grownBy w1 o.ev.ownBlock)
  (hat : v1.ownBlock = o.ev.ownBlock ∨ ∃ b, v1.ownBlock = some b ∧ w.heap.size ≤ b) : iw Rd w o { m with events := m.events ++ [(kd, x)] } (w1.setCell ⟨o.g, 10, none⟩ v1) ∧ iw Rd w o (m.endM kd x) ((w1.setCell ⟨o.g, 10, none⟩ v1).setCell ⟨o.g, 11, none⟩ (.bool true)) := by
 have ga := gH H
 have hv := jM hat
 have hv1 : v1.ownBlock ≠ some o.g := fun e => by
  rcases hv o.g e with h | h
  ·exact ga.2.1 h
  ·have := bF H.blk; omega
 have hM : Mod (fun k => k = o.g ∨ o.ev.ownBlock = some k) w (w1.setCell ⟨o.g, 10, none⟩ v1) := ((Mod.refl _ w).grown hgr (fun k e _ => .inr e)).setCell (p := ⟨o.g, 10, none⟩) (fun _ => .inl rfl) _
 have hM2 : Mod (fun k => k = o.g ∨ o.ev.ownBlock = some k) w ((w1.setCell ⟨o.g, 10, none⟩ v1).setCell ⟨o.g, 11, none⟩ (.bool true)) := hM.setCell (p := ⟨o.g, 11, none⟩) (fun _ => .inl rfl) _
 have hS : ∀ k, k < w.heap.size → k = o.g ∨ o.ev.ownBlock = some k → k ∈ o.own := fun k _ h => by
  rcases h with rfl | h
  ·simp [RMo.own]
  ·exact rev_own h
 have hb := dH (cZ H.blk hgr (Ne.symm ga.2.1)) 10 v1
 have hr : (w1.setCell ⟨o.g, 10, none⟩ v1).ownsRow 0 38 2 v1 (m.events ++ [(kd, x)]).length (evs (m.events ++ [(kd, x)])) := by
  rw [oU, show (m.events ++ [(kd, x)]).length = m.events.length + 1 by simp]
  exact dE hown (p := ⟨o.g, 10, none⟩) (fun e => hv1 e.symm) _
 exact ⟨⟨{ o with ev := v1 }, oP hv, H.setEv hM hv hb hr rfl rfl rfl, hM.mono hS⟩,
  ⟨{ o with ev := v1 }, oP hv, H.setEv (m' := m.endM kd x) hM2 hv (dH hb 11 _) (dE hr (p := ⟨o.g, 11, none⟩) (fun e => hv1 e.symm) _) rfl rfl rfl, hM2.mono hS⟩⟩
theorem ROn.putG (H : ROn Rd w o m) {g : Nat} (hg : o.g = g) (j : Nat) (u : Value) (ran : Int) {m' : Mc} (hc : oo { o with ran := ran } m' = (oo o m).setIfInBounds j u) (e1 : m'.codes = m.codes) (e2 : m'.frames = m.frames) (e3 : m'.input = m.input) (e4 : m'.events = m.events) :
  ROn Rd (w.setCell ⟨g, j, none⟩ u) { o with ran := ran } m' ∧ Mod (fun k => k = g) w (w.setCell ⟨g, j, none⟩ u) := by
 subst hg
 have ga := gH H
 have hM : Mod (fun k => k = o.g) w (w.setCell ⟨o.g, j, none⟩ u) := (Mod.refl (fun k => k = o.g) w).setCell (p := ⟨o.g, j, none⟩) (fun _ => rfl) _
 refine ⟨H.jy (o' := { o with ran := ran }) hM (fun k _ e => by subst e; simp [RMo.own]) ?_ ?_ ?_ ?_ H.nd (fun k h => .inl h) rfl rfl e1 e3, hM⟩
 ·rw [hc]; exact dH H.blk j u
 ·rw [e2]; exact dE H.fr (p := ⟨o.g, j, none⟩) (fun e => ga.1 e.symm) _
 ·rw [e4]; exact dE H.ev (p := ⟨o.g, j, none⟩) (fun e => ga.2.1 e.symm) _
 ·rw [e2]; exact jk H.frs (fun k hk => hM.block k (kP H.frs k hk) (fun e => by subst e; exact ga.2.2 hk))
theorem kT (H : ROn Rd w o m) (kd x : Int) (hl : m.events.length + 1 ≤ 4398046511104) :
  Calls Tryd.prog 44 #[o.ptr, .int .i64 kd, .int .i64 x] w fun e w' => e = .returned (.tuple #[]) ∧ iw Rd w o (m.endM kd x) w' := by
 refine (rend_calls w o.g m.events.length o.ev (.int .i64 o.ran) m.ended #[o.cv, o.fv, o.iv, .int .i64 (m.read : Int), .int .i64 m.fuel, .int .i64 m.ticks, .int .i64 m.tick.1, .int .i64 m.tick.2.1, .int .i64 m.tick.2.2.1, .int .i64 m.tick.2.2.2] rfl 54 kd x (evs m.events) H.blk H.ev (gH H).2.1 hl).mono ?_
 rintro e w' ⟨rfl, v1, w1, hown, hgr, hat, rfl⟩
 exact ⟨rfl, (H.event kd x hown hgr hat).2⟩
end
def ek (op : Int) : Nat := if op = 3 ∨ op = 4 ∨ op = 15 ∨ op = 16 ∨ op = 18 ∨ op = 21 ∨ op = 23 ∨ op = 25 then 1 else if op = 5 ∨ (7 ≤ op ∧ op ≤ 14) then 2 else 0
theorem of_takes {op : Int} (h0 : 1 ≤ op) (h1 : op ≤ 25) : ∃ r1 r2 r4, bV.f op = some (r1, r2, (ek op : Int), r4) := by
 have h : op = 1 ∨ op = 2 ∨ op = 3 ∨ op = 4 ∨ op = 5 ∨ op = 6 ∨ op = 7 ∨ op = 8 ∨ op = 9 ∨ op = 10 ∨ op = 11 ∨ op = 12 ∨ op = 13 ∨ op = 14 ∨ op = 15 ∨ op = 16 ∨ op = 17 ∨ op = 18 ∨ op = 19 ∨ op = 20 ∨ op = 21 ∨ op = 22 ∨ op = 23 ∨ op = 24 ∨ op = 25 := by omega
 rcases h with rfl | rfl | rfl | rfl | rfl | rfl | rfl | rfl | rfl | rfl | rfl | rfl | rfl | rfl | rfl | rfl | rfl | rfl | rfl | rfl | rfl | rfl | rfl | rfl | rfl <;> exact ⟨_, _, _, rfl⟩
def fu (cells : List Int) (i : S43) (l : List Int) : List Int × Int :=
 if i.f0 = 1 then ([i.f1], 0)
 else if i.f0 = 2 then ([cells.getD i.f1.toNat 0], 0)
 else if i.f0 = 4 then (if l.getD 0 0 < 0 ∨ i.f2 ≤ l.getD 0 0 then ([], 2) else ([cells.getD (i.f1 + l.getD 0 0).toNat 0], 0))
 else if i.f0 = 5 then (if l.getD 0 0 < 0 ∨ i.f2 ≤ l.getD 0 0 then ([], 2) else ([], 0))
 else if 7 ≤ i.f0 ∧ i.f0 ≤ 14 then (if (iK i.f0 (l.getD 0 0) (l.getD 1 0)).2 = 0 then ([(iK i.f0 (l.getD 0 0) (l.getD 1 0)).1], 0) else ([], (iK i.f0 (l.getD 0 0) (l.getD 1 0)).2))
 else if i.f0 = 15 then ([if l.getD 0 0 = 0 then 1 else 0], 0)
 else if i.f0 = 16 then ([wrap64 (-(l.getD 0 0))], 0)
 else if i.f0 = 23 then ([], if l.getD 0 0 = 0 then 3 else 0)
 else ([], 0)
def fH (f : Fr) (i : S43) (l : List Int) : Fr :=
 if i.f0 = 3 then { f with cells := f.cells.set i.f1.toNat (l.getD 0 0) }
 else if i.f0 = 5 then { f with cells := f.cells.set (i.f1 + l.getD 0 0).toNat (l.getD 1 0) }
 else if i.f0 = 6 then { f with cells := fe f.cells i.f1.toNat i.f2.toNat }
 else if i.f0 = 17 then { f with at_ := i.f1 }
 else if i.f0 = 18 then (if l.getD 0 0 = 0 then { f with at_ := i.f1 } else f)
 else f
theorem tu {f : Fr} {i : S43} (F : kW f i) {s l : List Int} (hs : f.stack = s ++ l) (hl : l.length = ek i.f0) :
  (cO f i).2 = (fu f.cells i l).2 ∧ ((fu f.cells i l).2 = 0 → (cO f i).1 = { fH { f with stack := s } i l with stack := s ++ (fu f.cells i l).1 }) ∧
   (cO f i).1.pr = f.pr ∧ (cO f i).1.mark = f.mark ∧ ((cO f i).2 ≠ 0 → (cO f i).1.cells = f.cells) := by
 obtain ⟨op, n, m⟩ := i
 obtain ⟨pr, at_, mk, cells, stack⟩ := f
 have hop := F.op
 simp only at hop hs hl
 subst hs
 have one : ∀ {l : List Int}, l.length = 1 → ∃ a, l = [a] := fun h => List.length_eq_one_iff.1 h
 have two : ∀ {l : List Int}, l.length = 2 → ∃ a b, l = [a, b] := fun {l} h => by
  match l, h with
  | [a, b], _ => exact ⟨a, b, rfl⟩
 rcases hop with rfl | rfl | rfl | rfl | rfl | rfl | ⟨h7, h14⟩ | rfl | rfl | rfl | rfl | rfl | rfl
 ·obtain rfl : l = [] := List.length_eq_zero_iff.1 hl
  simp [cO, fu, fH]
 ·obtain rfl : l = [] := List.length_eq_zero_iff.1 hl
  simp [cO, fu, fH]
 ·obtain ⟨a, rfl⟩ := one hl
  simp [cO, fu, fH]
 ·obtain ⟨a, rfl⟩ := one hl
  by_cases h : a < 0 ∨ m ≤ a <;> simp [cO, fu, fH, h]
 ·obtain ⟨a, b, rfl⟩ := two hl
  have e1 : (s ++ [a, b]).getLastD 0 = b := by rw [show s ++ [a, b] = (s ++ [a]) ++ [b] by simp, List.getLastD_concat]
  have e2 : (s ++ [a, b]).dropLast = s ++ [a] := by rw [show s ++ [a, b] = (s ++ [a]) ++ [b] by simp, List.dropLast_concat]
  have e3 : (s ++ [a]).getLastD 0 = a := List.getLastD_concat
  by_cases h : a < 0 ∨ m ≤ a <;> simp [cO, fu, fH, e1, e2, e3, h]
 ·obtain rfl : l = [] := List.length_eq_zero_iff.1 hl
  simp [cO, fu, fH]
 ·have ht : ek op = 2 := by
   unfold ek
   rw [if_neg (by omega), if_pos (by omega)]
  obtain ⟨a, b, rfl⟩ := two (hl.trans ht)
  have e1 : (s ++ [a, b]).getLastD 0 = b := by rw [show s ++ [a, b] = (s ++ [a]) ++ [b] by simp, List.getLastD_concat]
  have e2 : (s ++ [a, b]).dropLast = s ++ [a] := by rw [show s ++ [a, b] = (s ++ [a]) ++ [b] by simp, List.dropLast_concat]
  have e3 : (s ++ [a]).getLastD 0 = a := List.getLastD_concat
  have k1 : cO ⟨pr, at_, mk, cells, s ++ [a, b]⟩ ⟨op, n, m⟩ = (⟨pr, at_, mk, cells, s ++ [(iK op a b).1]⟩, (iK op a b).2) := by
   unfold cO
   simp only [e1, e2, e3, List.dropLast_concat]
   rw [if_neg (by omega), if_neg (by omega), if_neg (by omega), if_neg (by omega), if_neg (by omega), if_neg (by omega), if_neg (by omega), if_neg (by omega), if_neg (by omega), if_neg (by omega), if_neg (by omega), if_neg (by omega)]
  have k2 : ∀ f : Fr, fH f ⟨op, n, m⟩ [a, b] = f := fun f => by
   unfold fH
   simp only
   rw [if_neg (by omega), if_neg (by omega), if_neg (by omega), if_neg (by omega), if_neg (by omega)]
  have k3 : fu cells ⟨op, n, m⟩ [a, b] = if (iK op a b).2 = 0 then ([(iK op a b).1], 0) else ([], (iK op a b).2) := by
   unfold fu
   simp only
   rw [if_neg (by omega), if_neg (by omega), if_neg (by omega), if_neg (by omega), if_pos ⟨h7, h14⟩]
   rfl
  simp only [k1, k2, k3]
  by_cases h : (iK op a b).2 = 0 <;> simp [h]
 ·obtain ⟨a, rfl⟩ := one hl
  simp [cO, fu, fH]
 ·obtain ⟨a, rfl⟩ := one hl
  simp [cO, fu, fH]
 ·obtain rfl : l = [] := List.length_eq_zero_iff.1 hl
  simp [cO, fu, fH]
 ·obtain ⟨a, rfl⟩ := one hl
  by_cases h : a = 0 <;> simp [cO, fu, fH, h]
 ·obtain ⟨a, rfl⟩ := one hl
  by_cases h : a = 0 <;> simp [cO, fu, fH, h]
 ·obtain ⟨a, rfl⟩ := one hl
  simp [cO, fu, fH]
def Mc.rdoes (m : Mc) (r : List Fr) (f : Fr) (i : S43) : Mc × Bool :=
 if i.f0 = 19 ∨ i.f0 = 20 ∨ i.f0 = 21 ∨ i.f0 = 22 ∨ i.f0 = 24 then m.does r f i
 else if (cO f i).2 = 0 then ({ m with frames := r ++ [(cO f i).1] }, false)
 else ({ m with frames := r ++ [{ f with stack := f.stack.take (f.stack.length - ek i.f0) }] }.endM 4 (cO f i).2, false)
def Mc.rone (m : Mc) : Mc × Bool :=
 match m.frames.getLast? with
 | none => (m, false)
 | some f => m.rdoes m.frames.dropLast { f with at_ := f.at_ + 1 } (m.ins f)
def Fr.told (f : Fr) : Int × Int × List Int := (f.pr, f.mark, f.cells)
structure Alike (a b : Mc) : Prop where
 frames : a.frames.map Fr.told = b.frames.map Fr.told
 ticks : a.ticks = b.ticks
 tick : a.tick = b.tick
 events : a.events = b.events
 ended : a.ended = b.ended
theorem Alike.refl (a : Mc) : Alike a a := ⟨rfl, rfl, rfl, rfl, rfl⟩
def Sim (a b : Mc) : Prop := a = b ∨ (a.ended = true ∧ Alike a b)
theorem Sim.alike {a b : Mc} (h : Sim a b) : Alike a b := h.elim (fun e => e ▸ Alike.refl a) (fun h => h.2)
theorem Sim.eq {a b : Mc} (h : Sim a b) (he : b.ended = false) : a = b := h.elim id (fun h => by have := h.2.ended; rw [h.1, he] at this; cases this)
theorem rone_sim {m : Mc} {r : List Fr} {f : Fr} (F : Fits m r f) : m.rone.2 = m.one.2 ∧ Sim m.rone.1 m.one.1 := by
 have e1 : m.one = m.does r { f with at_ := f.at_ + 1 } (m.ins f) := by
  unfold Mc.one; rw [F.fr]; simp
 have e2 : m.rone = m.rdoes r { f with at_ := f.at_ + 1 } (m.ins f) := by
  unfold Mc.rone; rw [F.fr]; simp
 rw [e1, e2]
 unfold Mc.rdoes
 by_cases h : (m.ins f).f0 = 19 ∨ (m.ins f).f0 = 20 ∨ (m.ins f).f0 = 21 ∨ (m.ins f).f0 = 22 ∨ (m.ins f).f0 = 24
 ·rw [if_pos h]; exact ⟨rfl, .inl rfl⟩
 ·rw [if_neg h]
  have h1 : (m.ins f).f0 ≠ 19 := by omega
  have h2 : (m.ins f).f0 ≠ 20 := by omega
  have h3 : (m.ins f).f0 ≠ 21 := by omega
  have h4 : (m.ins f).f0 ≠ 22 := by omega
  have h5 : (m.ins f).f0 ≠ 24 := by omega
  have e3 : m.does r { f with at_ := f.at_ + 1 } (m.ins f) = if (cO { f with at_ := f.at_ + 1 } (m.ins f)).2 = 0 then ({ m with frames := r ++ [(cO { f with at_ := f.at_ + 1 } (m.ins f)).1] }, false) else ({ m with frames := r ++ [(cO { f with at_ := f.at_ + 1 } (m.ins f)).1] }.endM 4 (cO { f with at_ := f.at_ + 1 } (m.ins f)).2, false) := by
   unfold Mc.does
   rw [if_neg h1, if_neg h2, if_neg h3, if_neg h4, if_neg h5]
  rw [e3]
  by_cases ht : (cO { f with at_ := f.at_ + 1 } (m.ins f)).2 = 0
  ·rw [if_pos ht, if_pos ht]; exact ⟨rfl, .inl rfl⟩
  ·rw [if_neg ht, if_neg ht]
   have FD := F.data h1 h2 h3 h4 h5
   have htk : ek (m.ins f).f0 ≤ f.stack.length := by
    have o1 := FD.one; have o2 := FD.two
    unfold ek
    split
    ·exact o1 (by omega)
    ·split
     ·exact o2 (by assumption)
     ·omega
   obtain ⟨_, _, q1, q2, q3⟩ := tu FD (s := f.stack.take (f.stack.length - ek (m.ins f).f0)) (l := f.stack.drop (f.stack.length - ek (m.ins f).f0)) (by simp) (by rw [List.length_drop]; omega)
   refine ⟨rfl, .inr ⟨rfl, ⟨?_, rfl, rfl, rfl, rfl⟩⟩⟩
   show (r ++ [_]).map Fr.told = (r ++ [_]).map Fr.told
   rw [List.map_append, List.map_append]
   congr 1
   simp only [List.map_cons, List.map_nil, Fr.told, q1, q2, q3 ht]
theorem gQ {m : Mc} {r : List Fr} {f : Fr} (hf : m.frames = r ++ [f]) (h : (m.ins f).f0 = 19 ∨ (m.ins f).f0 = 20 ∨ (m.ins f).f0 = 21 ∨ (m.ins f).f0 = 22 ∨ (m.ins f).f0 = 24) : m.rone = m.does r { f with at_ := f.at_ + 1 } (m.ins f) := by
 unfold Mc.rone
 rw [hf]
 simp only [List.getLast?_append, List.getLast?_singleton, Option.some_or, List.dropLast_concat]
 unfold Mc.rdoes
 rw [if_pos h]
theorem nV {m : Mc} {r : List Fr} {f : Fr} (F : Fits m r f) (h1 : (m.ins f).f0 ≠ 19) (h2 : (m.ins f).f0 ≠ 20) : ek (m.ins f).f0 ≤ f.stack.length ∧ 1 ≤ (m.ins f).f0 ∧ (m.ins f).f0 ≤ 25 := by
 by_cases h3 : (m.ins f).f0 = 21
 ·rw [h3]; exact ⟨F.print h3, by omega, by omega⟩
 by_cases h4 : (m.ins f).f0 = 22
 ·rw [h4]; exact ⟨Nat.zero_le _, by omega, by omega⟩
 by_cases h5 : (m.ins f).f0 = 24
 ·rw [h5]; exact ⟨Nat.zero_le _, by omega, by omega⟩
 have FD := F.data h1 h2 h3 h4 h5
 have o1 := FD.one; have o2 := FD.two; have o0 := FD.op
 refine ⟨?_, by omega, by omega⟩
 unfold ek
 split
 ·exact o1 (by omega)
 ·split
  ·exact o2 (by assumption)
  ·omega
def In64 (x : Int) : Prop := -9223372036854775808 ≤ x ∧ x ≤ 9223372036854775807
theorem Add_ok (a b : Int) : Ev (fun k => fG.f k a b) (wrap64 (a + b)) := by
 obtain ⟨A, hA, pA⟩ := jV a
 obtain ⟨B, hB, pB⟩ := jV b
 obtain ⟨D, hD, pD⟩ := nH pA pB 0 (Nat.zero_le _)
 have hn := mE pD
 have e : wrap64 (((um a + um b + 0) % 2 ^ 64 : Nat) : Int) = wrap64 (a + b) := by
  have := jS a
  have := jS b
  apply qH
  omega
 rw [e] at hn
 exact Ev.bind hA (Ev.bind hB (Ev.bind hD (Ev.fin hn)))
theorem ma (c : Prop) [Decidable c] : df.f (decide c) = some (if c then 1 else 0) := by
 unfold df.f
 by_cases h : c <;> simp [h]
theorem uK (a b op n m : Int) (hop : op = 10 ∨ op = 11) (ha : In64 a) (hb : In64 b) : Ev (fun k => ak.j2 k a b op true op n m) (if (iK op a b).2 = 0 then ([(iK op a b).1], 0) else ([], (iK op a b).2)) := by
 refine YE.evs ?_
 simp only [ak.j2, if_true]
 by_cases h0 : b = 0
 ·subst h0
  rcases hop with rfl | rfl <;> exact Ev.now _
 ·have c0 : (b = 0) = False := ff h0
  rcases hop with rfl | rfl
  ·have e : (iK 10 a b) = (wrap64 (Int.tdiv a b), 0) := by simp [iK, h0]
   rw [e]
   simp only [c0, if_false]
   refine Ev.bind (sM a b ha.1 ha.2 hb.1 hb.2 h0) ?_
   simp only [show ((10 : Int) = 11) = False by simp, if_false]
   exact Ev.now _
  ·have e : (iK 11 a b) = (Int.tmod a b, 0) := by simp [iK, h0]
   rw [e]
   simp only [c0, if_false]
   refine Ev.bind (sM a b ha.1 ha.2 hb.1 hb.2 h0) ?_
   simp only [if_true]
   refine Ev.bind (Mod_ok a b ha.1 ha.2 hb.1 hb.2 h0) ?_
   exact Ev.now _
theorem res_j1 {f : Fr} {i : S43} (F : kW f i) (l : List Int) (hl : l.length = ek i.f0) (hr : ∀ x ∈ l, In64 x) (pr at_ mk : Int) (stk : List Int) :
  Ev (fun k => ak.j1 k (l.getD 0 0) (l.getD 1 0) pr at_ mk f.cells stk i.f0 i.f1 i.f2) (fu f.cells i l) := by
 obtain ⟨op, n, m⟩ := i
 have hop := F.op; have hcell := F.cell; have hrow := F.row; have hcl := F.cells
 simp only at hop hcell hrow hl
 have ha : In64 (l.getD 0 0) := by
  rw [List.getD_eq_getElem?_getD]
  rcases h : l[0]? with _ | x
  ·exact ⟨by decide, by decide⟩
  ·exact hr x (List.mem_of_getElem? h)
 have hb : In64 (l.getD 1 0) := by
  rw [List.getD_eq_getElem?_getD]
  rcases h : l[1]? with _ | x
  ·exact ⟨by decide, by decide⟩
  ·exact hr x (List.mem_of_getElem? h)
 generalize hga : l.getD 0 0 = a at *
 generalize hgb : l.getD 1 0 = b at *
 refine YE.evs ?_
 rcases hop with rfl | rfl | rfl | rfl | rfl | rfl | ⟨h7, h14⟩ | rfl | rfl | rfl | rfl | rfl | rfl
 ·simp only [ak.j1, if_true]
  exact Ev.now _
 ·have c := hcell (.inl rfl)
  simp only [ak.j1, if_true, show ((2 : Int) = 1) = False by simp, if_false, tt c.1, tt c.2]
  exact Ev.now _
 ·simp only [ak.j1, show ((3 : Int) = 1) = False by simp, show ((3 : Int) = 2) = False by simp, show ((3 : Int) = 4) = False by simp, show ((3 : Int) = 5) = False by simp, show ((3 : Int) = 7) = False by simp, show ((3 : Int) = 8) = False by simp, show ((3 : Int) = 9) = False by simp, show ((3 : Int) = 10) = False by simp, if_false, show ((3 : Int) == 11) = false by decide]
  refine YE.evs ?_
  simp only [ak.j2, show (false = true) = False by simp, if_false, show ((3 : Int) = 12) = False by simp, show ((3 : Int) = 13) = False by simp, show ((3 : Int) = 14) = False by simp, show ((3 : Int) = 15) = False by simp, show ((3 : Int) = 16) = False by simp, show ((3 : Int) = 23) = False by simp]
  exact Ev.now _
 ·have c := hrow (.inl rfl)
  simp only [ak.j1, show ((4 : Int) = 1) = False by simp, show ((4 : Int) = 2) = False by simp, if_false, if_true]
  by_cases h0 : a < 0
  ·have e : fu f.cells ⟨4, n, m⟩ l = ([], 2) := by simp only [fu, hga]; simp [h0]
   rw [e]
   simp only [tt h0, if_true]
   exact Ev.now _
  ·by_cases h1 : m ≤ a
   ·have e : fu f.cells ⟨4, n, m⟩ l = ([], 2) := by simp only [fu, hga]; simp [h1]
    rw [e]
    simp only [ff h0, if_false, tt (show a ≥ m from h1), if_true]
    exact Ev.now _
   ·have e : fu f.cells ⟨4, n, m⟩ l = ([f.cells.getD (n + a).toNat 0], 0) := by simp only [fu, hga]; simp [h0, h1]
    have ew : wrap64 (n + a) = n + a := w64 (by omega) (by omega)
    rw [e]
    simp only [ff h0, if_false, ff (show ¬ a ≥ m from h1), ew, tt (show 0 ≤ n + a by omega), tt (show n + a < (f.cells.length : Int) by omega), if_true]
    exact Ev.now _
 ·simp only [ak.j1, show ((5 : Int) = 1) = False by simp, show ((5 : Int) = 2) = False by simp, show ((5 : Int) = 4) = False by simp, if_false, if_true]
  by_cases h0 : a < 0
  ·have e : fu f.cells ⟨5, n, m⟩ l = ([], 2) := by simp only [fu, hga]; simp [h0]
   rw [e]
   simp only [tt h0, if_true]
   exact Ev.now _
  ·by_cases h1 : m ≤ a
   ·have e : fu f.cells ⟨5, n, m⟩ l = ([], 2) := by simp only [fu, hga]; simp [h1]
    rw [e]
    simp only [ff h0, if_false, tt (show a ≥ m from h1), if_true]
    exact Ev.now _
   ·have e : fu f.cells ⟨5, n, m⟩ l = ([], 0) := by simp only [fu, hga]; simp [h0, h1]
    rw [e]
    simp only [ff h0, if_false, ff (show ¬ a ≥ m from h1)]
    exact Ev.now _
 ·simp only [ak.j1, show ((6 : Int) = 1) = False by simp, show ((6 : Int) = 2) = False by simp, show ((6 : Int) = 4) = False by simp, show ((6 : Int) = 5) = False by simp, show ((6 : Int) = 7) = False by simp, show ((6 : Int) = 8) = False by simp, show ((6 : Int) = 9) = False by simp, show ((6 : Int) = 10) = False by simp, if_false, if_true, show ((6 : Int) == 11) = false by decide]
  refine YE.evs ?_
  simp only [ak.j2, show (false = true) = False by simp, if_false, if_true, show ((6 : Int) = 12) = False by simp, show ((6 : Int) = 13) = False by simp, show ((6 : Int) = 14) = False by simp, show ((6 : Int) = 15) = False by simp, show ((6 : Int) = 16) = False by simp, show ((6 : Int) = 23) = False by simp]
  exact Ev.now _
 ·have h : op = 7 ∨ op = 8 ∨ op = 9 ∨ op = 10 ∨ op = 11 ∨ op = 12 ∨ op = 13 ∨ op = 14 := by omega
  have e : fu f.cells ⟨op, n, m⟩ l = if (iK op a b).2 = 0 then ([(iK op a b).1], 0) else ([], (iK op a b).2) := by
   unfold fu
   simp only [hga, hgb]
   rw [if_neg (by omega), if_neg (by omega), if_neg (by omega), if_neg (by omega), if_pos ⟨h7, h14⟩]
  rw [e]
  clear e h7 h14
  rcases h with rfl | rfl | rfl | rfl | rfl | rfl | rfl | rfl
  ·simp only [ak.j1, show ((7 : Int) = 1) = False by simp, show ((7 : Int) = 2) = False by simp, show ((7 : Int) = 4) = False by simp, show ((7 : Int) = 5) = False by simp, if_false, if_true]
   exact Ev.bind (Add_ok a b) (Ev.now _)
  ·simp only [ak.j1, show ((8 : Int) = 1) = False by simp, show ((8 : Int) = 2) = False by simp, show ((8 : Int) = 4) = False by simp, show ((8 : Int) = 5) = False by simp, show ((8 : Int) = 7) = False by simp, if_false, if_true]
   exact Ev.bind (sF a b) (Ev.now _)
  ·simp only [ak.j1, show ((9 : Int) = 1) = False by simp, show ((9 : Int) = 2) = False by simp, show ((9 : Int) = 4) = False by simp, show ((9 : Int) = 5) = False by simp, show ((9 : Int) = 7) = False by simp, show ((9 : Int) = 8) = False by simp, if_false, if_true]
   exact Ev.bind (uS a b) (Ev.now _)
  ·simp only [ak.j1, show ((10 : Int) = 1) = False by simp, show ((10 : Int) = 2) = False by simp, show ((10 : Int) = 4) = False by simp, show ((10 : Int) = 5) = False by simp, show ((10 : Int) = 7) = False by simp, show ((10 : Int) = 8) = False by simp, show ((10 : Int) = 9) = False by simp, if_false, if_true]
   exact uK a b 10 n m (.inl rfl) ha hb
  ·simp only [ak.j1, show ((11 : Int) = 1) = False by simp, show ((11 : Int) = 2) = False by simp, show ((11 : Int) = 4) = False by simp, show ((11 : Int) = 5) = False by simp, show ((11 : Int) = 7) = False by simp, show ((11 : Int) = 8) = False by simp, show ((11 : Int) = 9) = False by simp, show ((11 : Int) = 10) = False by simp, if_false, if_true]
   exact uK a b 11 n m (.inr rfl) ha hb
  ·simp only [ak.j1, show ((12 : Int) = 1) = False by simp, show ((12 : Int) = 2) = False by simp, show ((12 : Int) = 4) = False by simp, show ((12 : Int) = 5) = False by simp, show ((12 : Int) = 7) = False by simp, show ((12 : Int) = 8) = False by simp, show ((12 : Int) = 9) = False by simp, show ((12 : Int) = 10) = False by simp, if_false, if_true]
   refine YE.evs ?_
   simp only [ak.j2, show (((12 : Int) == 11) = true) = False by decide, if_false, if_true, ma]
   exact Ev.now _
  ·simp only [ak.j1, show ((13 : Int) = 1) = False by simp, show ((13 : Int) = 2) = False by simp, show ((13 : Int) = 4) = False by simp, show ((13 : Int) = 5) = False by simp, show ((13 : Int) = 7) = False by simp, show ((13 : Int) = 8) = False by simp, show ((13 : Int) = 9) = False by simp, show ((13 : Int) = 10) = False by simp, if_false, if_true]
   refine YE.evs ?_
   simp only [ak.j2, show (((13 : Int) == 11) = true) = False by decide, if_false, if_true, show ((13 : Int) = 12) = False by simp, ma]
   exact Ev.now _
  ·simp only [ak.j1, show ((14 : Int) = 1) = False by simp, show ((14 : Int) = 2) = False by simp, show ((14 : Int) = 4) = False by simp, show ((14 : Int) = 5) = False by simp, show ((14 : Int) = 7) = False by simp, show ((14 : Int) = 8) = False by simp, show ((14 : Int) = 9) = False by simp, show ((14 : Int) = 10) = False by simp, if_false, if_true]
   refine YE.evs ?_
   simp only [ak.j2, show (((14 : Int) == 11) = true) = False by decide, if_false, if_true, show ((14 : Int) = 12) = False by simp, show ((14 : Int) = 13) = False by simp, show (a == b) = decide (a = b) from rfl, ma]
   exact Ev.now _
 ·simp only [ak.j1, show ((15 : Int) = 1) = False by simp, show ((15 : Int) = 2) = False by simp, show ((15 : Int) = 4) = False by simp, show ((15 : Int) = 5) = False by simp, show ((15 : Int) = 7) = False by simp, show ((15 : Int) = 8) = False by simp, show ((15 : Int) = 9) = False by simp, show ((15 : Int) = 10) = False by simp, if_false, if_true, show ((15 : Int) == 11) = false by decide]
  refine YE.evs ?_
  simp only [ak.j2, show (false = true) = False by simp, if_false, if_true, show ((15 : Int) = 12) = False by simp, show ((15 : Int) = 13) = False by simp, show ((15 : Int) = 14) = False by simp, show ((15 : Int) = 16) = False by simp, show ((15 : Int) = 23) = False by simp]
  rw [show (a == 0) = decide (a = 0) from rfl, ma]
  have e : fu f.cells ⟨15, n, m⟩ l = ([if a = 0 then 1 else 0], 0) := by simp only [fu, hga]; simp
  rw [e]
  exact Ev.now _
 ·simp only [ak.j1, show ((16 : Int) = 1) = False by simp, show ((16 : Int) = 2) = False by simp, show ((16 : Int) = 4) = False by simp, show ((16 : Int) = 5) = False by simp, show ((16 : Int) = 7) = False by simp, show ((16 : Int) = 8) = False by simp, show ((16 : Int) = 9) = False by simp, show ((16 : Int) = 10) = False by simp, if_false, if_true, show ((16 : Int) == 11) = false by decide]
  refine YE.evs ?_
  simp only [ak.j2, show (false = true) = False by simp, if_false, if_true, show ((16 : Int) = 12) = False by simp, show ((16 : Int) = 13) = False by simp, show ((16 : Int) = 14) = False by simp, show ((16 : Int) = 15) = False by simp, show ((16 : Int) = 23) = False by simp]
  have e : fu f.cells ⟨16, n, m⟩ l = ([wrap64 (-a)], 0) := by simp only [fu, hga]; simp
  rw [e]
  exact Ev.bind (sj a) (Ev.now _)
 ·simp only [ak.j1, show ((17 : Int) = 1) = False by simp, show ((17 : Int) = 2) = False by simp, show ((17 : Int) = 4) = False by simp, show ((17 : Int) = 5) = False by simp, show ((17 : Int) = 7) = False by simp, show ((17 : Int) = 8) = False by simp, show ((17 : Int) = 9) = False by simp, show ((17 : Int) = 10) = False by simp, if_false, if_true, show ((17 : Int) == 11) = false by decide]
  refine YE.evs ?_
  simp only [ak.j2, show (false = true) = False by simp, if_false, if_true, show ((17 : Int) = 12) = False by simp, show ((17 : Int) = 13) = False by simp, show ((17 : Int) = 14) = False by simp, show ((17 : Int) = 15) = False by simp, show ((17 : Int) = 16) = False by simp, show ((17 : Int) = 23) = False by simp]
  exact Ev.now _
 ·simp only [ak.j1, show ((18 : Int) = 1) = False by simp, show ((18 : Int) = 2) = False by simp, show ((18 : Int) = 4) = False by simp, show ((18 : Int) = 5) = False by simp, show ((18 : Int) = 7) = False by simp, show ((18 : Int) = 8) = False by simp, show ((18 : Int) = 9) = False by simp, show ((18 : Int) = 10) = False by simp, if_false, if_true, show ((18 : Int) == 11) = false by decide]
  refine YE.evs ?_
  simp only [ak.j2, show (false = true) = False by simp, if_false, if_true, show ((18 : Int) = 12) = False by simp, show ((18 : Int) = 13) = False by simp, show ((18 : Int) = 14) = False by simp, show ((18 : Int) = 15) = False by simp, show ((18 : Int) = 16) = False by simp, show ((18 : Int) = 23) = False by simp]
  exact Ev.now _
 ·simp only [ak.j1, show ((23 : Int) = 1) = False by simp, show ((23 : Int) = 2) = False by simp, show ((23 : Int) = 4) = False by simp, show ((23 : Int) = 5) = False by simp, show ((23 : Int) = 7) = False by simp, show ((23 : Int) = 8) = False by simp, show ((23 : Int) = 9) = False by simp, show ((23 : Int) = 10) = False by simp, if_false, if_true, show ((23 : Int) == 11) = false by decide]
  refine YE.evs ?_
  simp only [ak.j2, show (false = true) = False by simp, if_false, if_true, show ((23 : Int) = 12) = False by simp, show ((23 : Int) = 13) = False by simp, show ((23 : Int) = 14) = False by simp, show ((23 : Int) = 15) = False by simp, show ((23 : Int) = 16) = False by simp]
  have e : fu f.cells ⟨23, n, m⟩ l = ([], if a = 0 then 3 else 0) := by simp only [fu, hga]; simp
  rw [e]
  by_cases h : a = 0
  ·simp only [tt h, if_true]; exact Ev.now _
  ·simp only [ff h, if_false]; exact Ev.now _
 ·simp only [ak.j1, show ((25 : Int) = 1) = False by simp, show ((25 : Int) = 2) = False by simp, show ((25 : Int) = 4) = False by simp, show ((25 : Int) = 5) = False by simp, show ((25 : Int) = 7) = False by simp, show ((25 : Int) = 8) = False by simp, show ((25 : Int) = 9) = False by simp, show ((25 : Int) = 10) = False by simp, if_false, if_true, show ((25 : Int) == 11) = false by decide]
  refine YE.evs ?_
  simp only [ak.j2, show (false = true) = False by simp, if_false, if_true, show ((25 : Int) = 12) = False by simp, show ((25 : Int) = 13) = False by simp, show ((25 : Int) = 14) = False by simp, show ((25 : Int) = 15) = False by simp, show ((25 : Int) = 16) = False by simp, show ((25 : Int) = 23) = False by simp]
  exact Ev.now _
theorem result_ok {f : Fr} {i : S43} (F : kW f i) (l : List Int) (hl : l.length = ek i.f0) (hr : ∀ x ∈ l, In64 x) (pr at_ mk : Int) (stk : List Int) :
  ∃ k, ak.f k pr at_ mk f.cells stk i.f0 i.f1 i.f2 l = some (fu f.cells i l) := by
 have h : Ev (fun k => ak.f k pr at_ mk f.cells stk i.f0 i.f1 i.f2 l) (fu f.cells i l) := by
  have h1 := res_j1 F l hl hr pr at_ mk stk
  unfold ak.f
  have hle : l.length = 0 ∨ l.length = 1 ∨ l.length = 2 := by rw [hl]; unfold ek; (repeat' split) <;> omega
  match l, hle, h1 with
  | [], _, h1 =>
   simp only [List.length_nil, show (((0 : Nat) : Int) > 0) = False by simp, if_false]
   refine YE.evs ?_
   simp only [ak.j0, List.length_nil, show (((0 : Nat) : Int) > 1) = False by simp, if_false]
   exact h1
  | [a], _, h1 =>
   simp only [List.length_cons, List.length_nil, show (((0 + 1 : Nat) : Int) > 0) = True by simp, show (0 < ((0 + 1 : Nat) : Int)) = True by simp, if_true]
   refine YE.evs ?_
   simp only [ak.j0, List.length_cons, List.length_nil, show (((0 + 1 : Nat) : Int) > 1) = False by simp, if_false]
   exact h1
  | [a, b], _, h1 =>
   simp only [List.length_cons, List.length_nil, show (((0 + 1 + 1 : Nat) : Int) > 0) = True by simp, show (0 < ((0 + 1 + 1 : Nat) : Int)) = True by simp, if_true]
   refine YE.evs ?_
   simp only [ak.j0, List.length_cons, List.length_nil, show (((0 + 1 + 1 : Nat) : Int) > 1) = True by simp, show (1 < ((0 + 1 + 1 : Nat) : Int)) = True by simp, if_true]
   exact h1
 obtain ⟨k, hk⟩ := h
 exact ⟨k, hk k (Zd _)⟩
theorem jw (w : World) : ∀ (l pre : List Int) (cs : List Value), bJ ((Kd.int .i64).K w) 1 pre cs → bJ ((Kd.int .i64).K w) 1 (pre ++ l) (cs ++ ints l)
 | [], pre, cs, h => by simpa [ints] using h
 | x :: l, pre, cs, h => by
  have := jw w l (pre ++ [x]) (cs ++ [.int .i64 x]) (h.snoc (show (Kd.int .i64).K w x [.int .i64 x] from rfl) rfl)
  simpa [ints, List.append_assoc] using this
theorem ko {w : World} {v : Value} {l : List Int} (h : w.ownsRow 0 2 1 v l.length (ints l)) : ∃ A c, v = .slice A l.length c ∧ l.length ≤ c ∧ c ≤ 9223372036854775807 ∧ Kd.C (Kd.int .i64) w A l.length l := by
 have hR : bJ ((Kd.int .i64).K w) 1 l (ints l) := by simpa using jw w l [] [] (bJ.none _ _)
 obtain ⟨A, c, e, hc1, hc2, _, _⟩ := iG h
 obtain ⟨A', c', e', hr⟩ := ib h hR rfl
 rw [e] at e'
 obtain ⟨rfl, _, rfl⟩ := Value.slice.inj e'
 exact ⟨A, c, e, hc1, hc2, hr⟩
theorem pq {w : World} : ∀ {l : List Int} {cs : List Value} {base : Nat} {ok : Nat → Prop}, bJ ((Kd.int .i64).M w base ok) 1 l cs → cs = ints l
 | [], cs, base, ok, h => List.length_eq_zero_iff.1 (by have := h.1; simpa using this)
 | x :: l, cs, base, ok, h => by
  obtain ⟨hlen, hj⟩ := h
  match cs, hlen with
  | c :: cs, hlen =>
   have h0 : [c] = [.int .i64 x] := hj 0 x rfl
   have h1 : cs = ints l := pq (base := base) (ok := ok) ⟨by simpa using hlen, fun j p hp => by
    have := hj (j + 1) p hp
    rw [show (j + 1) * 1 = j * 1 + 1 by omega] at this
    exact this⟩
   rw [h1, (List.cons.inj h0).1]
   rfl
theorem mG {w : World} {base : Nat} {ok : Nat → Prop} {v : Value} {l : List Int} (h : Kd.R (Kd.int .i64) 2 w base ok v l) : w.ownsRow 0 2 1 v l.length (ints l) ∧ ∀ k, v.ownBlock = some k → base ≤ k := by
 obtain ⟨_, cs, ho, hr⟩ := Kd.bU h (Nat.zero_le _)
 obtain ⟨_, cs1, ho1, _⟩ := h
 have e : cs = ints l := pq hr
 subst e
 exact ⟨ho, fun k hk => (ho1.lt k hk).1⟩
theorem ints_R {w : World} {v : Value} {l : List Int} (h : w.ownsRow 0 2 1 v l.length (ints l)) : Kd.R (Kd.int .i64) 2 w 0 (fun _ => True) v l := by
 refine ⟨fun _ _ => trivial, ints l, h, ?_⟩
 have hR : bJ ((Kd.int .i64).K w) 1 l (ints l) := by simpa using jw w l [] [] (bJ.none _ _)
 exact hR
theorem jr {P : Program} {ops : Array Oper} {rest : List Oper} {o : Oper} {a : Act} {Q : Exit → Act → World → Prop} {W : World} (hgd : o.guard = none) (s x : Operand)
  (ho : o.op = .call { callee := .builtin .append, args := #[s, x], argTypes := #[23, 23] }) (ht : P.underlying 23 = some (.slice 2)) (hinfo : (P.info? 2).map (fun i => (i.zero, i.size, i.bytes)) = some (some (.int .i64 0), 1, 8))
  (v vx : Value) (xs ys : List Int) (hs : a.eval s = v) (hx : a.eval x = vx) (HO : W.ownsRow 0 2 1 v xs.length (ints xs)) (HY : W.ownsRow 0 2 1 vx ys.length (ints ys)) (hl : xs.length + ys.length ≤ 1000000)
  (h : ∀ v1 w1, w1.ownsRow 0 2 1 v1 (xs ++ ys).length (ints (xs ++ ys)) → W.grownBy w1 v.ownBlock → (v1.ownBlock = v.ownBlock ∨ ∃ b, v1.ownBlock = some b ∧ W.heap.size ≤ b) → wpList P ops Q rest (a.put o.dst v1) w1) :
  wpList P ops Q (o :: rest) a W := by
 obtain ⟨A, c, rfl, _, _, hC⟩ := ko HY
 exact Kd.gI (Kd.int .i64) (w0 := W) 0 hgd s x 23 2 (.int .i64 0) 8 ho ht hinfo rfl (by decide) (by decide) v xs ys A ys.length c (fun _ => True) (fun _ => False) hs hx (ints_R HO) hC (fun _ _ hk => hk) (fun _ h => h.elim) (fun _ _ => trivial)
  (Below.refl 0 W) (Nat.zero_le _) (by omega) (fun v1 w1 h1 _ hg hat => h v1 w1 (mG h1).1 hg hat)
theorem oW {l : List Int} (h : 1 ≤ l.length) : l.take (l.length - 1) = l.dropLast ∧ l.drop (l.length - 1) = [l.getLastD 0] := by
 refine ⟨(List.dropLast_eq_take).symm, ?_⟩
 have h1 := nE h
 have h2 : l.dropLast.length = l.length - 1 := by simp
 generalize l.getLastD 0 = x at *
 conv => lhs; rw [h1]
 have e : (l.dropLast ++ [x]).length - 1 = l.dropLast.length := by simp
 rw [e, List.drop_left]
section
variable {Rd : Nat → Prop} {w w' : World} {o o' : RMo} {m m' : Mc}
theorem ROn.appended (H : ROn Rd w o m) {hs0 : List RHo} {h : RHo} {r : List Fr} {f : Fr} (ho : o.hs = hs0 ++ [h]) (hf : m.frames = r ++ [f]) {fb n cap K : Nat} (hfv : o.fv = .slice (some ⟨fb, 0, none⟩) n cap) (hK : K = r.length * 5)
  {v1 : Value} {w1 : World} {s' : List Int} (hown : w1.ownsRow 0 2 1 v1 s'.length (ints s')) (hgr : w.grownBy w1 h.vs.ownBlock) (hat : v1.ownBlock = h.vs.ownBlock ∨ ∃ b, v1.ownBlock = some b ∧ w.heap.size ≤ b) :
  ROn Rd (w1.setCell ⟨fb, K + 4, none⟩ v1) { o with hs := hs0 ++ [{ h with vs := v1 }] } { m with frames := r ++ [{ f with stack := s' }] } ∧ Mod (fun k => o.fv.ownBlock = some k ∨ k ∈ h.blocks) w (w1.setCell ⟨fb, K + 4, none⟩ v1) ∧ jK w o { o with hs := hs0 ++ [{ h with vs := v1 }] } := by
 obtain ⟨fb', cap', hfv', _, _, hrow, hX⟩ := jA H ho hf
 obtain ⟨rfl, rfl, rfl⟩ : fb = fb' ∧ n = r.length + 1 ∧ cap = cap' := by rw [hfv] at hfv'; simp only [Value.slice.injEq, Zl, Addr.mk.injEq] at hfv'; exact ⟨hfv'.1.1, hfv'.2.1, hfv'.2.2⟩
 have hob : o.fv.ownBlock = some fb := by rw [hfv]; rfl
 have hv := jM hat
 have hap := jv H ho
 have hM1 : Mod (fun k => h.vs.ownBlock = some k) w w1 := (Mod.refl _ w).grown hgr (fun k e _ => e)
 have hM : Mod (fun k => o.fv.ownBlock = some k ∨ k ∈ h.blocks) w (w1.setCell ⟨fb, K + 4, none⟩ v1) := (hM1.mono (fun k _ e => .inr (by simp [RHo.blocks, e]))).setCell (p := ⟨fb, K + 4, none⟩) (fun _ => .inl hob) _
 have hfl : fb < w.heap.size := H.lt fb (fZ hob)
 have hvs : h.vs.ownBlock ≠ some fb := fun e => (hap fb (by simp [RHo.blocks, e])).2.1 hob
 have hv1 : v1.ownBlock ≠ some fb := fun e => by
  rcases hv fb e with h1 | h1
  ·exact hvs h1
  ·omega
 have hT := H.top ho hf
 have hnd := tC H ho
 refine ⟨H.turn ho hf hM hv ?_ ⟨?_, ?_⟩, hM, qO ho hv⟩
 ·rw [hfv] at hrow ⊢
  have hrow1 : w1.ownsRow 0 80 5 (.slice (some ⟨fb, 0, none⟩) (r.length + 1) cap) (r.length + 1) (gM hs0 r ++ eX h f) := bZ hrow (fun k e => hM1.block k (hrow.lt k e).2 (fun e' => hvs (by rw [e']; exact e.symm ▸ rfl)))
  have h1 := rP hrow1 (K + 4) v1
  rw [List.set_append_right _ _ (by omega), hX, show K + 4 - r.length * 5 = 4 by omega] at h1
  exact h1
 ·refine bZ hT.cs (fun k e => ?_)
  have hk : k ∈ h.blocks := by simp [RHo.blocks, e]
  rw [Below.heap_setCell _ _ _ _ (by rintro rfl; exact (hap k hk).2.1 hob)]
  exact hM1.block k (hT.lt k hk) (fun e' => by simp [RHo.blocks, e, e'] at hnd)
 ·exact dE hown (p := ⟨fb, K + 4, none⟩) (fun e => hv1 e.symm) _
theorem ROn.si (H : ROn Rd w o m) {hs0 : List RHo} {h : RHo} {r : List Fr} {f : Fr} (ho : o.hs = hs0 ++ [h]) (hf : m.frames = r ++ [f]) {fb n cap K : Nat} (hfv : o.fv = .slice (some ⟨fb, 0, none⟩) n cap) (hK : K = r.length * 5) {w1 : World} (hgr : w.grownBy w1 h.vs.ownBlock) :
  w1.cell? ⟨fb, K + 4, none⟩ = some h.vs ∧ w1.frozen? ⟨fb, K + 4, none⟩ = false := by
 obtain ⟨fb', cap', hfv', _, _, hrow, hX⟩ := jA H ho hf
 obtain ⟨rfl, rfl, rfl⟩ : fb = fb' ∧ n = r.length + 1 ∧ cap = cap' := by rw [hfv] at hfv'; simp only [Value.slice.injEq, Zl, Addr.mk.injEq] at hfv'; exact ⟨hfv'.1.1, hfv'.2.1, hfv'.2.2⟩
 have hob : o.fv.ownBlock = some fb := by rw [hfv]; rfl
 have hap := jv H ho
 have hvs : h.vs.ownBlock ≠ some fb := fun e => (hap fb (by simp [RHo.blocks, e])).2.1 hob
 rw [hfv] at hrow
 have hrow1 : w1.ownsRow 0 80 5 (.slice (some ⟨fb, 0, none⟩) (r.length + 1) cap) (r.length + 1) (gM hs0 r ++ eX h f) := bZ hrow (fun k e => hgr.block k (hrow.lt k e).2 (fun e' => hvs (by rw [← e']; exact e.symm ▸ rfl)))
 exact mq hrow1 (by rw [List.getElem?_append_right (by omega), hX, show K + 4 - r.length * 5 = 4 by omega]; rfl)
theorem jY {iv : Value} {l : List Int} (hV : Kd.V (Kd.int .i64) 2 w 0 Rd iv l) {A : Option Addr} {n c : Nat} (hiv : iv = .slice A n c) {j : Nat} (h : j < l.length) : ∃ ia, A = some ia ∧ w.cell? (ia.add j) = some (.int .i64 (l.getD j 0)) := by
 obtain ⟨A', cc, hcv, hcl, HF⟩ := hV
 obtain ⟨ad, c', rfl, hlen, hK, hcell⟩ := Kd.qd (Kd.oL HF) 0 (j : Int) (by omega) (by omega)
 rw [hiv] at hcv
 refine ⟨ad, (Value.slice.inj hcv).1, ?_⟩
 have hK : c' = [.int .i64 (l.getD (j : Int).toNat 0)] := hK
 have := hcell 0 (.int .i64 (l.getD (j : Int).toNat 0)) (by rw [hK]; rfl)
 simpa [Kd.int, Kd.scalar] using this
theorem ROn.jY (H : ROn Rd w o m) {A : Option Addr} {n c : Nat} (hiv : o.iv = .slice A n c) {j : Nat} (h : j < m.input.length) : ∃ ia, A = some ia ∧ w.cell? (ia.add j) = some (.int .i64 (m.input.getD j 0)) := Go.Proofs.YthckiolgpgplpaaDoor.jY H.inp hiv h
theorem ROn.popped (H : ROn Rd w o m) {hs0 : List RHo} {h : RHo} {r : List Fr} {f : Fr} (ho : o.hs = hs0 ++ [h]) (hf : m.frames = r ++ [f]) {fb n cap g : Nat} (hfv : o.fv = .slice (some ⟨fb, 0, none⟩) n cap) (hg : o.g = g) :
  ROn Rd (w.setCell ⟨g, 1, none⟩ (.slice (some ⟨fb, 0, none⟩) r.length cap)) { o with fv := .slice (some ⟨fb, 0, none⟩) r.length cap, hs := hs0 } { m with frames := r } ∧ Mod (fun k => k = g) w (w.setCell ⟨g, 1, none⟩ (.slice (some ⟨fb, 0, none⟩) r.length cap)) ∧
   jK w o { o with fv := .slice (some ⟨fb, 0, none⟩) r.length cap, hs := hs0 } := by
 subst hg
 obtain ⟨fb', cap', hfv', _, _, hrow, hX⟩ := jA H ho hf
 obtain ⟨rfl, rfl, rfl⟩ : fb = fb' ∧ n = r.length + 1 ∧ cap = cap' := by rw [hfv] at hfv'; simp only [Value.slice.injEq, Zl, Addr.mk.injEq] at hfv'; exact ⟨hfv'.1.1, hfv'.2.1, hfv'.2.2⟩
 have hob : o.fv.ownBlock = some fb := by rw [hfv]; rfl
 have ga := gH H
 have hgb := ga.2.2
 rw [ho, List.flatMap_append, Zn] at hgb
 have hM : Mod (fun k => k = o.g) w (w.setCell ⟨o.g, 1, none⟩ (.slice (some ⟨fb, 0, none⟩) r.length cap)) := (Mod.refl (fun k => k = o.g) w).setCell (p := ⟨o.g, 1, none⟩) (fun _ => rfl) _
 have hfrs := H.frs
 rw [ho, hf] at hfrs
 obtain ⟨f1, f2⟩ := jR hfrs
 have e1 : RMo.own { o with fv := .slice (some ⟨fb, 0, none⟩) r.length cap, hs := hs0 } = [o.g] ++ (o.fv.ownBlock.toList ++ (o.ev.ownBlock.toList ++ hs0.flatMap RHo.blocks)) := by rw [hob]; rfl
 have e2 : o.own = ([o.g] ++ (o.fv.ownBlock.toList ++ (o.ev.ownBlock.toList ++ hs0.flatMap RHo.blocks))) ++ h.blocks := by simp [RMo.own, ho]
 have hin : ∀ k ∈ RMo.own { o with fv := .slice (some ⟨fb, 0, none⟩) r.length cap, hs := hs0 }, k ∈ o.own := fun k hk => by
  rw [e1] at hk; rw [e2]; exact List.mem_append_left _ hk
 refine ⟨H.jy hM (fun k _ e => by subst e; simp [RMo.own]) (dH H.blk 1 _) ?_ ?_ ?_ ?_ (fun k hk => .inl (hin k hk)) rfl rfl rfl rfl, hM, ⟨rfl, fun k hk => .inl (hin k hk)⟩⟩
 ·rw [hfv] at hrow
  rcases hrow.2 with ⟨h, _⟩ | ⟨fg, fc, cur, h, hb, hh, hn, hcap, hsz, htk⟩
  ·cases h
  obtain ⟨rfl, rfl⟩ : fb = fg ∧ cap = fc := by simp only [Value.slice.injEq, Zl, Addr.mk.injEq] at h; exact ⟨h.1.1, h.2.2⟩
  have hl := jU f1.fB
  refine ⟨hl, .inr ⟨fb, cap, cur, rfl, hb, (Below.heap_setCell _ _ _ _ (fun e => ga.1 (by rw [hob, e]))).trans hh, by show r.length ≤ cap; omega, hcap, hsz, ?_⟩⟩
  have h3 := congrArg (List.take (r.length * 5)) htk
  rw [List.take_take, show min (r.length * 5) ((r.length + 1) * 5) = r.length * 5 by omega, List.take_left' hl] at h3
  exact h3
 ·exact dE H.ev (p := ⟨o.g, 1, none⟩) (fun e => ga.2.1 e.symm) _
 ·exact jk f1 (fun k hk => hM.block k (kP f1 k hk) (fun e => by subst e; exact hgb (.inl hk)))
 ·have nd := H.nd
  rw [e2] at nd
  rw [e1]
  exact (List.nodup_append.1 nd).1
end
theorem ng : ∀ (x : Nat) (l : List Int) (n : Nat), fe l n (x + 1) = (fe l n x).set (n + x) 0
 | 0, l, n => rfl
 | x + 1, l, n => by
  show fe (l.set n 0) (n + 1) (x + 1) = _
  rw [ng x]
  show _ = (fe (l.set n 0) (n + 1) x).set (n + (x + 1)) 0
  rw [show n + 1 + x = n + (x + 1) by omega]
section
variable {Rd : Nat → Prop} {w w' : World} {o o' : RMo} {m m' : Mc}
theorem ROn.qj (H : ROn Rd w o m) {hs0 : List RHo} {h : RHo} {r : List Fr} {f : Fr} (ho : o.hs = hs0 ++ [h]) (hf : m.frames = r ++ [f]) {sg L cap : Nat} (hvc : h.vc = .slice (some ⟨sg, 0, none⟩) L cap) (j : Nat) (x : Int) :
  ROn Rd (w.setCell ⟨sg, j, none⟩ (.int .i64 x)) o { m with frames := r ++ [{ f with cells := f.cells.set j x }] } ∧ Mod (fun k => k = sg) w (w.setCell ⟨sg, j, none⟩ (.int .i64 x)) ∧ sg ∈ o.own := by
 have hT := H.top ho hf
 have hap := jv H ho
 have hnd := tC H ho
 have hvo : h.vc.ownBlock = some sg := by rw [hvc]; rfl
 have hsb : sg ∈ h.blocks := by simp [RHo.blocks, hvo]
 have hM : Mod (fun k => k = sg) w (w.setCell ⟨sg, j, none⟩ (.int .i64 x)) := (Mod.refl (fun k => k = sg) w).setCell (p := ⟨sg, j, none⟩) (fun _ => rfl) _
 obtain ⟨fb', cap', hfv', _, _, hrow, hX⟩ := jA H ho hf
 have h1 := H.turn (f' := { f with cells := f.cells.set j x }) (vs' := h.vs) ho hf (hM.mono (fun k _ e => .inr (e ▸ hsb))) (fun k e => .inl e)
  (bZ hrow (fun k e => hM.block k (hrow.lt k e).2 (fun e' => by subst e'; exact (hap k hsb).2.1 e))) ⟨?_, ?_⟩
 ·rw [show ({ o with hs := hs0 ++ [{ h with vs := h.vs }] } : RMo) = o by rw [show ({ h with vs := h.vs } : RHo) = h from rfl, ← ho]] at h1
  exact ⟨h1, hM, kD ho sg hsb⟩
 ·have h2 := hT.cs
  show World.ownsRow _ 0 2 1 h.vc (f.cells.set j x).length (ints (f.cells.set j x))
  rw [hvc] at h2 ⊢
  rw [List.length_set]
  have h3 := rP h2 j (.int .i64 x)
  rw [show (ints f.cells).set j (.int .i64 x) = ints (f.cells.set j x) by unfold ints; rw [List.map_set]] at h3
  exact h3
 ·refine bZ hT.st (fun k e => hM.block k (hT.st.lt k e).2 (fun e' => ?_))
  subst e'
  simp [RHo.blocks, hvo, e] at hnd
theorem ROn.jq (H : ROn Rd w o m) {hs0 : List RHo} {h : RHo} {r : List Fr} {f : Fr} (ho : o.hs = hs0 ++ [h]) (hf : m.frames = r ++ [f]) {j : Nat} (hj : j < f.cells.length) :
  ∃ sg cap, h.vc = .slice (some ⟨sg, 0, none⟩) f.cells.length cap ∧ f.cells.length ≤ cap ∧ cap ≤ 9223372036854775807 ∧ w.cell? ⟨sg, j, none⟩ = some (.int .i64 (f.cells.getD j 0)) ∧ w.frozen? ⟨sg, j, none⟩ = false := by
 obtain ⟨sg, cap, cur, e, h1, h2, hh, _, hcell⟩ := gT (H.top ho hf).cs (by intro e; simp [e] at hj)
 refine ⟨sg, cap, e, h1, h2, hcell j _ ?_, ai hh j⟩
 rw [Zi hj, List.getD_eq_getElem?_getD, Zi hj]
 rfl
def nk (Rd : Nat → Prop) (w : World) (o : RMo) (m : Mc) (e : Ending) (w' : World) : Prop := e = .returned (.tuple #[]) ∧ ROn Rd w' o m ∧ Mod (fun k => k ∈ o.own) w w'
variable {hs0 : List RHo} {h : RHo} {r : List Fr} {f : Fr} {fb nf capf K : Nat}
theorem rstore_none (H : ROn Rd w o m) (hf : m.frames = r ++ [f]) (op n k : Int) (p v : Value) (h3 : op ≠ 3) (h5 : op ≠ 5) (h6 : op ≠ 6) (h17 : op ≠ 17) (h18 : op ≠ 18) :
  Calls Tryd.prog 56 #[p, .agg #[.int .i64 op, .int .i64 n, .int .i64 k], v] w (nk Rd w o m) := by
 have c3 : (op == 3) = false := Zh h3
 have c5 : (op == 5) = false := Zh h5
 have c6 : (op == 6) = false := Zh h6
 have c17 : (op == 17) = false := Zh h17
 have c18 : (op == 18) = false := Zh h18
 have HH := aa.mk H
 clear H h3 h5 h6 h17 h18 hf
 go_enter Tryd.func56, Tryd.ntmps56
 go_wp2
 go_end0
 exact ⟨rfl, HH.out.alloc _, (Mod.refl _ w).alloc _⟩
theorem rstore_cell (H : ROn Rd w o m) (ho : o.hs = hs0 ++ [h]) (hf : m.frames = r ++ [f]) (hfv : o.fv = .slice (some ⟨fb, 0, none⟩) nf capf) (hK : K = r.length * 5) (n : Nat) (k a : Int) (v : Value) (hv : w.ownsRow 0 2 1 v 1 (ints [a])) (hn : n < f.cells.length) (hcl : f.cells.length ≤ 65536) :
  Calls Tryd.prog 56 #[.pointer (some ⟨fb, K, none⟩), .agg #[.int .i64 3, .int .i64 n, .int .i64 k], v] w (nk Rd w o { m with frames := r ++ [{ f with cells := f.cells.set n a }] }) := by
 obtain ⟨sg, cap, hvc, hc1, hc2, hcc, hcf⟩ := H.jq ho hf hn
 obtain ⟨vg, vcap, vcur, hvv, _, _, _, _, hvcell⟩ := gT (l := [a]) hv (by simp)
 have hvv' : v = .slice (some ⟨vg, 0, none⟩) 1 vcap := hvv
 subst hvv'
 obtain ⟨CL, hCL⟩ : ∃ CL, CL = f.cells.length := ⟨_, rfl⟩
 rw [← hCL] at hvc hc1
 have c3 := (H.getF (K := K) ho hf hfv hK (j := 3) rfl).1
 rw [hvc] at c3
 have d3 : (w.alloc (.cells #[.int .i64 3, .int .i64 n, .int .i64 k] 43)).drew.cell? ⟨fb, K + 3, none⟩ = some (.slice (some ⟨sg, 0, none⟩) CL cap) := by rw [((H.alloc (.cells #[.int .i64 3, .int .i64 n, .int .i64 k] 43)).drew.getF (K := K) ho hf hfv hK (j := 3) rfl).1, hvc]
 have d1 : (w.alloc (.cells #[.int .i64 3, .int .i64 n, .int .i64 k] 43)).drew.cell? ⟨w.heap.size, 1, none⟩ = some (.int .i64 n) := ae (bW w _) 1
 have d0 : (w.alloc (.cells #[.int .i64 3, .int .i64 n, .int .i64 k] 43)).drew.cell? ⟨vg, 0, none⟩ = some (.int .i64 a) := Lib.cell?_alloc_some _ (hvcell 0 a rfl)
 obtain ⟨sg', cap', hvc', _, _, hcc', hcf'⟩ := ((H.alloc (.cells #[.int .i64 3, .int .i64 n, .int .i64 k] 43)).drew).jq ho hf hn
 obtain ⟨rfl⟩ : sg = sg' := by rw [hvc, ← hCL] at hvc'; simp only [Value.slice.injEq, Zl, Addr.mk.injEq] at hvc'; exact hvc'.1.1
 have q1 : (0 : Int) ≤ (n : Int) := by omega
 have q2 : (n : Int) < (CL : Int) := by omega
 have HH := aa.mk H; have HO := aa.mk ho; have HF := aa.mk hf; have HVC := aa.mk hvc
 clear H ho hf hfv hv hvv hvcell hvc hvc' hCL c3 hcc hcf hK
 go_enter Tryd.func56, Tryd.ntmps56
 go_wp2
 refine wp_region_still_tail 10 (by kernel_rfl) (by kernel_rfl) ?_
 change wpStill _ _ (w.alloc (.cells #[.int .i64 3, .int .i64 n, .int .i64 k] 43)).drew (fun a' => wpList _ _ _ _ a' (w.alloc (.cells #[.int .i64 3, .int .i64 n, .int .i64 k] 43)).drew) _ _
 have P := aa.mk (((HH.out.alloc (.cells #[.int .i64 3, .int .i64 n, .int .i64 k] 43)).drew).qj HO.out HF.out HVC.out n a)
 have M1 := aa.mk ((((Mod.refl (fun k => k ∈ o.own) w).alloc (.cells #[.int .i64 3, .int .i64 n, .int .i64 k] 43)).drew).trans P.out.2.1 (fun k _ e => by subst e; exact P.out.2.2))
 generalize (w.alloc (.cells #[.int .i64 3, .int .i64 n, .int .i64 k] 43)).drew = w2 at *
 simp only [List.take_succ_cons, List.take_zero, List.drop_succ_cons, List.drop_zero]
 repeat still_step
 try refine wpStill_nil ?_
 go_wp2
 go_end0
 exact ⟨rfl, P.out.1, M1.out⟩
theorem rstore_put (H : ROn Rd w o m) (ho : o.hs = hs0 ++ [h]) (hf : m.frames = r ++ [f]) (hfv : o.fv = .slice (some ⟨fb, 0, none⟩) nf capf) (hK : K = r.length * 5) (n k a b : Int) (j : Nat) (hj : n + a = j) (hn0 : 0 ≤ n) (ha0 : 0 ≤ a) (v : Value) (hv : w.ownsRow 0 2 1 v 2 (ints [a, b])) (hn : j < f.cells.length) (hcl : f.cells.length ≤ 65536) :
  Calls Tryd.prog 56 #[.pointer (some ⟨fb, K, none⟩), .agg #[.int .i64 5, .int .i64 n, .int .i64 k], v] w (nk Rd w o { m with frames := r ++ [{ f with cells := f.cells.set j b }] }) := by
 obtain ⟨sg, cap, hvc, hc1, hc2, hcc, hcf⟩ := H.jq ho hf hn
 obtain ⟨vg, vcap, vcur, hvv, hv1, hv2, _, _, hvcell⟩ := gT (l := [a, b]) hv (by simp)
 have hvv' : v = .slice (some ⟨vg, 0, none⟩) 2 vcap := hvv
 subst hvv'
 obtain ⟨CL, hCL⟩ : ∃ CL, CL = f.cells.length := ⟨_, rfl⟩
 rw [← hCL] at hvc hc1
 have d3 : (w.alloc (.cells #[.int .i64 5, .int .i64 n, .int .i64 k] 43)).drew.cell? ⟨fb, K + 3, none⟩ = some (.slice (some ⟨sg, 0, none⟩) CL cap) := by rw [((H.alloc (.cells #[.int .i64 5, .int .i64 n, .int .i64 k] 43)).drew.getF (K := K) ho hf hfv hK (j := 3) rfl).1, hvc]
 have d1 : (w.alloc (.cells #[.int .i64 5, .int .i64 n, .int .i64 k] 43)).drew.cell? ⟨w.heap.size, 1, none⟩ = some (.int .i64 n) := ae (bW w _) 1
 have d0 : (w.alloc (.cells #[.int .i64 5, .int .i64 n, .int .i64 k] 43)).drew.cell? ⟨vg, 0, none⟩ = some (.int .i64 a) := Lib.cell?_alloc_some _ (hvcell 0 a rfl)
 have d9 : (w.alloc (.cells #[.int .i64 5, .int .i64 n, .int .i64 k] 43)).drew.cell? ⟨vg, 1, none⟩ = some (.int .i64 b) := Lib.cell?_alloc_some _ (hvcell 1 b rfl)
 obtain ⟨sg', cap', hvc', _, _, hcc', hcf'⟩ := ((H.alloc (.cells #[.int .i64 5, .int .i64 n, .int .i64 k] 43)).drew).jq ho hf hn
 obtain ⟨rfl⟩ : sg = sg' := by rw [hvc, ← hCL] at hvc'; simp only [Value.slice.injEq, Zl, Addr.mk.injEq] at hvc'; exact hvc'.1.1
 have ew : IntKind.i64.wrap (n + a) = (j : Int) := by rw [IntWalk.i64_in _ (by omega)]; exact hj
 have q1 : (0 : Int) ≤ (j : Int) := by omega
 have q2 : (j : Int) < (CL : Int) := by omega
 have HH := aa.mk H; have HO := aa.mk ho; have HF := aa.mk hf; have HVC := aa.mk hvc
 clear H ho hf hfv hv hvv hvcell hvc hvc' hCL hcc hcf hK hj hn0 ha0 hv1 hv2
 go_enter Tryd.func56, Tryd.ntmps56
 go_wp2
 refine wp_region_still_tail 14 (by kernel_rfl) (by kernel_rfl) ?_
 change wpStill _ _ (w.alloc (.cells #[.int .i64 5, .int .i64 n, .int .i64 k] 43)).drew (fun a' => wpList _ _ _ _ a' (w.alloc (.cells #[.int .i64 5, .int .i64 n, .int .i64 k] 43)).drew) _ _
 have P := aa.mk (((HH.out.alloc (.cells #[.int .i64 5, .int .i64 n, .int .i64 k] 43)).drew).qj HO.out HF.out HVC.out j b)
 have M1 := aa.mk ((((Mod.refl (fun k => k ∈ o.own) w).alloc (.cells #[.int .i64 5, .int .i64 n, .int .i64 k] 43)).drew).trans P.out.2.1 (fun k _ e => by subst e; exact P.out.2.2))
 generalize (w.alloc (.cells #[.int .i64 5, .int .i64 n, .int .i64 k] 43)).drew = w2 at *
 simp only [List.take_succ_cons, List.take_zero, List.drop_succ_cons, List.drop_zero]
 repeat still_step
 try refine wpStill_nil ?_
 go_wp2
 go_end0
 exact ⟨rfl, P.out.1, M1.out⟩
theorem rstore_jump (H : ROn Rd w o m) (ho : o.hs = hs0 ++ [h]) (hf : m.frames = r ++ [f]) (hfv : o.fv = .slice (some ⟨fb, 0, none⟩) nf capf) (hK : K = r.length * 5) (n k : Int) (v : Value) :
  Calls Tryd.prog 56 #[.pointer (some ⟨fb, K, none⟩), .agg #[.int .i64 17, .int .i64 n, .int .i64 k], v] w (nk Rd w o { m with frames := r ++ [{ f with at_ := n }] }) := by
 have HA := H.alloc (.cells #[.int .i64 17, .int .i64 n, .int .i64 k] 43)
 have P := HA.putF (K := K) (f' := { f with at_ := n }) (vs' := h.vs) ho hf hfv hK 1 (.int .i64 n) rfl (fun k e => e) ⟨(HA.top ho hf).cs, (HA.top ho hf).st⟩
 rw [show ({ o with hs := hs0 ++ [{ h with vs := h.vs }] } : RMo) = o by rw [show ({ h with vs := h.vs } : RHo) = h from rfl, ← ho]] at P
 have hob : o.fv.ownBlock = some fb := by rw [hfv]; rfl
 have M1 := aa.mk (((Mod.refl (fun k => k ∈ o.own) w).alloc (.cells #[.int .i64 17, .int .i64 n, .int .i64 k] 43)).trans P.2.1 (fun k _ e => by subst e; exact fZ hob))
 have g1 := HA.getF (K := K) ho hf hfv hK (j := 1) rfl
 have d1 : (w.alloc (.cells #[.int .i64 17, .int .i64 n, .int .i64 k] 43)).cell? ⟨fb, K + 1, none⟩ = some (.int .i64 f.at_) := g1.1
 have d1f : (w.alloc (.cells #[.int .i64 17, .int .i64 n, .int .i64 k] 43)).frozen? ⟨fb, K + 1, none⟩ = false := g1.2
 have P := aa.mk P.1
 clear H ho hf hfv hK HA hob g1
 go_enter Tryd.func56, Tryd.ntmps56
 go_wp2
 go_end0
 exact ⟨rfl, P.out, M1.out⟩
theorem rstore_zero (H : ROn Rd w o m) (ho : o.hs = hs0 ++ [h]) (hf : m.frames = r ++ [f]) (hfv : o.fv = .slice (some ⟨fb, 0, none⟩) nf capf) (hK : K = r.length * 5) (n k a : Int) (v : Value) (hv : w.ownsRow 0 2 1 v 1 (ints [a])) :
  Calls Tryd.prog 56 #[.pointer (some ⟨fb, K, none⟩), .agg #[.int .i64 18, .int .i64 n, .int .i64 k], v] w (nk Rd w o { m with frames := r ++ [if a = 0 then { f with at_ := n } else f] }) := by
 obtain ⟨vg, vcap, vcur, hvv, hv1, hv2, _, _, hvcell⟩ := gT (l := [a]) hv (by simp)
 have hvv' : v = .slice (some ⟨vg, 0, none⟩) 1 vcap := hvv
 subst hvv'
 have HA := H.alloc (.cells #[.int .i64 18, .int .i64 n, .int .i64 k] 43)
 have d0 : (w.alloc (.cells #[.int .i64 18, .int .i64 n, .int .i64 k] 43)).cell? ⟨vg, 0, none⟩ = some (.int .i64 a) := Lib.cell?_alloc_some _ (hvcell 0 a rfl)
 by_cases ha : a = 0
 ·rw [if_pos ha]
  have c0 : (a == 0) = true := beq_iff_eq.2 ha
  have P := HA.putF (K := K) (f' := { f with at_ := n }) (vs' := h.vs) ho hf hfv hK 1 (.int .i64 n) rfl (fun k e => e) ⟨(HA.top ho hf).cs, (HA.top ho hf).st⟩
  rw [show ({ o with hs := hs0 ++ [{ h with vs := h.vs }] } : RMo) = o by rw [show ({ h with vs := h.vs } : RHo) = h from rfl, ← ho]] at P
  have hob : o.fv.ownBlock = some fb := by rw [hfv]; rfl
  have M1 := aa.mk (((Mod.refl (fun k => k ∈ o.own) w).alloc (.cells #[.int .i64 18, .int .i64 n, .int .i64 k] 43)).trans P.2.1 (fun k _ e => by subst e; exact fZ hob))
  have g1 := HA.getF (K := K) ho hf hfv hK (j := 1) rfl
  have d1 : (w.alloc (.cells #[.int .i64 18, .int .i64 n, .int .i64 k] 43)).cell? ⟨fb, K + 1, none⟩ = some (.int .i64 f.at_) := g1.1
  have d1f : (w.alloc (.cells #[.int .i64 18, .int .i64 n, .int .i64 k] 43)).frozen? ⟨fb, K + 1, none⟩ = false := g1.2
  have P := aa.mk P.1
  clear H ho hf hfv hK HA hob g1 hv hvv hvcell hv1 hv2 ha
  go_enter Tryd.func56, Tryd.ntmps56
  go_wp2
  go_end0
  exact ⟨rfl, P.out, M1.out⟩
 ·rw [if_neg ha]
  have c0 : (a == 0) = false := Zh ha
  have HX : aa (ROn Rd (w.alloc (.cells #[.int .i64 18, .int .i64 n, .int .i64 k] 43)) o { m with frames := r ++ [f] }) := ⟨by rw [← hf]; exact HA⟩
  clear H ho hf hfv hK HA hv hvv hvcell hv1 hv2 ha
  go_enter Tryd.func56, Tryd.ntmps56
  go_wp2
  go_end0
  exact ⟨rfl, HX.out, (Mod.refl _ w).alloc _⟩
theorem rstore_clear (H : ROn Rd w o m) (ho : o.hs = hs0 ++ [h]) (hf : m.frames = r ++ [f]) (hfv : o.fv = .slice (some ⟨fb, 0, none⟩) nf capf) (hK : K = r.length * 5) (n k : Nat) (v : Value) (hn : n + k ≤ f.cells.length) (hcl : f.cells.length ≤ 65536) :
  Calls Tryd.prog 56 #[.pointer (some ⟨fb, K, none⟩), .agg #[.int .i64 6, .int .i64 n, .int .i64 k], v] w (nk Rd w o { m with frames := r ++ [{ f with cells := fe f.cells n k }] }) := by
 have HH := aa.mk H; have HO := aa.mk ho; have HF := aa.mk hf; have HFV := aa.mk hfv; have HKK := aa.mk hK; have HN := aa.mk hn
 have esum : IntKind.i64.wrap ((n : Int) + (k : Int)) = ((n + k : Nat) : Int) := by rw [IntWalk.i64_in _ (by omega)]; rfl
 have d1a : (w.alloc (.cells #[.int .i64 6, .int .i64 n, .int .i64 k] 43)).cell? ⟨w.heap.size, 1, none⟩ = some (.int .i64 n) := ae (bW w _) 1
 have HB0 : aa ((w.alloc (.cells #[.int .i64 6, .int .i64 n, .int .i64 k] 43)).heap[w.heap.size]? = some (.cells #[.int .i64 6, .int .i64 n, .int .i64 k] 43 (0, 0))) := ⟨bW w _⟩
 have HBO : aa (w.heap.size ∉ o.own) := ⟨fun e => Nat.lt_irrefl _ (H.lt _ e)⟩
 clear H ho hf hfv hK hn
 go_enter Tryd.func56, Tryd.ntmps56
 obtain ⟨gb, hgb⟩ : ∃ gb, gb = w.heap.size := ⟨_, rfl⟩
 rw [← hgb] at d1a HB0 HBO
 go_wp2
 rw [← hgb]
 clear hgb
 go_loopg [6] k (fun gk v6 W => ∃ x : Nat, v6 = .int .i64 ((n + x : Nat) : Int) ∧ aa (gk + x = k) ∧ aa (W.heap[gb]? = some (.cells #[.int .i64 6, .int .i64 n, .int .i64 k] 43 (0, 0))) ∧ aa (ROn Rd W o { m with frames := r ++ [{ f with cells := fe f.cells n x }] }) ∧ aa (Mod (fun k => k ∈ o.own) w W))
 case atStart =>
  refine ⟨0, rfl, ⟨by omega⟩, HB0, ⟨?_⟩, ⟨(Mod.refl _ w).alloc _⟩⟩
  have h1 := HH.out.alloc (.cells #[.int .i64 6, .int .i64 n, .int .i64 k] 43)
  have e : ({ m with frames := r ++ [{ f with cells := fe f.cells n 0 }] } : Mc) = m := by
   show ({ m with frames := r ++ [f] } : Mc) = m
   rw [← HF.out]
  rw [e]; exact h1
 case round =>
  obtain ⟨x, rfl, A1, A2, A3, A4⟩ := hrel
  have b1 : wr.cell? ⟨gb, 1, none⟩ = some (.int .i64 n) := ae A2.out 1
  have b2 : wr.cell? ⟨gb, 2, none⟩ = some (.int .i64 k) := ae A2.out 2
  by_cases hx : x < k
  ·obtain ⟨gk1, hgk⟩ : ∃ g, gk = g + 1 := ⟨gk - 1, by have := A1.out; omega⟩
   subst hgk
   have g1 : decide (((n + x : Nat) : Int) < ((n + k : Nat) : Int)) = true := Za (by omega)
   have hln : n + x < (fe f.cells n x).length := by rw [iq]; have := HN.out; omega
   obtain ⟨sg, cap, hvc, hc1, hc2, hcc, hcf⟩ := A3.out.jq (f := { f with cells := fe f.cells n x }) HO.out rfl hln
   have hcl2 : (fe f.cells n x).length = f.cells.length := iq _ _ _
   obtain ⟨CL, hCL⟩ : ∃ CL, CL = f.cells.length := ⟨_, rfl⟩
   have hvc2 : h.vc = .slice (some ⟨sg, 0, none⟩) CL cap := by rw [hvc, hCL, ← hcl2]
   have d3 : wr.cell? ⟨fb, K + 3, none⟩ = some (.slice (some ⟨sg, 0, none⟩) CL cap) := by rw [(A3.out.getF (K := K) (f := { f with cells := fe f.cells n x }) HO.out rfl HFV.out HKK.out (j := 3) rfl).1, hvc2]
   have P := A3.out.qj (f := { f with cells := fe f.cells n x }) HO.out rfl hvc2 (n + x) 0
   have q1 : (0 : Int) ≤ ((n + x : Nat) : Int) := by omega
   have q2 : ((n + x : Nat) : Int) < (CL : Int) := by rw [hCL]; have := HN.out; omega
   have ex : IntKind.i64.wrap (((n + x : Nat) : Int) + 1) = ((n + (x + 1) : Nat) : Int) := by rw [IntWalk.i64_in _ (by have := HN.out; omega)]; omega
   have hsg : gb ≠ sg := fun e => HBO.out (e ▸ P.2.2)
   have A2' : aa ((wr.setCell ⟨sg, n + x, none⟩ (.int .i64 0)).heap[gb]? = some (.cells #[.int .i64 6, .int .i64 n, .int .i64 k] 43 (0, 0))) := ⟨(Below.heap_setCell _ _ _ _ hsg).trans A2.out⟩
   have A3' : aa (ROn Rd (wr.setCell ⟨sg, n + x, none⟩ (.int .i64 0)) o { m with frames := r ++ [{ f with cells := fe f.cells n (x + 1) }] }) := ⟨by rw [ng]; exact P.1⟩
   have A4' : aa (Mod (fun k => k ∈ o.own) w (wr.setCell ⟨sg, n + x, none⟩ (.int .i64 0))) := ⟨A4.out.trans P.2.1 (fun k _ e => by subst e; exact P.2.2)⟩
   obtain ⟨y, hy⟩ : ∃ y, y = n + x := ⟨_, rfl⟩
   have hcf2 : wr.frozen? ⟨sg, y, none⟩ = false := by rw [hy]; exact hcf
   have hcc2 : wr.cell? ⟨sg, y, none⟩ = some (.int .i64 ((fe f.cells n x).getD y 0)) := by rw [hy]; exact hcc
   rw [← hy] at A2' A3' A4' q1 q2 ex g1 ⊢
   have g1' : decide ((y : Int) < (n : Int) + (k : Int)) = true := Za (by omega)
   clear hcc hcf
   clear hvc hvc2 hcl2 hCL P hsg hc1 hln d1a
   clear hy
   go_wp2
   go_roundg gk1
   case measure => omega
   case rel => exact ⟨x + 1, rfl, ⟨by have := A1.out; omega⟩, A2', A3', A4'⟩
  ·have g1 : decide (((n + x : Nat) : Int) < ((n + k : Nat) : Int)) = false := Zb (by omega)
   have hxe : x = k := by have := A1.out; omega
   subst hxe
   go_wp2
   go_end0
   exact ⟨rfl, A3.out, A4.out⟩
theorem rstore_on (H : ROn Rd w o m) (ho : o.hs = hs0 ++ [h]) (hf : m.frames = r ++ [f]) (hfv : o.fv = .slice (some ⟨fb, 0, none⟩) nf capf) (hK : K = r.length * 5) {f0 : Fr} {i : S43} (F : kW f0 i) (hcs : f0.cells = f.cells) (l : List Int) (hl : l.length = ek i.f0) (ht : (fu f.cells i l).2 = 0)
  (v : Value) (hv : w.ownsRow 0 2 1 v l.length (ints l)) :
  Calls Tryd.prog 56 #[.pointer (some ⟨fb, K, none⟩), .agg #[.int .i64 i.f0, .int .i64 i.f1, .int .i64 i.f2], v] w (nk Rd w o { m with frames := r ++ [fH f i l] }) := by
 obtain ⟨op, n, k⟩ := i
 have hcl := F.cells; have hcell := F.cell; have hrow := F.row
 rw [hcs] at hcl hcell hrow
 simp only at hl hcell hrow ⊢
 have one : ∀ {l : List Int}, l.length = 1 → ∃ a, l = [a] := fun h => List.length_eq_one_iff.1 h
 have two : ∀ {l : List Int}, l.length = 2 → ∃ a b, l = [a, b] := fun {l} h => by
  match l, h with
  | [a, b], _ => exact ⟨a, b, rfl⟩
 by_cases h3 : op = 3
 ·subst h3
  obtain ⟨a, rfl⟩ := one hl
  obtain ⟨h0, h1⟩ := hcell (.inr rfl)
  obtain ⟨n, rfl⟩ : ∃ q : Nat, n = q := ⟨n.toNat, by omega⟩
  exact rstore_cell H ho hf hfv hK n k a v hv (by omega) hcl
 by_cases h5 : op = 5
 ·subst h5
  obtain ⟨a, b, rfl⟩ := two hl
  obtain ⟨h0, h1, h2⟩ := hrow (.inr (.inl rfl))
  have hna : ¬ (a < 0 ∨ k ≤ a) := fun h => by simp [fu, h] at ht
  have := rstore_put H ho hf hfv hK n k a b (n + a).toNat (by omega) h0 (by omega) v hv (by omega) hcl
  exact this
 by_cases h6 : op = 6
 ·subst h6
  obtain ⟨h0, h1, h2⟩ := hrow (.inr (.inr rfl))
  obtain ⟨n, rfl⟩ : ∃ q : Nat, n = q := ⟨n.toNat, by omega⟩
  obtain ⟨k, rfl⟩ : ∃ q : Nat, k = q := ⟨k.toNat, by omega⟩
  exact rstore_clear H ho hf hfv hK n k v (by omega) hcl
 by_cases h17 : op = 17
 ·subst h17
  exact rstore_jump H ho hf hfv hK n k v
 by_cases h18 : op = 18
 ·subst h18
  obtain ⟨a, rfl⟩ := one hl
  exact rstore_zero H ho hf hfv hK n k a v hv
 have e : fH f ⟨op, n, k⟩ l = f := by
  unfold fH
  rw [if_neg h3, if_neg h5, if_neg h6, if_neg h17, if_neg h18]
 rw [e]
 have e2 : ({ m with frames := r ++ [f] } : Mc) = m := by rw [← hf]
 rw [e2]
 exact rstore_none H hf op n k _ v h3 h5 h6 h17 h18
end
end Go.Proofs.YthckiolgpgplpaaDoor
