/- The walks of the machine, by hand. -/
import Derived.Test.YthckiolgpgplpaaDoorProg
import Derived.Below
import Derived.Deep.Draws
import Derived.Deep.AppendLies
import Derived.Maps.AppendAt
import Derived.OwnWalk
import Derived.Laws.BytesArg
import Derived.Laws.MakeOwn
import Derived.Laws.OwnMore
import Derived.Deep.OwnRows
import Derived.Tactics
import Derived.Lib.ConvBytes
import Derived.Laws.Slices
import Derived.WalkKit
import Derived.KernelRfl
import Derived.RowKit3
import Derived.Deep.LoopGhost
import Derived.Deep.QuietTactic
import Derived.BigQuiet
import Derived.WideLaws
import Derived.Deep.DeepCutAuto
import Derived.Deep.CutBlock
import Derived.Deep.RegionHeld3
import Derived.Laws.Rows
import Derived.Lib.AppendStr
import Derived.ArgAppend
import Derived.Laws.IdiomCopy
import Derived.OrdersHeld
import Derived.Laws.BitsLemmas
import Derived.RowKit
import Derived.WalkMore
import Derived.Test.YthckiolgpgplpaaDoorWAll
import Derived.Test.YthckiolgpgplpaaDoorPx0
import Derived.Test.YthckiolgpgplpaaDoorPx7
import Derived.StillTailTactics
import Derived.Laws.CopyOwn
import Derived.IntWalk
import Derived.Laws.AppendOwnNone
import Derived.Lib.SliceRun
import Derived.Test.YthckiolgpgplpaaDoorQM
section
namespace Go.Proofs.YthckiolgpgplpaaDoor
open Go.RowKit Go.Proofs.YthckiolgpgplpaaDoorW.PrintWords
set_option linter.unusedVariables false
set_option linter.unusedSimpArgs false
set_option maxRecDepth 1000000
set_option maxHeartbeats 800000
theorem pop_calls (w : World) (g sg n cap : Nat) (p a m vc : Value) (t : TypeId) (x : Int) (cur : Array Value) (hn : n + 1 ≤ cap) (hcap : cap ≤ maxLen)
    (hg : w.heap[g]? = some (.cells #[p, a, m, vc, .slice (some ⟨sg, 0, none⟩) (n + 1) cap] t (0, 0))) (hs : w.cell? ⟨sg, n, none⟩ = some (.int .i64 x)) :
    Calls Tryd.prog 37 #[.pointer (some ⟨g, 0, none⟩)] w fun e w' => e = .returned (.int .i64 x) ∧ w' = w.setCell ⟨g, 4, none⟩ (.slice (some ⟨sg, 0, none⟩) n cap) := by
  have c4 : w.cell? ⟨g, 4, none⟩ = some (.slice (some ⟨sg, 0, none⟩) (n + 1) cap) := by simp [World.cell?, hg]
  have f4 : w.frozen? ⟨g, 4, none⟩ = false := by simp [World.frozen?, hg]
  have h63 : cap ≤ 9223372036854775807 := by simp only [maxLen] at hcap; omega
  clear hg hcap
  go_enter Tryd.func37, Tryd.ntmps37
  go_wp2
  go_ret
  exact ⟨rfl, rfl⟩
theorem info2 : (Tryd.prog.info? 2).map (fun i => (i.zero, i.size, i.bytes)) = some (some (.int .i64 0), 1, 8) := by kernel_rfl
theorem push_calls (w : World) (g n : Nat) (p a m vc vs : Value) (t : TypeId) (x : Int) (xs : List Value)
    (hg : w.heap[g]? = some (.cells #[p, a, m, vc, vs] t (0, 0))) (hs : w.ownsRow 0 2 1 vs n xs) (hne : vs.ownBlock ≠ some g) (hl : n + 1 ≤ 1000000) :
    Calls Tryd.prog 38 #[.pointer (some ⟨g, 0, none⟩), .int .i64 x] w fun e w' => e = .returned (.tuple #[]) ∧ ∃ v1 w1, w1.ownsRow 0 2 1 v1 (n + 1) (xs ++ [.int .i64 x]) ∧ w.grownBy w1 vs.ownBlock ∧ (v1.ownBlock = vs.ownBlock ∨ ∃ b, v1.ownBlock = some b ∧ w.heap.size ≤ b) ∧ w' = w1.setCell ⟨g, 4, none⟩ v1 := by
  have hlt : g < w.heap.size := (Array.getElem?_eq_some_iff.1 hg).1
  have c4 : w.cell? ⟨g, 4, none⟩ = some vs := by simp [World.cell?, hg]
  obtain ⟨A, l, c, rfl⟩ : ∃ A l c, vs = .slice A l c := by
    rcases hs.2 with ⟨h, _⟩ | ⟨_, _, _, h, _⟩ <;> exact ⟨_, _, _, h⟩
  go_enter Tryd.func38, Tryd.ntmps38
  go_wp2_with (at_builtin; refine print_append_cells 0 rfl (.tmp 8) (.tmp 10) 23 2 (.int .i64 0) 1 8 rfl Tryd.underlying23 info2 rfl (by decide) (by decide) _ n xs [.int .i64 x] rfl rfl rfl ?c2 hs (Below.refl 0 w) (Nat.zero_le _) (by omega) ?grow)
  case c2 => intro u hu; simp at hu; subst hu; rfl
  case grow =>
    intro v1 w1 hown _ hgrow hat
    obtain ⟨g1, cap1, rfl⟩ : ∃ g1 cap1, v1 = .slice (some ⟨g1, 0, none⟩) (n + 1) cap1 := by
      rcases hown.2 with ⟨_, h⟩ | ⟨g1, cap1, _, h, _⟩
      · omega
      · exact ⟨g1, cap1, h⟩
    have hb := blk_grown hg hgrow (Ne.symm hne)
    have HAT := Aside0.mk hat; clear hat
    have k4 : w1.cell? ⟨g, 4, none⟩ = some (.slice A l c) := blk_cell hb 4
    have f4 : w1.frozen? ⟨g, 4, none⟩ = false := blk_frozen hb 4
    clear hb
    go_wp2
    go_end0
    exact ⟨rfl, _, w1, hown, hgrow, HAT.out, rfl⟩
end Go.Proofs.YthckiolgpgplpaaDoor
end
section
namespace Go.Proofs.YthckiolgpgplpaaDoor
open Go.RowKit Go.Proofs.YthckiolgpgplpaaDoorW.PrintWords
set_option linter.unusedVariables false
set_option linter.unusedSimpArgs false

/-- Of the blocks that were there, only those of S may have turned. -/
structure Mod (S : Nat → Prop) (w w' : World) : Prop where
  os : w'.os = w.os
  tape : w'.tape = w.tape
  output : w'.output = w.output
  size : w.heap.size ≤ w'.heap.size
  block : ∀ k, k < w.heap.size → ¬ S k → w'.heap[k]? = w.heap[k]?
theorem Mod.refl (S : Nat → Prop) (w : World) : Mod S w w := ⟨rfl, rfl, rfl, Nat.le_refl _, fun _ _ _ => rfl⟩
theorem Mod.trans {S S1 : Nat → Prop} {a b c : World} (h : Mod S a b) (k : Mod S1 b c) (hS : ∀ i, i < a.heap.size → S1 i → S i) : Mod S a c :=
  ⟨k.os.trans h.os, k.tape.trans h.tape, k.output.trans h.output, Nat.le_trans h.size k.size, fun i hi hn => (k.block i (Nat.lt_of_lt_of_le hi h.size) (fun hs => hn (hS i hi hs))).trans (h.block i hi hn)⟩
theorem Mod.mono {S S1 : Nat → Prop} {a b : World} (h : Mod S a b) (hS : ∀ i, i < a.heap.size → S i → S1 i) : Mod S1 a b :=
  ⟨h.os, h.tape, h.output, h.size, fun i hi hn => h.block i hi (fun hs => hn (hS i hi hs))⟩
theorem Mod.drew {S : Nat → Prop} {a w : World} (h : Mod S a w) : Mod S a w.drew := ⟨h.os, h.tape, h.output, h.size, h.block⟩
theorem Mod.alloc {S : Nat → Prop} {a w : World} (h : Mod S a w) (o : Obj) : Mod S a (w.alloc o) :=
  h.trans (S1 := fun _ => False) ⟨rfl, rfl, rfl, by simp, fun k hk _ => Below.heap_alloc _ _ _ hk⟩ (fun _ _ h => h.elim)
theorem Mod.setCell {S : Nat → Prop} {a w : World} (h : Mod S a w) {p : Addr} (hp : p.block < a.heap.size → S p.block) (u : Value) : Mod S a (w.setCell p u) :=
  h.trans (S1 := fun k => k = p.block) ⟨rfl, rfl, rfl, by simp [World.setCell], fun k hk hn => Below.heap_setCell _ _ _ _ hn⟩ (fun i hi e => by subst e; exact hp hi)
theorem Mod.grown {S : Nat → Prop} {a w w' : World} {row : Option Nat} (h : Mod S a w) (hg : w.grownBy w' row) (hr : ∀ k, row = some k → k < a.heap.size → S k) : Mod S a w' :=
  h.trans (S1 := fun k => some k = row) ⟨hg.os, hg.tape, hg.output, hg.size, fun k hk hn => hg.block k hk hn⟩ (fun i hi e => hr i e.symm hi)
theorem Mod.below {S : Nat → Prop} {a w w' : World} (h : Mod S w w') {B : Nat} (hB : B ≤ w.heap.size) (hS : ∀ k, S k → B ≤ k) : Below B w w' :=
  ⟨h.os, h.tape, h.output, h.size, fun k hk => h.block k (by omega) (fun hs => by have := hS k hs; omega)⟩
theorem Mod.of_below {w w' : World} (h : Below w.heap.size w w') (S : Nat → Prop) : Mod S w w' := ⟨h.os, h.tape, h.output, h.size, fun k hk _ => h.block k hk⟩

/-- A frame, as plain data. -/
structure Fr where
  pr : Int
  at_ : Int
  mark : Int
  cells : List Int
  stack : List Int
def ints (l : List Int) : List Value := l.map (Value.int .i64)
theorem ints_length (l : List Int) : (ints l).length = l.length := by simp [ints]
/-- Where a frame lies: its block, its two rows. -/
structure Ho where
  g : Nat
  vc : Value
  vs : Value
def Ho.blocks (h : Ho) : List Nat := h.g :: (h.vc.ownBlock.toList ++ h.vs.ownBlock.toList)
def Ho.ptr (h : Ho) : Value := .pointer (some ⟨h.g, 0, none⟩)
structure FrOn (w : World) (h : Ho) (f : Fr) : Prop where
  blk : w.heap[h.g]? = some (.cells #[.int .i64 f.pr, .int .i64 f.at_, .int .i64 f.mark, h.vc, h.vs] 73 (0, 0))
  cs : w.ownsRow 0 2 1 h.vc f.cells.length (ints f.cells)
  st : w.ownsRow 0 2 1 h.vs f.stack.length (ints f.stack)
  nd : h.blocks.Nodup
theorem FrOn.lt {w : World} {h : Ho} {f : Fr} (H : FrOn w h f) : ∀ k ∈ h.blocks, k < w.heap.size := by
  intro k hk
  simp only [Ho.blocks, List.mem_cons, List.mem_append, Option.mem_toList] at hk
  rcases hk with rfl | hk | hk
  · exact (Array.getElem?_eq_some_iff.1 H.blk).1
  · exact (H.cs.lt k hk).2
  · exact (H.st.lt k hk).2
theorem FrOn.kept {w w' : World} {h : Ho} {f : Fr} (H : FrOn w h f) (hk : ∀ k ∈ h.blocks, w'.heap[k]? = w.heap[k]?) : FrOn w' h f :=
  ⟨(hk _ (by simp [Ho.blocks])).trans H.blk, own_move H.cs (fun k e => hk k (by simp [Ho.blocks, e])), own_move H.st (fun k e => hk k (by simp [Ho.blocks, e])), H.nd⟩
theorem FrOn.mod {S : Nat → Prop} {w w' : World} {h : Ho} {f : Fr} (H : FrOn w h f) (hm : Mod S w w') (hS : ∀ k ∈ h.blocks, ¬ S k) : FrOn w' h f :=
  H.kept (fun k hk => hm.block k (H.lt k hk) (hS k hk))

theorem FrOn.vc_ne {w : World} {h : Ho} {f : Fr} (H : FrOn w h f) : h.vc.ownBlock ≠ some h.g := by
  intro e
  have := H.nd
  simp [Ho.blocks, e] at this
theorem FrOn.vs_ne {w : World} {h : Ho} {f : Fr} (H : FrOn w h f) : h.vs.ownBlock ≠ some h.g := by
  intro e
  have := H.nd
  simp [Ho.blocks, e] at this
theorem FrOn.pop {w : World} {h : Ho} {f : Fr} (H : FrOn w h f) (s : List Int) (x : Int) (hs : f.stack = s ++ [x]) :
    Calls Tryd.prog 37 #[h.ptr] w fun e w' => e = .returned (.int .i64 x) ∧ ∃ vs', vs'.ownBlock = h.vs.ownBlock ∧ FrOn w' { h with vs := vs' } { f with stack := s } ∧ Mod (fun k => k = h.g) w w' := by
  obtain ⟨g, vc, vs⟩ := h
  have hst := H.st
  have hlen : f.stack.length = s.length + 1 := by rw [hs]; simp
  have hvn := H.vs_ne
  rcases hst.2 with ⟨_, h0⟩ | ⟨sg, cap, cur, rfl, _, hh, hn, hcap, hsz, htk⟩
  · omega
  have hx : w.cell? ⟨sg, s.length, none⟩ = some (.int .i64 x) := by
    rw [blk_cell hh, ← Array.getElem?_toList]
    have e1 : (cur.toList.take (f.stack.length * 1))[s.length]? = some (.int .i64 x) := by rw [htk, hs]; simp [ints]
    rw [List.getElem?_take, if_pos (by omega)] at e1
    exact e1
  simp only [hlen] at *
  have hb := H.blk
  refine (pop_calls w g sg s.length cap _ _ _ vc 73 x cur (by omega) hcap hb hx).mono ?_
  rintro e w' ⟨rfl, rfl⟩
  have hsg : sg ≠ g := by simpa [Value.ownBlock] using hvn
  refine ⟨rfl, .slice (some ⟨sg, 0, none⟩) s.length cap, rfl, ⟨blk_set hb 4 _, own_move H.cs (fun k e => Below.heap_setCell _ _ _ _ ?_), ⟨by simp [ints], .inr ⟨sg, cap, cur, rfl, Nat.zero_le _, (Below.heap_setCell _ _ _ _ hsg).trans hh, (by show s.length ≤ cap; omega), hcap, hsz, ?_⟩⟩, H.nd⟩, (Mod.refl (fun k => k = g) w).setCell (p := ⟨g, 4, none⟩) (fun _ => rfl) _⟩
  · rintro rfl; exact H.vc_ne e
  · have e2 := congrArg (List.take s.length) htk
    rw [List.take_take] at e2
    simp [hs, ints] at e2 ⊢
    exact e2
theorem FrOn.push {w : World} {h : Ho} {f : Fr} (H : FrOn w h f) (x : Int) (hl : f.stack.length + 1 ≤ 1000000) :
    Calls Tryd.prog 38 #[h.ptr, .int .i64 x] w fun e w' => e = .returned (.tuple #[]) ∧ ∃ vs', (∀ k, vs'.ownBlock = some k → h.vs.ownBlock = some k ∨ w.heap.size ≤ k) ∧ FrOn w' { h with vs := vs' } { f with stack := f.stack ++ [x] } ∧ Mod (fun k => k = h.g ∨ h.vs.ownBlock = some k) w w' := by
  obtain ⟨g, vc, vs⟩ := h
  have hvn := H.vs_ne
  have hb := H.blk
  refine (push_calls w g f.stack.length _ _ _ vc vs 73 x (ints f.stack) hb H.st hvn hl).mono ?_
  rintro e w' ⟨rfl, v1, w1, hown, hgr, hat, rfl⟩
  have hm : Mod (fun k => vs.ownBlock = some k) w w1 := (Mod.refl _ w).grown hgr (fun k e _ => e)
  have hlt := H.lt
  have hgl : g < w.heap.size := hlt g (by simp [Ho.blocks])
  have hv : ∀ k, v1.ownBlock = some k → vs.ownBlock = some k ∨ w.heap.size ≤ k := by
    intro k hk
    rcases hat with h | ⟨b, h, hb⟩
    · exact .inl (h ▸ hk)
    · have : b = k := Option.some.inj (h.symm.trans hk)
      exact .inr (this ▸ hb)
  have hv1 : v1.ownBlock ≠ some g := by
    intro e
    rcases hv g e with h | h
    · exact hvn h
    · omega
  have hb1 := blk_grown hb hgr (Ne.symm hvn)
  refine ⟨rfl, v1, hv, ⟨blk_set hb1 4 _, ?_, ?_, ?_⟩, (hm.mono (fun _ _ h => .inr h)).setCell (p := ⟨g, 4, none⟩) (fun _ => .inl rfl) _⟩
  · refine own_move H.cs (fun k e => ?_)
    rw [Below.heap_setCell _ _ _ _ (by rintro rfl; exact H.vc_ne e)]
    exact hm.block k (hlt k (by simp [Ho.blocks, e])) (fun e' => by
      have := H.nd
      simp [Ho.blocks, e, e'] at this)
  · have : (f.stack ++ [x]).length = f.stack.length + 1 := by simp
    show World.ownsRow _ 0 2 1 v1 (f.stack ++ [x]).length (ints (f.stack ++ [x]))
    rw [this, show ints (f.stack ++ [x]) = ints f.stack ++ [.int .i64 x] by simp [ints]]
    exact own_move hown (fun k e => Below.heap_setCell _ _ _ _ (by rintro rfl; exact hv1 e))
  · have nd := H.nd
    have hc : ∀ k, vc.ownBlock = some k → v1.ownBlock ≠ some k := fun k e e' => by
      rcases hv k e' with h | h
      · simp [Ho.blocks, e, h] at nd
      · have := hlt k (by simp [Ho.blocks, e])
        omega
    have hgc := H.vc_ne
    show (Ho.blocks ⟨g, vc, v1⟩).Nodup
    rcases h1 : vc.ownBlock with _ | k1 <;> rcases h2 : v1.ownBlock with _ | k2 <;> simp [Ho.blocks, h1, h2] at *
    · exact Ne.symm hv1
    · exact Ne.symm hgc
    · exact ⟨⟨Ne.symm hgc, Ne.symm hv1⟩, Ne.symm hc⟩
end Go.Proofs.YthckiolgpgplpaaDoor
end
section
namespace Go.Proofs.YthckiolgpgplpaaDoor
open Go.RowKit Go.Proofs.YthckiolgpgplpaaDoorW.PrintWords Go.Proofs.YthckiolgpgplpaaDoorW.PrintLast Go.Proofs.YthckiolgpgplpaaDoorW.PrintMore Go.Proofs.YthckiolgpgplpaaDoor.P
set_option linter.unusedVariables false
set_option linter.unusedSimpArgs false

/-- What an operation makes of two numbers; a trap, or 0. -/
def twoR (op a b : Int) : Int × Int :=
  if op = 7 then (wrap64 (a + b), 0) else if op = 8 then (wrap64 (a - b), 0) else if op = 9 then (wrap64 (a * b), 0)
  else if op = 10 then (if b = 0 then (0, 1) else (wrap64 (Int.tdiv a b), 0)) else if op = 11 then (if b = 0 then (0, 1) else (Int.tmod a b, 0))
  else if op = 12 then (if a < b then 1 else 0, 0) else if op = 13 then (if a ≤ b then 1 else 0, 0) else (if a = b then 1 else 0, 0)
def clearR : List Int → Nat → Nat → List Int
  | l, _, 0 => l
  | l, n, m + 1 => clearR (l.set n 0) (n + 1) m
theorem clearR_length : ∀ (m : Nat) (l : List Int) (n : Nat), (clearR l n m).length = l.length
  | 0, _, _ => rfl
  | m + 1, l, n => by unfold clearR; rw [clearR_length m, List.length_set]
/-- What an instruction that works on a frame alone makes of it; a trap, or 0. -/
def dataR (f : Fr) (i : S43) : Fr × Int :=
  if i.f0 = 1 then ({ f with stack := f.stack ++ [i.f1] }, 0)
  else if i.f0 = 2 then ({ f with stack := f.stack ++ [f.cells.getD i.f1.toNat 0] }, 0)
  else if i.f0 = 3 then ({ f with cells := f.cells.set i.f1.toNat (f.stack.getLastD 0), stack := f.stack.dropLast }, 0)
  else if i.f0 = 4 then (if f.stack.getLastD 0 < 0 ∨ i.f2 ≤ f.stack.getLastD 0 then ({ f with stack := f.stack.dropLast }, 2) else ({ f with stack := f.stack.dropLast ++ [f.cells.getD (i.f1 + f.stack.getLastD 0).toNat 0] }, 0))
  else if i.f0 = 5 then (if f.stack.dropLast.getLastD 0 < 0 ∨ i.f2 ≤ f.stack.dropLast.getLastD 0 then ({ f with stack := f.stack.dropLast.dropLast }, 2) else ({ f with cells := f.cells.set (i.f1 + f.stack.dropLast.getLastD 0).toNat (f.stack.getLastD 0), stack := f.stack.dropLast.dropLast }, 0))
  else if i.f0 = 6 then ({ f with cells := clearR f.cells i.f1.toNat i.f2.toNat }, 0)
  else if i.f0 = 15 then ({ f with stack := f.stack.dropLast ++ [if f.stack.getLastD 0 = 0 then 1 else 0] }, 0)
  else if i.f0 = 16 then ({ f with stack := f.stack.dropLast ++ [wrap64 (-(f.stack.getLastD 0))] }, 0)
  else if i.f0 = 17 then ({ f with at_ := i.f1 }, 0)
  else if i.f0 = 18 then ({ f with stack := f.stack.dropLast, at_ := if f.stack.getLastD 0 = 0 then i.f1 else f.at_ }, 0)
  else if i.f0 = 23 then ({ f with stack := f.stack.dropLast }, if f.stack.getLastD 0 = 0 then 3 else 0)
  else if i.f0 = 25 then ({ f with stack := f.stack.dropLast }, 0)
  else ({ f with stack := f.stack.dropLast.dropLast ++ [(twoR i.f0 (f.stack.dropLast.getLastD 0) (f.stack.getLastD 0)).1] }, (twoR i.f0 (f.stack.dropLast.getLastD 0) (f.stack.getLastD 0)).2)

/-- A machine. Its frames: the last one is the one that runs. -/
structure Mc where
  codes : List S46
  frames : List Fr
  input : List Int
  read : Nat
  fuel : Int
  ticks : Int
  tick : Int × Int × Int × Int
  events : List (Int × Int)
  ended : Bool
def Mc.endM (m : Mc) (k n : Int) : Mc := { m with events := m.events ++ [(k, n)], ended := true }
def Mc.ins (m : Mc) (f : Fr) : S43 := rd_T43 (rd_T46 m.codes f.pr).f0 f.at_
def frame0 (l : List S46) (k : Int) (args : List Int) : Fr := ⟨k, 0, -1, args ++ List.replicate ((rd_T46 l k).f1.toNat - args.length) 0, []⟩
def Mc.beginM (m : Mc) (k : Int) (args : List Int) : Mc := { m with frames := m.frames ++ [frame0 m.codes k args] }
def pushTop (l : List Fr) (x : Int) : List Fr := l.dropLast ++ (match l.getLast? with | none => [] | some g => [{ g with stack := g.stack ++ [x] }])
/-- What the instruction i of the frame f (its place is already the next one) does; m: the machine, whose frames are r and f. Whether there is a tick. -/
def Mc.does (m : Mc) (r : List Fr) (f : Fr) (i : S43) : Mc × Bool :=
  if i.f0 = 19 then
    (if r.length + 1 = 50 then ({ m with frames := r ++ [{ f with stack := f.stack.take (f.stack.length - i.f2.toNat) }] }.endM 4 4, false)
    else ({ m with frames := r ++ [{ f with stack := f.stack.take (f.stack.length - i.f2.toNat) }] }.beginM i.f1 (f.stack.drop (f.stack.length - i.f2.toNat)), false))
  else if i.f0 = 20 then
    (if r = [] then ({ m with frames := [] }.endM 3 0, false) else if i.f1 = 1 then ({ m with frames := pushTop r (f.stack.getLastD 0) }, false) else ({ m with frames := r }, false))
  else if i.f0 = 21 then ({ m with frames := r ++ [{ f with stack := f.stack.dropLast }], events := m.events ++ [(1, f.stack.getLastD 0)] }, false)
  else if i.f0 = 22 then
    (if m.read = m.input.length then ({ m with frames := r ++ [f] }.endM 4 5, false)
    else ({ m with frames := r ++ [{ f with stack := f.stack ++ [m.input.getD m.read 0] }], events := m.events ++ [(2, m.input.getD m.read 0)], read := m.read + 1 }, false))
  else if i.f0 = 24 then
    (if m.fuel = 0 then ({ m with frames := r ++ [f] }.endM 5 0, false)
    else ({ m with frames := r ++ [{ f with mark := i.f1 }], fuel := m.fuel - 1, ticks := m.ticks + 1, tick := (i.f2, f.pr, i.f1, (r.length + 1 : Nat)) }, true))
  else if (dataR f i).2 = 0 then ({ m with frames := r ++ [(dataR f i).1] }, false) else ({ m with frames := r ++ [(dataR f i).1] }.endM 4 (dataR f i).2, false)
/-- One instruction. -/
def Mc.one (m : Mc) : Mc × Bool :=
  match m.frames.getLast? with
  | none => (m, false)
  | some f => m.does m.frames.dropLast { f with at_ := f.at_ + 1 } (m.ins f)
/-- Instructions, as far as so many. -/
def Mc.steps : Nat → Mc → Mc × Bool
  | 0, m => (m.endM 5 0, false)
  | k + 1, m => if m.one.2 = true then (m.one.1, true) else if m.one.1.ended = true then (m.one.1, false) else Mc.steps k m.one.1
def Mc.step (m : Mc) : Mc × Bool := if m.ended = true then (m, false) else m.steps 1048576
end Go.Proofs.YthckiolgpgplpaaDoor
end
section
namespace Go.Proofs.YthckiolgpgplpaaDoor
open Go.RowKit Go.Proofs.YthckiolgpgplpaaDoorW.PrintWords Go.Proofs.YthckiolgpgplpaaDoorW.PrintLast Go.Proofs.YthckiolgpgplpaaDoorW.PrintMore Go.Proofs.YthckiolgpgplpaaDoor.P
set_option linter.unusedVariables false
set_option linter.unusedSimpArgs false

inductive All2 {α β : Type} (R : α → β → Prop) : List α → List β → Prop
  | nil : All2 R [] []
  | cons {a : α} {b : β} {l : List α} {m : List β} : R a b → All2 R l m → All2 R (a :: l) (b :: m)
theorem All2.length_eq {α β : Type} {R : α → β → Prop} {l : List α} {m : List β} (h : All2 R l m) : l.length = m.length := by
  induction h with
  | nil => rfl
  | cons _ _ ih => simp [ih]
/-! Lists without a repetition. -/
theorem nodup_rep {L1 L2 : List Nat} {x x' : Option Nat} {N : Nat} (h : (L1 ++ (x.toList ++ L2)).Nodup) (hN : ∀ k ∈ L1 ++ (x.toList ++ L2), k < N) (hx : ∀ k, x' = some k → x = some k ∨ N ≤ k) : (L1 ++ (x'.toList ++ L2)).Nodup := by
  rw [List.nodup_append, List.nodup_append] at h ⊢
  obtain ⟨h1, ⟨h2, h3, h4⟩, h5⟩ := h
  refine ⟨h1, ⟨?_, h3, fun a ha b hb => ?_⟩, fun a ha b hb => ?_⟩
  · cases x' <;> simp
  · have ea : x' = some a := by simpa using ha
    rcases hx a ea with e | e
    · exact h4 a (by simpa using e) b hb
    · have := hN b (by simp [hb]); omega
  · rcases List.mem_append.1 hb with hb | hb
    · have eb : x' = some b := by simpa using hb
      rcases hx b eb with e | e
      · exact h5 a ha b (by simp [e])
      · have := hN a (by simp [ha]); omega
    · exact h5 a ha b (by simp [hb])
/-- Where a machine lies: its block, the values of its rows, its frames' places. -/
structure MHo where
  g : Nat
  cv : Value
  fv : Value
  iv : Value
  ev : Value
  hs : List Ho
def MHo.own (o : MHo) : List Nat := [o.g] ++ (o.fv.ownBlock.toList ++ (o.ev.ownBlock.toList ++ o.hs.flatMap Ho.blocks))
def MHo.ptr (o : MHo) : Value := .pointer (some ⟨o.g, 0, none⟩)
def evs (l : List (Int × Int)) : List Value := l.flatMap fun p => [.int .i64 p.1, .int .i64 p.2]
theorem evs_snoc (l : List (Int × Int)) (k x : Int) : evs (l ++ [(k, x)]) = evs l ++ [.int .i64 k, .int .i64 x] := by simp [evs]
def mcells (o : MHo) (m : Mc) : Array Value := #[o.cv, o.fv, o.iv, .int .i64 (m.read : Int), .int .i64 m.fuel, .int .i64 m.ticks, .int .i64 m.tick.1, .int .i64 m.tick.2.1, .int .i64 m.tick.2.2.1, .int .i64 m.tick.2.2.2, o.ev, .bool m.ended]
/-- The machine m lies at o; codes and input are read in the blocks of Rd alone. -/
structure MOn (Rd : Nat → Prop) (w : World) (o : MHo) (m : Mc) : Prop where
  blk : w.heap[o.g]? = some (.cells (mcells o m) 67 (0, 0))
  fr : w.ownsRow 0 69 1 o.fv m.frames.length (o.hs.map Ho.ptr)
  ev : w.ownsRow 0 38 2 o.ev m.events.length (evs m.events)
  frs : All2 (FrOn w) o.hs m.frames
  nd : o.own.Nodup
  rd : ∀ k ∈ o.own, ¬ Rd k
  low : ∀ k, Rd k → k < w.heap.size
  cs : Kd.V k46 46 w 0 Rd o.cv m.codes
  inp : Kd.V (Kd.int .i64) 2 w 0 Rd o.iv m.input
section
variable {Rd : Nat → Prop} {w w' : World} {o : MHo} {m : Mc}
theorem forall2_lt {hs : List Ho} {fs : List Fr} (h : All2 (FrOn w) hs fs) : ∀ k ∈ hs.flatMap Ho.blocks, k < w.heap.size := by
  induction h with
  | nil => intro k hk; simp at hk
  | cons h _ ih =>
    intro k hk
    rw [List.flatMap_cons, List.mem_append] at hk
    rcases hk with hk | hk
    · exact h.lt k hk
    · exact ih k hk
theorem forall2_kept {hs : List Ho} {fs : List Fr} (h : All2 (FrOn w) hs fs) (hk : ∀ k ∈ hs.flatMap Ho.blocks, w'.heap[k]? = w.heap[k]?) : All2 (FrOn w') hs fs := by
  induction h with
  | nil => exact .nil
  | cons h _ ih =>
    rw [List.flatMap_cons] at hk
    exact .cons (h.kept (fun k hk' => hk k (List.mem_append_left _ hk'))) (ih (fun k hk' => hk k (List.mem_append_right _ hk')))
theorem MOn.lt (H : MOn Rd w o m) : ∀ k ∈ o.own, k < w.heap.size := by
  intro k hk
  simp only [MHo.own, List.mem_append, List.mem_singleton, Option.mem_toList] at hk
  rcases hk with rfl | hk | hk | hk
  · exact blk_lt H.blk
  · exact (H.fr.lt k hk).2
  · exact (H.ev.lt k hk).2
  · exact forall2_lt H.frs k hk
/-- What is none of the machine's, and is not read, may be written. -/
theorem MOn.kept (H : MOn Rd w o m) (hsz : w.heap.size ≤ w'.heap.size) (hk : ∀ k, k ∈ o.own ∨ Rd k → w'.heap[k]? = w.heap[k]?) : MOn Rd w' o m := by
  have ho : ∀ k, k ∈ o.own → w'.heap[k]? = w.heap[k]? := fun k h => hk k (.inl h)
  exact ⟨(ho _ (by simp [MHo.own])).trans H.blk, own_move H.fr (fun k e => ho k (by simp [MHo.own, e])), own_move H.ev (fun k e => ho k (by simp [MHo.own, e])),
    forall2_kept H.frs (fun k h => ho k (by simp only [MHo.own, List.mem_append]; exact .inr (.inr (.inr h)))), H.nd, H.rd, fun k h => Nat.lt_of_lt_of_le (H.low k h) hsz,
    Kd.V_step H.cs (fun k h _ => hk k (.inr h)), Kd.V_step H.inp (fun k h _ => hk k (.inr h))⟩
theorem MOn.mod {S : Nat → Prop} (H : MOn Rd w o m) (hM : Mod S w w') (hS : ∀ k, k ∈ o.own ∨ Rd k → ¬ S k) : MOn Rd w' o m :=
  H.kept hM.size (fun k h => hM.block k (h.elim (H.lt k) (H.low k)) (hS k h))
theorem MOn.below (H : MOn Rd w o m) (hb : Below w.heap.size w w') : MOn Rd w' o m := H.mod (Mod.of_below hb (fun _ => False)) (fun _ _ h => h)
theorem MOn.alloc (H : MOn Rd w o m) (b : Obj) : MOn Rd (w.alloc b) o m := H.below (below_alloc (Below.refl _ _) b)
theorem MOn.drew (H : MOn Rd w o m) : MOn Rd w.drew o m := H.below (below_drew (Below.refl _ _))
theorem MOn.drewN (H : MOn Rd w o m) (k : Nat) : MOn Rd (w.drewN k) o m := H.below (pw_below_drewN (Below.refl _ _) k)

theorem forall2_split {hs0 : List Ho} {h : Ho} {r : List Fr} {f : Fr} (H : All2 (FrOn w) (hs0 ++ [h]) (r ++ [f])) : All2 (FrOn w) hs0 r ∧ FrOn w h f := by
  have hl : hs0.length = r.length := by have := H.length_eq; simp at this; exact this
  induction hs0 generalizing r with
  | nil =>
    obtain rfl : r = [] := List.length_eq_zero_iff.1 (by simpa using hl.symm)
    cases H with | cons h _ => exact ⟨.nil, h⟩
  | cons a t ih =>
    cases r with
    | nil => simp at hl
    | cons b u =>
      cases H with
      | cons h1 h2 =>
        obtain ⟨a1, a2⟩ := ih h2 (by simpa using hl)
        exact ⟨.cons h1 a1, a2⟩
theorem forall2_snoc {hs0 : List Ho} {h : Ho} {r : List Fr} {f : Fr} (H : All2 (FrOn w) hs0 r) (h1 : FrOn w h f) : All2 (FrOn w) (hs0 ++ [h]) (r ++ [f]) := by
  induction H with
  | nil => exact .cons h1 .nil
  | cons a _ ih => exact .cons a ih
theorem MOn.split (H : MOn Rd w o m) {r : List Fr} {f : Fr} (hf : m.frames = r ++ [f]) : ∃ hs0 h, o.hs = hs0 ++ [h] ∧ hs0.length = r.length := by
  have hl := H.frs.length_eq
  rcases List.eq_nil_or_concat o.hs with e | ⟨s, x, e⟩
  · rw [e, hf] at hl; simp at hl
  · refine ⟨s, x, by simpa using e, ?_⟩
    rw [e, hf] at hl; simpa using hl
theorem MOn.top (H : MOn Rd w o m) {hs0 : List Ho} {h : Ho} {r : List Fr} {f : Fr} (ho : o.hs = hs0 ++ [h]) (hf : m.frames = r ++ [f]) : FrOn w h f := by
  have := H.frs
  rw [ho, hf] at this
  exact (forall2_split this).2
/-- The own blocks grow: none but new ones come in. -/
def Sub (w : World) (o o' : MHo) : Prop := o'.g = o.g ∧ ∀ k ∈ o'.own, k ∈ o.own ∨ w.heap.size ≤ k
theorem Sub.refl (w : World) (o : MHo) : Sub w o o := ⟨rfl, fun _ h => .inl h⟩
theorem Sub.trans {o1 o2 : MHo} (h : Sub w o o1) (hs : w.heap.size ≤ w'.heap.size) (h' : Sub w' o1 o2) : Sub w o o2 :=
  ⟨h'.1.trans h.1, fun k hk => (h'.2 k hk).elim (h.2 k) (fun e => .inr (Nat.le_trans hs e))⟩
/-- What a machine's method hands on. -/
def MPost (Rd : Nat → Prop) (w : World) (o : MHo) (m : Mc) (v : Value) (e : Ending) (w' : World) : Prop :=
  e = .returned v ∧ ∃ o', Sub w o o' ∧ MOn Rd w' o' m ∧ Mod (fun k => k ∈ o.own) w w'
theorem own_parts {hs0 : List Ho} {h : Ho} (ho : o.hs = hs0 ++ [h]) : o.own = ([o.g] ++ (o.fv.ownBlock.toList ++ (o.ev.ownBlock.toList ++ (hs0.flatMap Ho.blocks ++ (h.g :: h.vc.ownBlock.toList))))) ++ (h.vs.ownBlock.toList ++ []) := by
  simp [MHo.own, ho, Ho.blocks]
theorem apart {L1 L2 : List Nat} (h : (L1 ++ L2).Nodup) {k : Nat} (h1 : k ∈ L1) (h2 : k ∈ L2) : False := (List.nodup_append.1 h).2.2 k h1 k h2 rfl
theorem top_apart (H : MOn Rd w o m) {hs0 : List Ho} {h : Ho} (ho : o.hs = hs0 ++ [h]) : ∀ k ∈ h.blocks, k ≠ o.g ∧ o.fv.ownBlock ≠ some k ∧ o.ev.ownBlock ≠ some k ∧ k ∉ hs0.flatMap Ho.blocks := by
  have e : o.own = ([o.g] ++ (o.fv.ownBlock.toList ++ (o.ev.ownBlock.toList ++ hs0.flatMap Ho.blocks))) ++ h.blocks := by simp [MHo.own, ho]
  have nd := H.nd
  rw [e] at nd
  intro k hk
  exact ⟨fun q => apart nd (by simp [q]) hk, fun q => apart nd (by simp [q]) hk, fun q => apart nd (by simp [q]) hk, fun q => apart nd (by simp only [List.mem_append]; exact .inr (.inr (.inr q))) hk⟩
theorem top_own {hs0 : List Ho} {h : Ho} (ho : o.hs = hs0 ++ [h]) : ∀ k ∈ h.blocks, k ∈ o.own := by
  intro k hk
  simp only [MHo.own, ho, List.flatMap_append, List.flatMap_cons, List.flatMap_nil, List.append_nil, List.mem_append]
  exact .inr (.inr (.inr (.inr hk)))
/-- The running frame has turned. -/
theorem MOn.setTop (H : MOn Rd w o m) {hs0 : List Ho} {h : Ho} {r : List Fr} {f f' : Fr} {vs' : Value} (ho : o.hs = hs0 ++ [h]) (hf : m.frames = r ++ [f]) (hM : Mod (fun k => k ∈ h.blocks) w w')
    (hv : ∀ k, vs'.ownBlock = some k → h.vs.ownBlock = some k ∨ w.heap.size ≤ k) (HF : FrOn w' { h with vs := vs' } f') :
    MOn Rd w' { o with hs := hs0 ++ [{ h with vs := vs' }] } { m with frames := r ++ [f'] } := by
  have hap := top_apart H ho
  have hown := top_own ho
  have hlt := H.lt
  have hb : ∀ k, k < w.heap.size → k ∉ h.blocks → w'.heap[k]? = w.heap[k]? := fun k h1 h2 => hM.block k h1 h2
  have hfrs := H.frs
  rw [ho, hf] at hfrs
  obtain ⟨f1, f2⟩ := forall2_split hfrs
  have hpt : (hs0 ++ [{ h with vs := vs' }]).map Ho.ptr = o.hs.map Ho.ptr := by rw [ho]; simp [Ho.ptr]
  have hl : (r ++ [f']).length = m.frames.length := by rw [hf]; simp
  have e' := own_parts (o := { o with hs := hs0 ++ [{ h with vs := vs' }] }) rfl
  have e := own_parts ho
  have hnew : ∀ k ∈ MHo.own { o with hs := hs0 ++ [{ h with vs := vs' }] }, k ∈ o.own ∨ w.heap.size ≤ k := by
    intro k hk
    rw [e', List.mem_append] at hk
    rw [e, List.mem_append]
    rcases hk with hk | hk
    · exact .inl (.inl hk)
    · have : vs'.ownBlock = some k := by simpa using hk
      rcases hv k this with q | q
      · exact .inl (.inr (by simp [q]))
      · exact .inr q
  refine ⟨?_, ?_, ?_, ?_, ?_, ?_, ?_, ?_, ?_⟩
  · exact (hb o.g (blk_lt H.blk) (fun q => (hap _ q).1 rfl)).trans H.blk
  · show World.ownsRow w' 0 69 1 o.fv (r ++ [f']).length ((hs0 ++ [{ h with vs := vs' }]).map Ho.ptr)
    rw [hl, hpt]
    exact own_move H.fr (fun k q => hb k (H.fr.lt k q).2 (fun q' => (hap _ q').2.1 q))
  · exact own_move H.ev (fun k q => hb k (H.ev.lt k q).2 (fun q' => (hap _ q').2.2.1 q))
  · exact forall2_snoc (forall2_kept f1 (fun k q => hb k (forall2_lt f1 k q) (fun q' => (hap _ q').2.2.2 q))) HF
  · rw [e']
    have nd := H.nd
    have hN := H.lt
    rw [e] at nd hN
    exact nodup_rep nd hN hv
  · intro k hk q
    rcases hnew k hk with h1 | h1
    · exact H.rd k h1 q
    · have := H.low k q; omega
  · exact fun k q => Nat.lt_of_lt_of_le (H.low k q) hM.size
  · exact Kd.V_step H.cs (fun k q hlt => hb k hlt (fun q' => H.rd k (hown k q') q))
  · exact Kd.V_step H.inp (fun k q hlt => hb k hlt (fun q' => H.rd k (hown k q') q))
theorem setTop_sub {hs0 : List Ho} {h : Ho} {vs' : Value} (ho : o.hs = hs0 ++ [h]) (hv : ∀ k, vs'.ownBlock = some k → h.vs.ownBlock = some k ∨ w.heap.size ≤ k) : Sub w o { o with hs := hs0 ++ [{ h with vs := vs' }] } := by
  refine ⟨rfl, fun k hk => ?_⟩
  rw [own_parts (o := { o with hs := hs0 ++ [{ h with vs := vs' }] }) rfl, List.mem_append] at hk
  rw [own_parts ho, List.mem_append]
  rcases hk with hk | hk
  · exact .inl (.inl hk)
  · have : vs'.ownBlock = some k := by simpa using hk
    rcases hv k this with q | q
    · exact .inl (.inr (by simp [q]))
    · exact .inr q
end
end Go.Proofs.YthckiolgpgplpaaDoor
end
section
namespace Go.Proofs.YthckiolgpgplpaaDoor
open Go.RowKit Go.Proofs.YthckiolgpgplpaaDoorW.PrintWords
set_option linter.unusedVariables false
set_option linter.unusedSimpArgs false
set_option maxRecDepth 1000000
set_option maxHeartbeats 800000
theorem info38 : (Tryd.prog.info? 38).map (fun i => (i.zero, i.size, i.bytes)) = some (some (.agg #[.int .i64 0, .int .i64 0]), 2, 16) := by kernel_rfl
theorem event_calls (w : World) (g n : Nat) (vs vd : Value) (pre : Array Value) (hp : pre.size = 10) (t : TypeId) (kd x : Int) (xs : List Value)
    (hg : w.heap[g]? = some (.cells (pre ++ #[vs, vd]) t (0, 0))) (hs : w.ownsRow 0 38 2 vs n xs) (hne : vs.ownBlock ≠ some g) (hl : n + 1 ≤ 4398046511104) :
    Calls Tryd.prog 36 #[.pointer (some ⟨g, 0, none⟩), .int .i64 kd, .int .i64 x] w fun e w' => e = .returned (.tuple #[]) ∧ ∃ v1 w1, w1.ownsRow 0 38 2 v1 (n + 1) (xs ++ [.int .i64 kd, .int .i64 x]) ∧ w.grownBy w1 vs.ownBlock ∧ (v1.ownBlock = vs.ownBlock ∨ ∃ b, v1.ownBlock = some b ∧ w.heap.size ≤ b) ∧ w' = w1.setCell ⟨g, 10, none⟩ v1 := by
  have c4 : w.cell? ⟨g, 10, none⟩ = some vs := by rw [blk_cell hg, Array.getElem?_append_right (by omega), hp]; rfl
  obtain ⟨A, l, c, rfl⟩ : ∃ A l c, vs = .slice A l c := by
    rcases hs.2 with ⟨h, _⟩ | ⟨_, _, _, h, _⟩ <;> exact ⟨_, _, _, h⟩
  go_enter Tryd.func36, Tryd.ntmps36
  go_wp2_with (at_builtin; refine print_append_cells 0 rfl (.tmp 10) (.tmp 14) 35 38 (.agg #[.int .i64 0, .int .i64 0]) 2 16 rfl Tryd.underlying35 info38 rfl (by decide) (by decide) _ n xs [.int .i64 kd, .int .i64 x] rfl rfl rfl ?c2 hs (Below.refl 0 w) (Nat.zero_le _) (by omega) ?grow)
  case c2 => intro u hu; simp at hu; rcases hu with rfl | rfl <;> rfl
  case grow =>
    intro v1 w1 hown _ hgrow hat
    obtain ⟨g1, cap1, rfl⟩ : ∃ g1 cap1, v1 = .slice (some ⟨g1, 0, none⟩) (n + 1) cap1 := by
      rcases hown.2 with ⟨_, h⟩ | ⟨g1, cap1, _, h, _⟩
      · omega
      · exact ⟨g1, cap1, h⟩
    have hb := blk_grown hg hgrow (Ne.symm hne)
    have HAT := Aside0.mk hat; clear hat
    have k4 : w1.cell? ⟨g, 10, none⟩ = some (.slice A l c) := by rw [blk_cell hb, Array.getElem?_append_right (by omega), hp]; rfl
    have f4 : w1.frozen? ⟨g, 10, none⟩ = false := blk_frozen hb 10
    clear hb
    go_wp2
    go_end0
    exact ⟨rfl, _, w1, hown, hgrow, HAT.out, rfl⟩
end Go.Proofs.YthckiolgpgplpaaDoor
end
section
namespace Go.Proofs.YthckiolgpgplpaaDoor
open Go.RowKit Go.Proofs.YthckiolgpgplpaaDoorW.PrintWords Go.Proofs.YthckiolgpgplpaaDoorW.PrintLast Go.Proofs.YthckiolgpgplpaaDoorW.PrintMore
set_option linter.unusedVariables false
set_option linter.unusedSimpArgs false
set_option maxRecDepth 1000000
set_option maxHeartbeats 800000
theorem end_calls (w : World) (g n : Nat) (vs : Value) (b : Bool) (pre : Array Value) (hp : pre.size = 10) (t : TypeId) (kd x : Int) (xs : List Value)
    (hg : w.heap[g]? = some (.cells (pre ++ #[vs, .bool b]) t (0, 0))) (hs : w.ownsRow 0 38 2 vs n xs) (hne : vs.ownBlock ≠ some g) (hl : n + 1 ≤ 4398046511104) :
    Calls Tryd.prog 41 #[.pointer (some ⟨g, 0, none⟩), .int .i64 kd, .int .i64 x] w fun e w' => e = .returned (.tuple #[]) ∧ ∃ v1 w1, w1.ownsRow 0 38 2 v1 (n + 1) (xs ++ [.int .i64 kd, .int .i64 x]) ∧ w.grownBy w1 vs.ownBlock ∧ (v1.ownBlock = vs.ownBlock ∨ ∃ b, v1.ownBlock = some b ∧ w.heap.size ≤ b) ∧ w' = (w1.setCell ⟨g, 10, none⟩ v1).setCell ⟨g, 11, none⟩ (.bool true) := by
  have HG := Aside0.mk hg; have HS := Aside0.mk hs; have HN := Aside0.mk hne; clear hg hs hne
  go_enter Tryd.func41, Tryd.ntmps41
  go_wp2_with ((with_reducible refine gate_callee (f := 36) rfl ?_); refine goesL_ (some 9) rfl rfl Tryd.func36 (by kernel_rfl) rfl #[.pointer (some ⟨g, 0, none⟩), .int .i64 kd, .int .i64 x] rfl (by (try simp only [List.map_toArray, List.map_cons, List.map_nil]); first | done | rfl) ?_; refine (event_calls w g n vs (.bool b) pre hp t kd x xs HG.out HS.out HN.out hl).mono ?_; rintro e w' ⟨rfl, v1, w1, hown, hgr, hat, rfl⟩; have HO := Aside0.mk hown; have HR := Aside0.mk hgr; have HA := Aside0.mk hat; clear hown hgr hat; have hb := blk_set (blk_grown HG.out HR.out (Ne.symm HN.out)) 10 v1; obtain ⟨w2, hw2⟩ : ∃ w2, w2 = w1.setCell ⟨g, 10, none⟩ v1 := ⟨_, rfl⟩; rw [← hw2] at hb ⊢; have hc : w2.cell? ⟨g, 11, none⟩ = some (.bool b) := by { rw [blk_cell hb, Array.getElem?_setIfInBounds, if_neg (by decide), Array.getElem?_append_right (by omega), hp]; rfl }; have hf : w2.frozen? ⟨g, 11, none⟩ = false := blk_frozen hb 11; have HW := Aside0.mk hw2; clear hb hw2; refine ⟨_, rfl, ?_⟩)
  go_end0
  have hw := HW.out
  subst hw
  exact ⟨rfl, v1, w1, HO.out, HR.out, HA.out, rfl⟩
end Go.Proofs.YthckiolgpgplpaaDoor
end
section
namespace Go.Proofs.YthckiolgpgplpaaDoor
open Go.RowKit Go.Proofs.YthckiolgpgplpaaDoorW.PrintWords Go.Proofs.YthckiolgpgplpaaDoorW.PrintLast Go.Proofs.YthckiolgpgplpaaDoorW.PrintMore Go.Proofs.YthckiolgpgplpaaDoor.P
set_option linter.unusedVariables false
set_option linter.unusedSimpArgs false
set_option maxRecDepth 1000000
set_option maxHeartbeats 800000
theorem FrOn.alloc {w : World} {h : Ho} {f : Fr} (H : FrOn w h f) (o : Obj) : FrOn (w.alloc o) h f := H.kept (fun k hk => Below.heap_alloc w o k (H.lt k hk))
theorem FrOn.drew {w : World} {h : Ho} {f : Fr} (H : FrOn w h f) : FrOn w.drew h f := H.kept (fun _ _ => rfl)
/-- What data hands on: the trap; the frame turned; its rows where they were, or anew. -/
def DataPost (w : World) (h : Ho) (r : Int) (f1 : Fr) (e : Ending) (w' : World) : Prop :=
  e = .returned (.int .i64 r) ∧ ∃ vs', (∀ k, vs'.ownBlock = some k → h.vs.ownBlock = some k ∨ w.heap.size ≤ k) ∧ FrOn w' { h with vs := vs' } f1 ∧ Mod (fun k => k ∈ h.blocks) w w'
theorem data_push {w : World} {h : Ho} {f : Fr} (H : FrOn w h f) (n m : Int) (hl : f.stack.length + 1 ≤ 1000000) :
    Calls Tryd.prog 40 #[h.ptr, .agg #[.int .i64 1, .int .i64 n, .int .i64 m]] w (DataPost w h 0 { f with stack := f.stack ++ [n] }) := by
  obtain ⟨g, vc, vs⟩ := h
  have HH := Aside0.mk H; clear H
  show Calls Tryd.prog 40 #[.pointer (some ⟨g, 0, none⟩), .agg #[.int .i64 1, .int .i64 n, .int .i64 m]] w _
  go_enter Tryd.func40, Tryd.ntmps40
  go_wp2_with ((with_reducible refine gate_callee (f := 38) rfl ?_); refine goesL_ (some 35) rfl rfl Tryd.func38 (by kernel_rfl) rfl #[.pointer (some ⟨g, 0, none⟩), .int .i64 n] rfl (by (try simp only [List.map_toArray, List.map_cons, List.map_nil]); first | done | rfl) ?_; refine ((HH.out.alloc _).push n hl).mono ?_; rintro e w' ⟨rfl, vs', hv, HF, HM⟩; refine ⟨_, rfl, ?_⟩)
  go_ret
  have H := HH.out
  refine ⟨rfl, vs', fun k e => (hv k e).imp_right (fun h => by simp at h; omega), HF, ((Mod.refl _ w).alloc _).trans HM (fun i hi h => ?_)⟩
  rcases h with rfl | h <;> simp [Ho.blocks, *]
theorem ownsInt {w : World} {v : Value} {l : List Int} (h : w.ownsRow 0 2 1 v l.length (ints l)) (hne : l ≠ []) : ∃ sg cap cur, v = .slice (some ⟨sg, 0, none⟩) l.length cap ∧ l.length ≤ cap ∧ cap ≤ 9223372036854775807 ∧ w.heap[sg]? = some (.cells cur 2 (0, 0)) ∧ cur.size = cap ∧ ∀ j x, l[j]? = some x → w.cell? ⟨sg, j, none⟩ = some (.int .i64 x) := by
  rcases h.2 with ⟨_, h0⟩ | ⟨sg, cap, cur, rfl, _, hh, hn, hcap, hsz, htk⟩
  · exact absurd (List.length_eq_zero_iff.1 h0) hne
  · refine ⟨sg, cap, cur, rfl, hn, by simp only [maxLen] at hcap; omega, hh, by omega, fun j x hj => ?_⟩
    have hlt := (List.getElem?_eq_some_iff.1 hj).1
    rw [blk_cell hh, ← Array.getElem?_toList]
    have e1 : (cur.toList.take (l.length * 1))[j]? = some (.int .i64 x) := by rw [htk]; simp [ints, hj]
    rw [List.getElem?_take, if_pos (by omega)] at e1
    exact e1
theorem data_load {w : World} {h : Ho} {f : Fr} (H : FrOn w h f) (n : Nat) (m x : Int) (hx : f.cells[n]? = some x) (hl : f.stack.length + 1 ≤ 1000000) :
    Calls Tryd.prog 40 #[h.ptr, .agg #[.int .i64 2, .int .i64 n, .int .i64 m]] w (DataPost w h 0 { f with stack := f.stack ++ [x] }) := by
  obtain ⟨g, vc, vs⟩ := h
  have hlt := (List.getElem?_eq_some_iff.1 hx).1
  obtain ⟨sg, cap, cur, rfl, hn, hcap, hh, hsz, hcell⟩ := ownsInt H.cs (by intro e; simp [e] at hlt)
  have c4 : w.cell? ⟨g, 3, none⟩ = some (.slice (some ⟨sg, 0, none⟩) f.cells.length cap) := blk_cell H.blk 3
  have cn := hcell n x hx
  have hb := H.blk; have hgl := blk_lt hb; have hsl := blk_lt hh
  have HH := Aside0.mk H; clear H hb hh hcell hx
  show Calls Tryd.prog 40 #[.pointer (some ⟨g, 0, none⟩), .agg #[.int .i64 2, .int .i64 n, .int .i64 m]] w _
  have a4 : (w.alloc (.cells #[.int .i64 2, .int .i64 n, .int .i64 m] 43)).cell? ⟨g, 3, none⟩ = some (.slice (some ⟨sg, 0, none⟩) f.cells.length cap) := by rw [World.cell?_alloc_past _ _ _ hgl]; exact c4
  have an : (w.alloc (.cells #[.int .i64 2, .int .i64 n, .int .i64 m] 43)).cell? ⟨sg, n, none⟩ = some (.int .i64 x) := by rw [World.cell?_alloc_past _ _ _ hsl]; exact cn
  go_enter Tryd.func40, Tryd.ntmps40
  go_wp2
  refine wp_region_still_tail 9 (by kernel_rfl) (by kernel_rfl) ?_
  obtain ⟨w2, hw2⟩ : ∃ w2, w2 = (w.alloc (.cells #[.int .i64 2, .int .i64 n, .int .i64 m] 43)).drew := ⟨_, rfl⟩
  have b4 : w2.cell? ⟨g, 3, none⟩ = some (.slice (some ⟨sg, 0, none⟩) f.cells.length cap) := by rw [hw2]; exact a4
  have bn : w2.cell? ⟨sg, n, none⟩ = some (.int .i64 x) := by rw [hw2]; exact an
  have bi : w2.cell? ⟨w.heap.size, 1, none⟩ = some (.int .i64 n) := by rw [hw2]; exact blk_cell (blk_new w _) 1
  have HF := Aside0.mk (show FrOn w2 ⟨g, .slice (some ⟨sg, 0, none⟩) f.cells.length cap, vs⟩ f by rw [hw2]; exact (HH.out.alloc _).drew)
  have HM := Aside0.mk (show Mod (fun k => k ∈ Ho.blocks ⟨g, .slice (some ⟨sg, 0, none⟩) f.cells.length cap, vs⟩) w w2 by rw [hw2]; exact ((Mod.refl _ w).alloc _).drew)
  have HS := Aside0.mk (show w.heap.size ≤ w2.heap.size by exact HM.out.size)
  change wpStill _ _ (w.alloc (.cells #[.int .i64 2, .int .i64 n, .int .i64 m] 43)).drew (fun a' => wpList _ _ _ _ a' (w.alloc (.cells #[.int .i64 2, .int .i64 n, .int .i64 m] 43)).drew) _ _
  rw [← hw2]
  clear hw2 a4 an c4 cn HH
  simp only [List.take_succ_cons, List.take_zero, List.drop_succ_cons, List.drop_zero]
  repeat still_step
  try refine wpStill_nil ?_
  go_wp2_with ((with_reducible refine gate_callee (f := 38) rfl ?_); refine goesL_ (some 47) rfl rfl Tryd.func38 (by kernel_rfl) rfl #[.pointer (some ⟨g, 0, none⟩), .int .i64 x] rfl (by (try simp only [List.map_toArray, List.map_cons, List.map_nil]); first | done | rfl) ?_; refine (HF.out.push x hl).mono ?_; rintro e w' ⟨rfl, vs', hv, HF', HM'⟩; refine ⟨_, rfl, ?_⟩)
  go_ret
  have hS := HS.out
  refine ⟨rfl, vs', fun k e => (hv k e).imp_right (fun h => by omega), HF', HM.out.trans HM' (fun i hi h => ?_)⟩
  rcases h with rfl | h <;> simp [Ho.blocks, *]
end Go.Proofs.YthckiolgpgplpaaDoor
end
section
namespace Go.Proofs.YthckiolgpgplpaaDoor
open Go.RowKit Go.Proofs.YthckiolgpgplpaaDoorW.PrintWords Go.Proofs.YthckiolgpgplpaaDoorW.PrintLast Go.Proofs.YthckiolgpgplpaaDoorW.PrintMore
set_option linter.unusedVariables false
set_option linter.unusedSimpArgs false
set_option maxRecDepth 1000000
set_option maxHeartbeats 800000
theorem mark_some (w : World) (gm g nf c : Nat) (A : Option Addr) (cv iv rd t0 t1 t2 t3 ev en at_ mk vc vs : Value) (fuel ticks pr n m : Int) (hne : gm ≠ g) (hf : 0 < fuel) (hf2 : fuel ≤ 2000000) (ht0 : 0 ≤ ticks) (ht : ticks ≤ 2000000)
    (hm : w.heap[gm]? = some (.cells #[cv, .slice A nf c, iv, rd, .int .i64 fuel, .int .i64 ticks, t0, t1, t2, t3, ev, en] 67 (0, 0)))
    (hg : w.heap[g]? = some (.cells #[.int .i64 pr, at_, mk, vc, vs] 73 (0, 0))) :
    Calls Tryd.prog 39 #[.pointer (some ⟨gm, 0, none⟩), .pointer (some ⟨g, 0, none⟩), .agg #[.int .i64 24, .int .i64 n, .int .i64 m]] w fun e w' => e = .returned (.tuple #[]) ∧
      w'.heap[gm]? = some (.cells #[cv, .slice A nf c, iv, rd, .int .i64 (fuel - 1), .int .i64 (ticks + 1), .int .i64 m, .int .i64 pr, .int .i64 n, .int .i64 nf, ev, en] 67 (0, 0)) ∧
      w'.heap[g]? = some (.cells #[.int .i64 pr, at_, .int .i64 n, vc, vs] 73 (0, 0)) ∧ Mod (fun k => k = gm ∨ k = g) w w' := by
  have hfb : (fuel == 0) = false := beq_eq_false_iff_ne.mpr (by omega)
  have bm := blk_alloc hm (.cells #[.int .i64 24, .int .i64 n, .int .i64 m] 43)
  have bg := blk_alloc hg (.cells #[.int .i64 24, .int .i64 n, .int .i64 m] 43)
  have c4 : (w.alloc (.cells #[.int .i64 24, .int .i64 n, .int .i64 m] 43)).cell? ⟨gm, 4, none⟩ = some (.int .i64 fuel) := blk_cell bm 4
  have f4 : (w.alloc (.cells #[.int .i64 24, .int .i64 n, .int .i64 m] 43)).frozen? ⟨gm, 4, none⟩ = false := blk_frozen bm 4
  have c5 : (w.alloc (.cells #[.int .i64 24, .int .i64 n, .int .i64 m] 43)).cell? ⟨gm, 5, none⟩ = some (.int .i64 ticks) := blk_cell bm 5
  have f5 : (w.alloc (.cells #[.int .i64 24, .int .i64 n, .int .i64 m] 43)).frozen? ⟨gm, 5, none⟩ = false := blk_frozen bm 5
  have d2 : (w.alloc (.cells #[.int .i64 24, .int .i64 n, .int .i64 m] 43)).cell? ⟨g, 2, none⟩ = some mk := blk_cell bg 2
  have e2 : (w.alloc (.cells #[.int .i64 24, .int .i64 n, .int .i64 m] 43)).frozen? ⟨g, 2, none⟩ = false := blk_frozen bg 2
  have bi : (w.alloc (.cells #[.int .i64 24, .int .i64 n, .int .i64 m] 43)).cell? ⟨w.heap.size, 1, none⟩ = some (.int .i64 n) := blk_cell (blk_new w _) 1
  have HM := Aside0.mk hm; have HG := Aside0.mk hg; have BM := Aside0.mk bm; have BG := Aside0.mk bg
  have L1 := Aside0.mk (show w.heap.size ≠ gm from Nat.ne_of_gt (blk_lt hm)); have L2 := Aside0.mk (show w.heap.size ≠ g from Nat.ne_of_gt (blk_lt hg)); have HN := Aside0.mk hne
  clear hm hg bm bg
  go_enter Tryd.func39, Tryd.ntmps39
  go_wp2
  refine wp_region_still_tail 21 (by kernel_rfl) (by kernel_rfl) ?_
  obtain ⟨w2, hw2⟩ : ∃ w2, w2 = ((((w.alloc (.cells #[.int .i64 24, .int .i64 n, .int .i64 m] 43)).setCell ⟨gm, 4, none⟩ (.int .i64 (fuel - 1))).setCell ⟨gm, 5, none⟩ (.int .i64 (ticks + 1))).setCell ⟨g, 2, none⟩ (.int .i64 n)).drew := ⟨_, rfl⟩
  have M : w2.heap[gm]? = some (.cells #[cv, .slice A nf c, iv, rd, .int .i64 (fuel - 1), .int .i64 (ticks + 1), t0, t1, t2, t3, ev, en] 67 (0, 0)) := by rw [hw2]; exact blk_far (blk_put (blk_put BM.out 4 _ rfl) 5 _ rfl) HN.out _
  have G : w2.heap[g]? = some (.cells #[.int .i64 pr, at_, .int .i64 n, vc, vs] 73 (0, 0)) := by rw [hw2]; exact blk_put (blk_far (blk_far BG.out (Ne.symm HN.out) _) (Ne.symm HN.out) _) 2 _ rfl
  have X : w2.heap[w.heap.size]? = some (.cells #[.int .i64 24, .int .i64 n, .int .i64 m] 43 (0, 0)) := by rw [hw2]; exact blk_far (blk_far (blk_far (blk_new w _) L1.out _) L1.out _) L2.out _
  have HMod := Aside0.mk (show Mod (fun k => k = gm ∨ k = g) w w2 by rw [hw2]; exact (((((Mod.refl _ w).alloc _).setCell (p := ⟨gm, 4, none⟩) (fun _ => .inl rfl) _).setCell (p := ⟨gm, 5, none⟩) (fun _ => .inl rfl) _).setCell (p := ⟨g, 2, none⟩) (fun _ => .inr rfl) _).drew)
  change wpStill _ _ ((((w.alloc (.cells #[.int .i64 24, .int .i64 n, .int .i64 m] 43)).setCell ⟨gm, 4, none⟩ (.int .i64 (fuel - 1))).setCell ⟨gm, 5, none⟩ (.int .i64 (ticks + 1))).setCell ⟨g, 2, none⟩ (.int .i64 n)).drew (fun a' => wpList _ _ _ _ a' ((((w.alloc (.cells #[.int .i64 24, .int .i64 n, .int .i64 m] 43)).setCell ⟨gm, 4, none⟩ (.int .i64 (fuel - 1))).setCell ⟨gm, 5, none⟩ (.int .i64 (ticks + 1))).setCell ⟨g, 2, none⟩ (.int .i64 n)).drew) _ _
  rw [← hw2]
  clear hw2 c4 f4 c5 f5 d2 e2 bi
  have k1 : w2.cell? ⟨gm, 1, none⟩ = some (.slice A nf c) := blk_cell M 1
  have k2 : w2.cell? ⟨g, 0, none⟩ = some (.int .i64 pr) := blk_cell G 0
  have k3 : w2.cell? ⟨g, 2, none⟩ = some (.int .i64 n) := blk_cell G 2
  have k4 : w2.cell? ⟨w.heap.size, 2, none⟩ = some (.int .i64 m) := blk_cell X 2
  have q6 : w2.cell? ⟨gm, 6, none⟩ = some t0 := blk_cell M 6
  have q7 : w2.cell? ⟨gm, 7, none⟩ = some t1 := blk_cell M 7
  have q8 : w2.cell? ⟨gm, 8, none⟩ = some t2 := blk_cell M 8
  have q9 : w2.cell? ⟨gm, 9, none⟩ = some t3 := blk_cell M 9
  have f6 : w2.frozen? ⟨gm, 6, none⟩ = false := blk_frozen M 6
  have f7 : w2.frozen? ⟨gm, 7, none⟩ = false := blk_frozen M 7
  have f8 : w2.frozen? ⟨gm, 8, none⟩ = false := blk_frozen M 8
  have f9 : w2.frozen? ⟨gm, 9, none⟩ = false := blk_frozen M 9
  have MM := Aside0.mk M; have GG := Aside0.mk G; clear M G X
  simp only [List.take_succ_cons, List.take_zero, List.drop_succ_cons, List.drop_zero]
  repeat still_step
  try refine wpStill_nil ?_
  go_wp2
  go_end0
  have hn := Ne.symm HN.out
  exact ⟨rfl, blk_put (blk_put (blk_put (blk_put MM.out 6 _ rfl) 7 _ rfl) 8 _ rfl) 9 _ rfl, blk_far (blk_far (blk_far (blk_far GG.out hn _) hn _) hn _) hn _,
    (((HMod.out.setCell (p := ⟨gm, 6, none⟩) (fun _ => .inl rfl) _).setCell (p := ⟨gm, 7, none⟩) (fun _ => .inl rfl) _).setCell (p := ⟨gm, 8, none⟩) (fun _ => .inl rfl) _).setCell (p := ⟨gm, 9, none⟩) (fun _ => .inl rfl) _⟩
end Go.Proofs.YthckiolgpgplpaaDoor
end
section
namespace Go.Proofs.YthckiolgpgplpaaDoor
open Go.RowKit Go.Proofs.YthckiolgpgplpaaDoorW.PrintWords Go.Proofs.YthckiolgpgplpaaDoorW.PrintLast Go.Proofs.YthckiolgpgplpaaDoorW.PrintMore Go.Proofs.YthckiolgpgplpaaDoor.P
set_option linter.unusedVariables false
set_option linter.unusedSimpArgs false
section
variable {Rd : Nat → Prop} {w w' : World} {o o' : MHo} {m m' : Mc}
theorem MOn.remake {S : Nat → Prop} (H : MOn Rd w o m) (hM : Mod S w w') (hS : ∀ k, k < w.heap.size → S k → k ∈ o.own) (hblk : w'.heap[o'.g]? = some (.cells (mcells o' m') 67 (0, 0)))
    (hfr : w'.ownsRow 0 69 1 o'.fv m'.frames.length (o'.hs.map Ho.ptr)) (hev : w'.ownsRow 0 38 2 o'.ev m'.events.length (evs m'.events)) (hfrs : All2 (FrOn w') o'.hs m'.frames)
    (hnd : o'.own.Nodup) (hnew : ∀ k ∈ o'.own, k ∈ o.own ∨ w.heap.size ≤ k) (e1 : o'.cv = o.cv) (e2 : o'.iv = o.iv) (e3 : m'.codes = m.codes) (e4 : m'.input = m.input) : MOn Rd w' o' m' := by
  refine ⟨hblk, hfr, hev, hfrs, hnd, fun k hk q => ?_, fun k q => Nat.lt_of_lt_of_le (H.low k q) hM.size, ?_, ?_⟩
  · rcases hnew k hk with h1 | h1
    · exact H.rd k h1 q
    · have := H.low k q; omega
  · rw [e1, e3]
    exact Kd.V_step H.cs (fun k q hlt => hM.block k hlt (fun q' => H.rd k (hS k hlt q') q))
  · rw [e2, e4]
    exact Kd.V_step H.inp (fun k q hlt => hM.block k hlt (fun q' => H.rd k (hS k hlt q') q))
theorem g_apart (H : MOn Rd w o m) : o.fv.ownBlock ≠ some o.g ∧ o.ev.ownBlock ≠ some o.g ∧ o.g ∉ o.hs.flatMap Ho.blocks := by
  have nd := H.nd
  unfold MHo.own at nd
  exact ⟨fun q => apart nd (k := o.g) (by simp) (by simp [q]), fun q => apart nd (k := o.g) (by simp) (by simp [q]), fun q => apart nd (k := o.g) (by simp) (by simp only [List.mem_append]; exact .inr (.inr q))⟩
theorem fv_apart (H : MOn Rd w o m) (k : Nat) (e : o.fv.ownBlock = some k) : o.ev.ownBlock ≠ some k ∧ k ∉ o.hs.flatMap Ho.blocks := by
  have nd := H.nd
  unfold MHo.own at nd
  have nd2 := (List.nodup_append.1 nd).2.1
  exact ⟨fun q => apart nd2 (k := k) (by simp [e]) (by simp [q]), fun q => apart nd2 (k := k) (by simp [e]) (by simp only [List.mem_append]; exact .inr q)⟩
theorem ev_apart (H : MOn Rd w o m) (k : Nat) (e : o.ev.ownBlock = some k) : k ∉ o.hs.flatMap Ho.blocks := by
  have nd := H.nd
  unfold MHo.own at nd
  have nd2 := (List.nodup_append.1 (List.nodup_append.1 nd).2.1).2.1
  exact fun q => apart nd2 (k := k) (by simp [e]) q
/-- The events' row has turned, and cells of the machine's own block. -/
theorem MOn.setEv {v1 : Value} (H : MOn Rd w o m) (hM : Mod (fun k => k = o.g ∨ o.ev.ownBlock = some k) w w') (hv : ∀ k, v1.ownBlock = some k → o.ev.ownBlock = some k ∨ w.heap.size ≤ k)
    (hblk : w'.heap[o.g]? = some (.cells (mcells { o with ev := v1 } m') 67 (0, 0))) (hev : w'.ownsRow 0 38 2 v1 m'.events.length (evs m'.events)) (e1 : m'.codes = m.codes) (e2 : m'.frames = m.frames) (e3 : m'.input = m.input) :
    MOn Rd w' { o with ev := v1 } m' := by
  have ga := g_apart H
  have hnew : ∀ k ∈ MHo.own { o with ev := v1 }, k ∈ o.own ∨ w.heap.size ≤ k := by
    intro k hk
    simp only [MHo.own, List.mem_append, List.mem_singleton, Option.mem_toList] at hk ⊢
    rcases hk with hk | hk | hk | hk
    · exact .inl (.inl hk)
    · exact .inl (.inr (.inl hk))
    · exact (hv k hk).imp_left (fun h => .inr (.inr (.inl h)))
    · exact .inl (.inr (.inr (.inr hk)))
  refine H.remake (o' := { o with ev := v1 }) hM (fun k _ h => ?_) hblk ?_ hev ?_ ?_ hnew rfl rfl e1 e3
  · rcases h with rfl | h
    · simp [MHo.own]
    · simp [MHo.own, h]
  · rw [e2]
    refine own_move H.fr (fun k q => hM.block k (H.fr.lt k q).2 ?_)
    rintro (rfl | q')
    · exact ga.1 q
    · exact (fv_apart H k q).1 q'
  · rw [e2]
    refine forall2_kept H.frs (fun k q => hM.block k (forall2_lt H.frs k q) ?_)
    rintro (rfl | q')
    · exact ga.2.2 q
    · exact ev_apart H k q' q
  · have nd := H.nd
    have hN := H.lt
    unfold MHo.own at nd hN ⊢
    rw [← List.append_assoc] at nd hN ⊢
    exact nodup_rep nd hN hv
theorem setEv_sub {v1 : Value} (hv : ∀ k, v1.ownBlock = some k → o.ev.ownBlock = some k ∨ w.heap.size ≤ k) : Sub w o { o with ev := v1 } := by
  refine ⟨rfl, fun k hk => ?_⟩
  simp only [MHo.own, List.mem_append, List.mem_singleton, Option.mem_toList] at hk ⊢
  rcases hk with hk | hk | hk | hk
  · exact .inl (.inl hk)
  · exact .inl (.inr (.inl hk))
  · exact (hv k hk).imp_left (fun h => .inr (.inr (.inl h)))
  · exact .inl (.inr (.inr (.inr hk)))
theorem fresh_of {v v1 : Value} {n : Nat} (h : v1.ownBlock = v.ownBlock ∨ ∃ b, v1.ownBlock = some b ∧ n ≤ b) : ∀ k, v1.ownBlock = some k → v.ownBlock = some k ∨ n ≤ k := by
  intro k hk
  rcases h with h | ⟨b, h, hb⟩
  · exact .inl (h ▸ hk)
  · have : b = k := Option.some.inj (h.symm.trans hk)
    exact .inr (this ▸ hb)
theorem event_on (H : MOn Rd w o m) (kd x : Int) (hl : m.events.length + 1 ≤ 4398046511104) :
    Calls Tryd.prog 36 #[o.ptr, .int .i64 kd, .int .i64 x] w fun e w' => e = .returned (.tuple #[]) ∧ ∃ v1, (∀ k, v1.ownBlock = some k → o.ev.ownBlock = some k ∨ w.heap.size ≤ k) ∧
      MOn Rd w' { o with ev := v1 } { m with events := m.events ++ [(kd, x)] } ∧ Mod (fun k => k = o.g ∨ o.ev.ownBlock = some k) w w' := by
  have ga := g_apart H
  refine (event_calls w o.g m.events.length o.ev (.bool m.ended) #[o.cv, o.fv, o.iv, .int .i64 (m.read : Int), .int .i64 m.fuel, .int .i64 m.ticks, .int .i64 m.tick.1, .int .i64 m.tick.2.1, .int .i64 m.tick.2.2.1, .int .i64 m.tick.2.2.2] rfl 67 kd x (evs m.events) H.blk H.ev ga.2.1 hl).mono ?_
  rintro e w' ⟨rfl, v1, w1, hown, hgr, hat, rfl⟩
  have hv := fresh_of hat
  have hv1 : v1.ownBlock ≠ some o.g := fun e => by
    rcases hv o.g e with h | h
    · exact ga.2.1 h
    · have := blk_lt H.blk; omega
  have hM : Mod (fun k => k = o.g ∨ o.ev.ownBlock = some k) w (w1.setCell ⟨o.g, 10, none⟩ v1) := ((Mod.refl _ w).grown hgr (fun k e _ => .inr e)).setCell (p := ⟨o.g, 10, none⟩) (fun _ => .inl rfl) _
  refine ⟨rfl, v1, hv, H.setEv hM hv ?_ ?_ rfl rfl rfl, hM⟩
  · exact blk_set (blk_grown H.blk hgr (Ne.symm ga.2.1)) 10 v1
  · show World.ownsRow _ 0 38 2 v1 (m.events ++ [(kd, x)]).length (evs (m.events ++ [(kd, x)]))
    rw [evs_snoc, show (m.events ++ [(kd, x)]).length = m.events.length + 1 by simp]
    exact own_setCell hown (p := ⟨o.g, 10, none⟩) (fun e => hv1 e.symm) _
theorem end_on (H : MOn Rd w o m) (kd x : Int) (hl : m.events.length + 1 ≤ 4398046511104) :
    Calls Tryd.prog 41 #[o.ptr, .int .i64 kd, .int .i64 x] w (MPost Rd w o (m.endM kd x) (.tuple #[])) := by
  have ga := g_apart H
  refine (end_calls w o.g m.events.length o.ev m.ended #[o.cv, o.fv, o.iv, .int .i64 (m.read : Int), .int .i64 m.fuel, .int .i64 m.ticks, .int .i64 m.tick.1, .int .i64 m.tick.2.1, .int .i64 m.tick.2.2.1, .int .i64 m.tick.2.2.2] rfl 67 kd x (evs m.events) H.blk H.ev ga.2.1 hl).mono ?_
  rintro e w' ⟨rfl, v1, w1, hown, hgr, hat, rfl⟩
  have hv := fresh_of hat
  have hv1 : v1.ownBlock ≠ some o.g := fun e => by
    rcases hv o.g e with h | h
    · exact ga.2.1 h
    · have := blk_lt H.blk; omega
  have hM : Mod (fun k => k = o.g ∨ o.ev.ownBlock = some k) w ((w1.setCell ⟨o.g, 10, none⟩ v1).setCell ⟨o.g, 11, none⟩ (.bool true)) :=
    (((Mod.refl _ w).grown hgr (fun k e _ => .inr e)).setCell (p := ⟨o.g, 10, none⟩) (fun _ => .inl rfl) _).setCell (p := ⟨o.g, 11, none⟩) (fun _ => .inl rfl) _
  refine ⟨rfl, { o with ev := v1 }, setEv_sub hv, H.setEv (m' := m.endM kd x) hM hv ?_ ?_ rfl rfl rfl, hM.mono (fun k hk h => ?_)⟩
  · exact blk_set (blk_set (blk_grown H.blk hgr (Ne.symm ga.2.1)) 10 v1) 11 _
  · show World.ownsRow _ 0 38 2 v1 (m.events ++ [(kd, x)]).length (evs (m.events ++ [(kd, x)]))
    rw [evs_snoc, show (m.events ++ [(kd, x)]).length = m.events.length + 1 by simp]
    exact own_setCell (own_setCell hown (p := ⟨o.g, 10, none⟩) (fun e => hv1 e.symm) _) (p := ⟨o.g, 11, none⟩) (fun e => hv1 e.symm) _
  · rcases h with rfl | h
    · simp [MHo.own]
    · simp [MHo.own, h]
/-- A mark, where there is fuel. -/
theorem mark_on (H : MOn Rd w o m) {hs0 : List Ho} {h : Ho} {r : List Fr} {f : Fr} (ho : o.hs = hs0 ++ [h]) (hf : m.frames = r ++ [f]) (n k : Int) (h0 : 0 < m.fuel) (h1 : m.fuel ≤ 1048576) (t0 : 0 ≤ m.ticks) (t1 : m.ticks ≤ 1048576) :
    Calls Tryd.prog 39 #[o.ptr, h.ptr, .agg #[.int .i64 24, .int .i64 n, .int .i64 k]] w (MPost Rd w o { m with frames := r ++ [{ f with mark := n }], fuel := m.fuel - 1, ticks := m.ticks + 1, tick := (k, f.pr, n, (r.length + 1 : Nat)) } (.tuple #[])) := by
  have ga := g_apart H
  have HF := H.top ho hf
  have hap := top_apart H ho
  have hg : h.g ≠ o.g := (hap h.g (by simp [Ho.blocks])).1
  obtain ⟨A, l, c, hfv⟩ : ∃ A l c, o.fv = .slice A l c := by
    rcases H.fr.2 with ⟨h, _⟩ | ⟨_, _, _, h, _⟩ <;> exact ⟨_, _, _, h⟩
  have hl : l = m.frames.length := by
    rcases H.fr.2 with ⟨h, e⟩ | ⟨_, _, _, h, _⟩
    · rw [h] at hfv; have := (Value.slice.inj hfv).2.1; omega
    · rw [h] at hfv; exact (Value.slice.inj hfv).2.1.symm
  subst hl
  refine (mark_some w o.g h.g m.frames.length c A o.cv o.iv (.int .i64 m.read) (.int .i64 m.tick.1) (.int .i64 m.tick.2.1) (.int .i64 m.tick.2.2.1) (.int .i64 m.tick.2.2.2) o.ev (.bool m.ended) (.int .i64 f.at_) (.int .i64 f.mark) h.vc h.vs m.fuel m.ticks f.pr n k (Ne.symm hg) h0 (by omega) t0 (by omega) (by rw [← hfv]; exact H.blk) HF.blk).mono ?_
  rintro e w' ⟨rfl, hb, hb2, hM⟩
  have hfl : m.frames.length = r.length + 1 := by rw [hf]; simp
  have hM2 : Mod (fun k => k ∈ o.own) w w' := hM.mono (fun k hk h' => by
    rcases h' with rfl | rfl
    · simp [MHo.own]
    · exact top_own ho _ (by simp [Ho.blocks]))
  refine ⟨rfl, o, Sub.refl _ _, H.remake hM2 (fun k _ h => h) ?_ ?_ ?_ ?_ H.nd (fun k h => .inl h) rfl rfl rfl rfl, hM2⟩
  · rw [hb]
    simp only [mcells, hfv, hfl]
  · show World.ownsRow w' 0 69 1 o.fv (r ++ [{ f with mark := n }]).length (o.hs.map Ho.ptr)
    have e5 : (r ++ [{ f with mark := n }]).length = m.frames.length := by rw [hfl]; simp
    rw [e5]
    refine own_move H.fr (fun k q => hM.block k (H.fr.lt k q).2 ?_)
    rintro (rfl | rfl)
    · exact ga.1 q
    · exact (hap _ (by simp [Ho.blocks])).2.1 q
  · refine own_move H.ev (fun k q => hM.block k (H.ev.lt k q).2 ?_)
    rintro (rfl | rfl)
    · exact ga.2.1 q
    · exact (hap _ (by simp [Ho.blocks])).2.2.1 q
  · have hfrs := H.frs
    rw [ho, hf] at hfrs
    obtain ⟨f1, f2⟩ := forall2_split hfrs
    have hgb := (g_apart H).2.2
    rw [ho, List.flatMap_append, List.mem_append] at hgb
    rw [ho]
    refine forall2_snoc (forall2_kept f1 (fun k q => hM.block k (forall2_lt f1 k q) ?_)) ⟨hb2, own_move f2.cs (fun k q => hM.block k (f2.cs.lt k q).2 ?_), own_move f2.st (fun k q => hM.block k (f2.st.lt k q).2 ?_), f2.nd⟩
    · rintro (rfl | rfl)
      · exact hgb (.inl q)
      · exact (hap _ (by simp [Ho.blocks])).2.2.2 q
    · rintro (rfl | rfl)
      · exact hgb (.inr (by simp [Ho.blocks, q]))
      · exact f2.vc_ne q
    · rintro (rfl | rfl)
      · exact hgb (.inr (by simp [Ho.blocks, q]))
      · exact f2.vs_ne q
end
end Go.Proofs.YthckiolgpgplpaaDoor
end
section
namespace Go.Proofs.YthckiolgpgplpaaDoor
open Go.RowKit Go.Proofs.YthckiolgpgplpaaDoorW.PrintWords Go.Proofs.YthckiolgpgplpaaDoorW.PrintLast Go.Proofs.YthckiolgpgplpaaDoorW.PrintMore Go.Proofs.YthckiolgpgplpaaDoor.P
set_option linter.unusedVariables false
set_option linter.unusedSimpArgs false
set_option maxRecDepth 1000000
set_option maxHeartbeats 400000
theorem info69 : (Tryd.prog.info? 69).map (fun i => (i.zero, i.size, i.bytes)) = some (some (.pointer none), 1, 8) := by kernel_rfl
theorem size2 : (Tryd.prog.info? 2).map (·.size) = some 1 := by kernel_rfl
theorem Mod.setRow {S : Nat → Prop} {a w : World} (h : Mod S a w) {g : Nat} (hp : g < a.heap.size → S g) (cs : Array Value) : Mod S a (w.setRow g cs) :=
  h.trans (S1 := fun k => k = g) ⟨rfl, rfl, rfl, by simp [World.setRow], fun k hk hn => setRow_other w g k cs hn⟩ (fun i hi e => by subst e; exact hp hi)
theorem setRow_at {w : World} {g : Nat} {cur : Array Value} {t : TypeId} (h : w.heap[g]? = some (.cells cur t (0, 0))) (cs : Array Value) : (w.setRow g cs).heap[g]? = some (.cells cs t (0, 0)) := by
  simp [World.setRow, Array.getElem?_modify, h]
theorem wpList_copy_ints {W : World} {ops : Array Oper} {rest : List Oper} {o : Oper} {a : Act} {Q : Exit → Act → World → Prop} (hgd : o.guard = none) (d s : Operand)
    (ho : o.op = .call { callee := .builtin .copy, args := #[d, s], argTypes := #[23, 23] }) (g c : Nat) (hd : a.eval d = .slice (some ⟨g, 0, none⟩) c c) (va : Value) (args : List Int) (hs : a.eval s = va)
    (hva : W.ownsRow 0 2 1 va args.length (ints args)) (hl : args.length ≤ c) (cur : List Int) (hc : cur.length = c) (hg : W.heap[g]? = some (.cells (ints cur).toArray 2 (0, 0)))
    (h : ∀ W', W'.heap[g]? = some (.cells (ints (args ++ cur.drop args.length)).toArray 2 (0, 0)) → Mod (fun k => k = g) W W' → wpList Tryd.prog ops Q rest (a.put o.dst (goInt args.length)) W') : wpList Tryd.prog ops Q (o :: rest) a W := by
  rcases Nat.eq_zero_or_pos args.length with h0 | h0
  · obtain rfl : args = [] := List.length_eq_zero_iff.1 h0
    obtain ⟨A, l, cp, rfl⟩ : ∃ A l c, va = .slice A l c := by
      rcases hva.2 with ⟨h, _⟩ | ⟨_, _, _, h, _⟩ <;> exact ⟨_, _, _, h⟩
    have hl0 : l = 0 := by
      rcases hva.2 with ⟨h, _⟩ | ⟨_, _, _, h, _⟩
      · exact (Value.slice.inj h).2.1
      · exact (Value.slice.inj h).2.1
    subst hl0
    refine wpList_copy_nothing hgd d s 23 23 ho 2 Tryd.underlying23 size2 _ _ _ _ _ _ hd hs (by simp) ?_
    exact h W (by simpa using hg) (Mod.refl _ _)
  · obtain ⟨sg, cap, cu, rfl, hn2, hcap, hh, hsz, hcell⟩ := ownsInt hva (by intro e; simp [e] at h0)
    refine wpList_copy_own hgd d s 23 23 ho 2 Tryd.underlying23 size2 g 0 c c ⟨sg, 0, none⟩ args.length cap hd hs _ 2 hg (ints args) (by simp only [ints, List.length_map]; exact (Nat.min_eq_left hl).symm) (fun j v hv => ?_) (by simp [ints]; omega) (fun v hv => ?_) ?_
    · simp only [ints, List.getElem?_map, Option.map_eq_some_iff] at hv
      obtain ⟨x, hx, rfl⟩ := hv
      have := hcell j x hx
      unfold Addr.add
      by_cases hj : j = 0
      · subst hj; simpa using this
      · simpa [hj] using this
    · simp only [ints, List.mem_map] at hv
      obtain ⟨x, _, rfl⟩ := hv
      rfl
    · have e1 : (ints args).length = args.length := by simp [ints]
      rw [e1]
      refine h _ ?_ ((Mod.refl (fun k => k = g) W).setRow (g := g) (fun _ => rfl) _)
      rw [setRow_at hg]
      simp [ints]
section
variable {Rd : Nat → Prop} {w : World} {o : MHo} {m : Mc}
theorem made_ints (c : Nat) : madeCells #[Value.int .i64 0] c = (ints (List.replicate c 0)).toArray := by
  apply Array.toList_inj.1
  rw [toList_madeCells_one]
  simp [ints]
theorem frOn_new {W : World} {a b c : Nat} {l : List Int} {pr at_ mk : Int} (hb : W.heap[b]? = some (.cells #[.int .i64 pr, .int .i64 at_, .int .i64 mk, .slice (some ⟨a, 0, none⟩) c c, .slice none 0 0] 73 (0, 0))) (ha : W.heap[a]? = some (.cells (ints l).toArray 2 (0, 0))) (hl : l.length = c) (hc : c ≤ 1000000) (hab : a ≠ b) :
    FrOn W ⟨b, .slice (some ⟨a, 0, none⟩) c c, .slice none 0 0⟩ ⟨pr, at_, mk, l, []⟩ := by
  subst hl
  refine ⟨hb, ⟨by simp [ints], .inr ⟨a, l.length, _, rfl, Nat.zero_le _, ha, Nat.le_refl _, by simp only [maxLen]; omega, by simp [ints], by simp [ints, ← List.map_take]⟩⟩, ⟨rfl, .inl ⟨rfl, rfl⟩⟩, ?_⟩
  simp [Ho.blocks, Value.ownBlock]
  exact fun e => hab e.symm
theorem begin_fin (H : MOn Rd w o m) {W w1 : World} {v1 : Value} (hW : Mod (fun _ => False) w W) {h : Ho} {f : Fr} (HFr : FrOn W h f) (hnew : ∀ k ∈ h.blocks, w.heap.size ≤ k) (hgr : W.grownBy w1 o.fv.ownBlock)
    (hown : w1.ownsRow 0 69 1 v1 (m.frames.length + 1) (o.hs.map Ho.ptr ++ [h.ptr])) (hat : v1.ownBlock = o.fv.ownBlock ∨ ∃ b, v1.ownBlock = some b ∧ W.heap.size ≤ b) :
    MPost Rd w o { m with frames := m.frames ++ [f] } (.tuple #[]) (.returned (.tuple #[])) (w1.setCell ⟨o.g, 1, none⟩ v1) := by
  have HMW : MOn Rd W o m := H.mod hW (fun _ _ h => h)
  have ga := g_apart H
  have hv := fresh_of hat
  have hgl := blk_lt H.blk
  have hsz := hW.size
  have hv1 : v1.ownBlock ≠ some o.g := fun e => by
    rcases hv o.g e with h | h
    · exact ga.1 h
    · omega
  have hM1 : Mod (fun k => o.fv.ownBlock = some k) W w1 := (Mod.refl _ W).grown hgr (fun k e _ => e)
  have hM2 : Mod (fun k => k = o.g ∨ o.fv.ownBlock = some k) W (w1.setCell ⟨o.g, 1, none⟩ v1) := (hM1.mono (fun k _ h => .inr h)).setCell (p := ⟨o.g, 1, none⟩) (fun _ => .inl rfl) _
  have hM3 : Mod (fun k => k = o.g ∨ o.fv.ownBlock = some k) w (w1.setCell ⟨o.g, 1, none⟩ v1) := (hW.mono (fun _ _ h => h.elim)).trans hM2 (fun _ _ h => h)
  have hown2 : MHo.own { o with fv := v1, hs := o.hs ++ [h] } = ([o.g] ++ (v1.ownBlock.toList ++ (o.ev.ownBlock.toList ++ o.hs.flatMap Ho.blocks))) ++ h.blocks := by simp [MHo.own]
  have hS : ∀ k, k = o.g ∨ o.fv.ownBlock = some k → k ∈ o.own := fun k h => by
    rcases h with rfl | h
    · simp [MHo.own]
    · simp [MHo.own, h]
  have hn : ∀ k ∈ MHo.own { o with fv := v1, hs := o.hs ++ [h] }, k ∈ o.own ∨ w.heap.size ≤ k := by
    intro k hk
    rw [hown2, List.mem_append] at hk
    rcases hk with hk | hk
    · simp only [MHo.own, List.mem_append, List.mem_singleton, Option.mem_toList] at hk ⊢
      rcases hk with hk | hk | hk
      · exact .inl (.inl hk)
      · rcases hv k hk with q | q
        · exact .inl (.inr (.inl q))
        · exact .inr (Nat.le_trans hsz q)
      · exact .inl (.inr (.inr hk))
    · exact .inr (hnew k hk)
  refine ⟨rfl, { o with fv := v1, hs := o.hs ++ [h] }, ⟨rfl, hn⟩, H.remake hM3 (fun k _ => hS k) ?_ ?_ ?_ ?_ ?_ hn rfl rfl rfl rfl, hM3.mono (fun k _ => hS k)⟩
  · exact blk_set (blk_grown HMW.blk hgr (Ne.symm ga.1)) 1 v1
  · show World.ownsRow _ 0 69 1 v1 (m.frames ++ [f]).length ((o.hs ++ [h]).map Ho.ptr)
    rw [show (m.frames ++ [f]).length = m.frames.length + 1 by simp, List.map_append]
    exact own_setCell hown (p := ⟨o.g, 1, none⟩) (fun e => hv1 e.symm) _
  · refine own_move HMW.ev (fun k q => hM2.block k (HMW.ev.lt k q).2 ?_)
    rintro (rfl | q')
    · exact ga.2.1 q
    · exact (fv_apart H k q').1 q
  · refine forall2_snoc (forall2_kept HMW.frs (fun k q => hM2.block k (forall2_lt HMW.frs k q) ?_)) (HFr.mod hM2 (fun k hk => ?_))
    · rintro (rfl | q')
      · exact ga.2.2 q
      · exact (fv_apart H k q').2 q
    · have := hnew k hk
      rintro (rfl | q')
      · omega
      · have := (H.fr.lt k q').2; omega
  · rw [hown2]
    have nd := H.nd
    have hN := H.lt
    unfold MHo.own at nd hN
    rw [List.nodup_append]
    refine ⟨nodup_rep nd hN (fun k e => (hv k e).imp_right (Nat.le_trans hsz)), HFr.nd, fun a ha b hb e => ?_⟩
    subst e
    have h1 := hnew a hb
    simp only [List.mem_append, List.mem_singleton, Option.mem_toList] at ha
    have h2 := HFr.lt a hb
    rcases ha with rfl | ha | ha
    · omega
    · rcases hv a ha with q | q
      · have := (H.fr.lt a q).2; omega
      · omega
    · have := hN a (by simp only [List.mem_append, List.mem_singleton, Option.mem_toList]; exact .inr (.inr ha)); omega
theorem begin_on (H : MOn Rd w o m) (k : Int) (k0 : 0 ≤ k) (k1 : k < m.codes.length) (c : Nat) (hc : (rd_T46 m.codes k).f1 = c) (hc1 : c ≤ 65536) (va : Value) (args : List Int) (hva : w.ownsRow 0 2 1 va args.length (ints args)) (hargs : args.length ≤ c) (hl : m.frames.length + 1 ≤ 1000) :
    Calls Tryd.prog 33 #[o.ptr, .int .i64 k, va] w (MPost Rd w o (m.beginM k args) (.tuple #[])) := by
  obtain ⟨A, cc, hcv, hcl, HF⟩ := H.cs
  obtain ⟨ad, A0, c0, e, hx0, hx1, hx2, hx3, hl0, hi0⟩ := at_T46 (Kd.F_now HF) k k0 k1
  subst e
  rw [hc] at hx1
  have b0 : w.cell? ⟨o.g, 0, none⟩ = some (.slice (some ad) m.codes.length cc) := by rw [blk_cell H.blk, ← hcv]; rfl
  have p1 := eq_true k0; have q1 := eq_true k1
  have HH := Aside0.mk H; have HC := Aside0.mk hc; have HVA := Aside0.mk hva; have HL := Aside0.mk hl; have HA := Aside0.mk hargs
  clear H hc hva hl hcv HF hi0 hx0 hx2 hx3 hl0 hcl hargs
  show Calls Tryd.prog 33 #[.pointer (some ⟨o.g, 0, none⟩), .int .i64 k, va] w _
  go_enter Tryd.func33, Tryd.ntmps33
  obtain ⟨i2, hi2, hz2⟩ := Option.map_eq_some_iff.1 info2
  simp only [Prod.mk.injEq] at hz2
  have hva2 : ((w.alloc (.cells (madeCells #[.int .i64 0] c) 2)).alloc (.cells #[.int .i64 k, .int .i64 0, .int .i64 (-1), .slice (some ⟨w.heap.size, 0, none⟩) c c, .slice none 0 0] 73)).ownsRow 0 2 1 va args.length (ints args) := (HVA.out.alloc _).alloc _
  have hgw : ((w.alloc (.cells (madeCells #[.int .i64 0] c) 2)).alloc (.cells #[.int .i64 k, .int .i64 0, .int .i64 (-1), .slice (some ⟨w.heap.size, 0, none⟩) c c, .slice none 0 0] 73)).heap[w.heap.size]? = some (.cells (ints (List.replicate c 0)).toArray 2 (0, 0)) := by
    rw [← made_ints]; exact blk_alloc (blk_new w _) _
  have hgf : ((w.alloc (.cells (madeCells #[.int .i64 0] c) 2)).alloc (.cells #[.int .i64 k, .int .i64 0, .int .i64 (-1), .slice (some ⟨w.heap.size, 0, none⟩) c c, .slice none 0 0] 73)).heap[w.heap.size + 1]? = some (.cells #[.int .i64 k, .int .i64 0, .int .i64 (-1), .slice (some ⟨w.heap.size, 0, none⟩) c c, .slice none 0 0] 73 (0, 0)) := by
    have := blk_new (w.alloc (.cells (madeCells #[.int .i64 0] c) 2)) (.cells #[.int .i64 k, .int .i64 0, .int .i64 (-1), .slice (some ⟨w.heap.size, 0, none⟩) c c, .slice none 0 0] 73)
    rwa [show (w.alloc (.cells (madeCells #[.int .i64 0] c) 2)).heap.size = w.heap.size + 1 by simp] at this
  have HVA2 := Aside0.mk hva2; have HGW := Aside0.mk hgw; have HGF := Aside0.mk hgf
  clear hva2 hgw hgf
  have HHM := Aside0.mk ((HH.out.alloc (.cells (madeCells #[.int .i64 0] c) 2)).alloc (.cells #[.int .i64 k, .int .i64 0, .int .i64 (-1), .slice (some ⟨w.heap.size, 0, none⟩) c c, .slice none 0 0] 73))
  have hgl := blk_lt HH.out.blk
  obtain ⟨fA, fl, fc, hfv⟩ : ∃ A l c, o.fv = .slice A l c := by
    rcases HH.out.fr.2 with ⟨h, _⟩ | ⟨_, _, _, h, _⟩ <;> exact ⟨_, _, _, h⟩
  have HFV := Aside0.mk hfv; clear hfv
  go_wp2_with (first
    | (with_reducible refine wpList_make_row w rfl (.tmp 16) (.tmp 16) 23 rfl 2 i2 (.int .i64 0) Tryd.underlying23 hi2 hz2.1 hz2.2.1 rfl .i64 .i64 c rfl rfl (by rw [hz2.2.2]; omega) (by omega) ?_)
    | (with_reducible refine wpList_copy_ints rfl (.tmp 23) (.tmp 24) rfl w.heap.size c rfl va args rfl HVA2.out HA.out (List.replicate c 0) (by simp) HGW.out ?cp))
  case cp =>
    intro W hb hM
    have HX := Aside0.mk (HHM.out.mod hM (fun k hk e => by subst e; rcases hk with hk | hk; · exact Nat.lt_irrefl _ (HH.out.lt _ hk)
                                                           · exact Nat.lt_irrefl _ (HH.out.low _ hk)))
    have hne : w.heap.size + 1 ≠ w.heap.size := by omega
    have HFR := Aside0.mk (frOn_new (l := args ++ List.replicate (c - args.length) 0) ((hM.block _ (by simp) hne).trans HGF.out) hb (by have := HA.out; simp; omega) (by omega) (by omega))
    have HMM := Aside0.mk (show Mod (fun _ => False) w W from (((Mod.refl _ w).alloc _).alloc _).trans hM (fun i hi e => by subst e; exact absurd hi (Nat.lt_irrefl _)))
    have x1 : W.cell? ⟨o.g, 1, none⟩ = some o.fv := by rw [blk_cell HX.out.blk]; rfl
    rw [HFV.out] at x1
    clear hb hM hne
    go_wp2_with (at_builtin; refine print_append_cells 0 rfl (.tmp 30) (.tmp 32) 65 69 (.pointer none) 1 8 rfl Tryd.underlying65 info69 rfl (by decide) (by decide) o.fv m.frames.length (o.hs.map Ho.ptr) [.pointer (some ⟨w.heap.size + 1, 0, none⟩)] HFV.out.symm rfl rfl ?c2 HX.out.fr (Below.refl 0 _) (Nat.zero_le _) (by have := HL.out; omega) ?grow)
    case c2 => intro u hu; simp at hu; subst hu; rfl
    case grow =>
      intro v1 w1 hown _ hgrow hat
      obtain ⟨g1, cap1, rfl⟩ : ∃ g1 cap1, v1 = .slice (some ⟨g1, 0, none⟩) (m.frames.length + 1) cap1 := by
        rcases hown.2 with ⟨_, h⟩ | ⟨g1, cap1, _, h, _⟩
        · omega
        · exact ⟨g1, cap1, h⟩
      have HO := Aside0.mk hown; have HG := Aside0.mk hgrow; have HAT := Aside0.mk hat
      have hb := blk_grown HX.out.blk hgrow (Ne.symm (g_apart HX.out).1)
      have y1 : w1.cell? ⟨o.g, 1, none⟩ = some o.fv := by rw [blk_cell hb]; rfl
      have y2 : w1.frozen? ⟨o.g, 1, none⟩ = false := blk_frozen hb 1
      clear hown hgrow hat hb
      go_wp2
      go_end0
      have := begin_fin HH.out HMM.out HFR.out (fun k hk => by simp [Ho.blocks, Value.ownBlock] at hk; omega) HG.out HO.out HAT.out
      simpa [Mc.beginM, frame0, HC.out] using this
end
end Go.Proofs.YthckiolgpgplpaaDoor
end
section
namespace Go.Proofs.YthckiolgpgplpaaDoor
open Go.RowKit Go.Proofs.YthckiolgpgplpaaDoorW.PrintWords Go.Proofs.YthckiolgpgplpaaDoorW.PrintLast Go.Proofs.YthckiolgpgplpaaDoorW.PrintMore Go.Proofs.YthckiolgpgplpaaDoor.P
set_option linter.unusedVariables false
set_option linter.unusedSimpArgs false
set_option maxRecDepth 1000000
set_option maxHeartbeats 400000
/-- append(nil, x...), x a row that is read: a row anew. -/
theorem wpList_append_fresh {W : World} {ops : Array Oper} {rest : List Oper} {op : Oper} {a : Act} {Q : Exit → Act → World → Prop} (hgd : op.guard = none) (s x : Operand) (t : TypeId)
    (ho : op.op = .call { callee := .builtin .append, args := #[s, x], argTypes := #[t, t] }) (e : TypeId) (z : Value) (size bytes : Nat) (ht : Tryd.prog.underlying t = some (.slice e))
    (hinfo : (Tryd.prog.info? e).map (fun i => (i.zero, i.size, i.bytes)) = some (some z, size, bytes)) (hz : z.cells.size = size) (hs0 : 0 < size)
    (hs : a.eval s = .slice none 0 0) (A : Option Addr) (n c : Nat) (hx : a.eval x = .slice A n c) (news : List Value) (hl : news.length = n * size) (hA : A = none → n = 0 ∧ c = 0)
    (hnews : ∀ ad, A = some ad → ∀ j u, news[j]? = some u → W.cell? (ad.add j) = some u) (h1 : ∀ u ∈ news, u.oneCell' = true) (hn : n * bytes ≤ 140737488355328) (hn2 : n ≤ 140737488355328)
    (h : ∀ v1 w1, w1.ownsRow 0 e size v1 n news → W.grownBy w1 none → (∀ k, v1.ownBlock = some k → W.heap.size ≤ k) → wpList Tryd.prog ops Q rest (a.put op.dst v1) w1) : wpList Tryd.prog ops Q (op :: rest) a W := by
  obtain ⟨i0, hi, hzz⟩ := Option.map_eq_some_iff.1 hinfo
  simp only [Prod.mk.injEq] at hzz
  obtain ⟨hz0, hz1, hz2⟩ := hzz
  have hown : W.ownsRow 0 e size (.slice none 0 0) 0 [] := ⟨by simp, .inl ⟨rfl, rfl⟩⟩
  cases A with
  | none =>
    obtain ⟨rfl, rfl⟩ := hA rfl
    obtain rfl : news = [] := List.length_eq_zero_iff.1 (by simpa using hl)
    refine wpList_append_own_none hgd s x t ho 0 e i0 size ht hi (.slice none 0 0) 0 [] hs hown hx ?_
    exact h _ W hown ⟨rfl, rfl, rfl, Nat.le_refl _, fun _ _ _ => rfl⟩ (fun k hk => by simp [Value.ownBlock] at hk)
  | some ad =>
    refine wpList_append_own_at W hgd s x t ho 0 e i0 z size bytes ht hi hz0 hz1 hz2 hz hs0 (.slice none 0 0) 0 [] hs hown ad n c news hx hl (hnews ad rfl) h1 (by simp only [maxLen]; omega) (by rw [Nat.zero_add]; exact hn) (Nat.zero_le _) ?_
    intro v1 w1 ho1 hg _ hat
    refine h v1 w1 (by simpa using ho1) hg (fun k hk => ?_)
    rcases hat with hat | hat
    · rw [hat] at hk; simp [Value.ownBlock] at hk
    · have := Option.some.inj (hat.symm.trans hk); omega
theorem own_slice {w : World} {v : Value} {l : List Int} (h : w.ownsRow 0 2 1 v l.length (ints l)) : ∃ A c, v = .slice A l.length c ∧ l.length ≤ c ∧ c ≤ 9223372036854775807 ∧ (A = none → l.length = 0 ∧ c = 0) ∧ ∀ ad, A = some ad → ∃ sg, ad = ⟨sg, 0, none⟩ ∧ v.ownBlock = some sg ∧ sg < w.heap.size ∧ ∀ j x, l[j]? = some x → w.cell? ⟨sg, j, none⟩ = some (.int .i64 x) := by
  have hlt := h.lt
  rcases h.2 with ⟨rfl, h0⟩ | ⟨sg, cap, cur, rfl, _, hh, hn, hcap, hsz, htk⟩
  · exact ⟨none, 0, by rw [h0], by omega, by omega, fun _ => ⟨h0, rfl⟩, fun ad e => by cases e⟩
  · refine ⟨_, cap, rfl, hn, by simp only [maxLen] at hcap; omega, (fun e => by cases e), fun ad e => ?_⟩
    cases e
    refine ⟨sg, rfl, rfl, blk_lt hh, fun j x hj => ?_⟩
    have hlt := (List.getElem?_eq_some_iff.1 hj).1
    rw [blk_cell hh, ← Array.getElem?_toList]
    have e1 : (cur.toList.take (l.length * 1))[j]? = some (.int .i64 x) := by rw [htk]; simp [ints, hj]
    rw [List.getElem?_take, if_pos (by omega)] at e1
    exact e1
theorem FrOn.cutStack {w : World} {g cap L n : Nat} {vc : Value} {A : Option Addr} {f : Fr} (H : FrOn w ⟨g, vc, .slice A L cap⟩ f) (hn : n ≤ f.stack.length) :
    FrOn (w.setCell ⟨g, 4, none⟩ (.slice A n cap)) ⟨g, vc, .slice A n cap⟩ { f with stack := f.stack.take n } := by
  have hvn := H.vs_ne
  have hob : (Value.slice A n cap).ownBlock = (Value.slice A L cap).ownBlock := by cases A <;> rfl
  have hlen : (f.stack.take n).length = n := by rw [List.length_take]; omega
  refine ⟨blk_set H.blk 4 _, own_move H.cs (fun k e => Below.heap_setCell _ _ _ _ (by rintro rfl; exact H.vc_ne e)), ?_, ?_⟩
  · show World.ownsRow _ 0 2 1 (.slice A n cap) (f.stack.take n).length (ints (f.stack.take n))
    rw [hlen]
    refine ⟨by simp [ints]; omega, ?_⟩
    rcases H.st.2 with ⟨h, h0⟩ | ⟨sg, cap', cur, h, hb, hh, hn', hcap, hsz, htk⟩
    · obtain ⟨rfl, rfl, rfl⟩ := Value.slice.inj h
      exact .inl ⟨by rw [show n = 0 by omega], by omega⟩
    · obtain ⟨rfl, rfl, rfl⟩ := Value.slice.inj h
      refine .inr ⟨sg, cap, cur, rfl, hb, (Below.heap_setCell _ _ _ _ ?_).trans hh, by omega, hcap, hsz, ?_⟩
      · rintro rfl; exact hvn rfl
      · have e2 := congrArg (List.take (n * 1)) htk
        rw [List.take_take] at e2
        rw [show min (n * 1) (f.stack.length * 1) = n * 1 by omega] at e2
        rw [e2]; simp [ints, List.map_take]
  · have nd := H.nd
    unfold Ho.blocks at nd ⊢
    rw [show (Ho.vs ⟨g, vc, .slice A n cap⟩).ownBlock = _ from hob]
    exact nd
section
variable {Rd : Nat → Prop} {w : World} {o : MHo} {m : Mc}
theorem call_on (H : MOn Rd w o m) {hs0 : List Ho} {h : Ho} {r : List Fr} {f : Fr} (ho : o.hs = hs0 ++ [h]) (hf : m.frames = r ++ [f]) (k : Int) (M c : Nat) (k0 : 0 ≤ k) (k1 : k < m.codes.length) (hc : (rd_T46 m.codes k).f1 = c) (hc1 : c ≤ 65536) (hMc : M ≤ c) (hM : M ≤ f.stack.length) (hs : f.stack.length ≤ 1000000) (hl : r.length + 1 < 50) :
    Calls Tryd.prog 34 #[o.ptr, h.ptr, .agg #[.int .i64 19, .int .i64 k, .int .i64 M]] w (MPost Rd w o (({ m with frames := r ++ [{ f with stack := f.stack.take (f.stack.length - M) }] } : Mc).beginM k (f.stack.drop (f.stack.length - M))) (.int .i64 0)) := by
  have HF := H.top ho hf
  obtain ⟨g, vc, vs⟩ := h
  obtain ⟨A, cap, hvs, hcap1, hcap2, hnone, hsome⟩ := own_slice HF.st
  simp only at hvs; subst hvs
  obtain ⟨L, hL⟩ : ∃ L, L = f.stack.length := ⟨_, rfl⟩
  obtain ⟨n, hn⟩ : ∃ n, n = L - M := ⟨_, rfl⟩
  rw [← hL] at hM hs hcap1
  obtain ⟨i2, hi2, hz2⟩ := Option.map_eq_some_iff.1 info2
  simp only [Prod.mk.injEq] at hz2
  have hcut := cut_from (P := Tryd.prog) 23 2 .i64 Tryd.underlying23 hi2 1 hz2.2.1 A L cap (n : Int) (by omega) (by omega)
  have hcut2 := cut_to (P := Tryd.prog) 23 2 .i64 Tryd.underlying23 hi2 A L cap (n : Int) (by omega) (by omega) hcap1
  rw [Int.toNat_natCast] at hcut hcut2
  obtain ⟨A2, hA2⟩ : ∃ A2, A2 = (if cap = n then A else A.map (·.add (n * 1))) := ⟨_, rfl⟩
  obtain ⟨ml, hml⟩ : ∃ ml, ml = L - n := ⟨_, rfl⟩
  obtain ⟨c2, hc2⟩ : ∃ c2, c2 = cap - n := ⟨_, rfl⟩
  rw [← hA2, ← hml, ← hc2] at hcut
  have hb := HF.blk
  have b4 : (w.alloc (.cells #[.int .i64 19, .int .i64 k, .int .i64 M] 43)).drew.cell? ⟨g, 4, none⟩ = some (.slice A L cap) := by
    rw [show (w.alloc (.cells #[.int .i64 19, .int .i64 k, .int .i64 M] 43)).drew.cell? ⟨g, 4, none⟩ = _ from blk_cell (blk_alloc hb _) 4, hL]; rfl
  have b2 : (w.alloc (.cells #[.int .i64 19, .int .i64 k, .int .i64 M] 43)).drew.cell? ⟨w.heap.size, 2, none⟩ = some (.int .i64 M) := blk_cell (blk_new w _) 2
  have e1 : IntKind.i64.wrap ((L : Int) - (M : Int)) = (n : Int) := by rw [IntWalk.i64_in _ (by omega)]; omega
  have HH := Aside0.mk H; have HK := Aside0.mk HF; have HL := Aside0.mk hL; have HN := Aside0.mk hn; have HA2 := Aside0.mk hA2; have HML := Aside0.mk hml; have HC2 := Aside0.mk hc2
  have HO := Aside0.mk ho; have HFR := Aside0.mk hf; have HNO := Aside0.mk hnone; have HSO := Aside0.mk hsome; have HCC := Aside0.mk hc
  clear H HF hL hn hA2 hml hc2 ho hf hb hnone hsome hc hz2 hi2
  show Calls Tryd.prog 34 #[.pointer (some ⟨o.g, 0, none⟩), .pointer (some ⟨g, 0, none⟩), .agg #[.int .i64 19, .int .i64 k, .int .i64 M]] w _
  go_enter Tryd.func34, Tryd.ntmps34
  go_wp2
  go_region_held3 (fun W => W.cell? ⟨g, 4, none⟩ = some (.slice A L cap) ∧ W.cell? ⟨w.heap.size, 2, none⟩ = some (.int .i64 M)) (first | exact ⟨by assumption, by assumption⟩ | go_keep) (skip)
  have hw1 : Aside0 (A = none → ml = 0 ∧ c2 = 0) := ⟨fun e => by have := HNO.out e; have := HL.out; have := HML.out; have := HC2.out; omega⟩
  have HLS : Aside0 (ml = (f.stack.drop n).length ∧ n ≤ f.stack.length) := ⟨by have := HL.out; have := HML.out; have := HN.out; rw [List.length_drop]; omega⟩
  have HCE : Aside0 (A2 = none → ml = 0 ∧ c2 = 0) := ⟨fun e => hw1.out (by rw [HA2.out] at e; split at e <;> cases A <;> simp_all)⟩
  have HCELL : Aside0 (∀ ad, A2 = some ad → ∀ j u, (ints (f.stack.drop n))[j]? = some u → (w.alloc (.cells #[.int .i64 19, .int .i64 k, .int .i64 M] 43)).drew.cell? (ad.add j) = some u) := ⟨by
    intro ad e j u hj
    simp only [ints, List.getElem?_map, Option.map_eq_some_iff, List.getElem?_drop] at hj
    obtain ⟨x, hx, rfl⟩ := hj
    have hlt := (List.getElem?_eq_some_iff.1 hx).1
    have h1 := HL.out; have h2 := HML.out
    rw [HA2.out, if_neg (by omega)] at e
    cases A with
    | none => cases e
    | some a0 =>
      obtain ⟨sg, rfl, _, hsl, hcell⟩ := HSO.out a0 rfl
      have e3 : ad = (⟨sg, 0, none⟩ : Addr).add (n * 1) := (Option.some.inj e).symm
      have e2 : ad.add j = ⟨sg, n + j, none⟩ := by
        rw [e3]
        unfold Addr.add
        by_cases hn0 : n = 0
        · by_cases hj0 : j = 0 <;> simp [hn0, hj0]
        · by_cases hj0 : j = 0 <;> simp [hn0, hj0]
      rw [e2]
      exact (World.cell?_alloc_past _ _ _ hsl).trans (hcell _ x hx)⟩
  go_wp2_with (at_builtin; refine wpList_append_fresh rfl (.const (.slice none 0 0)) (.tmp 22) 23 rfl 2 (.int .i64 0) 1 8 Tryd.underlying23 info2 rfl (by decide) rfl A2 ml c2 rfl (ints (f.stack.drop n)) (by rw [ints_length, Nat.mul_one]; exact HLS.out.1.symm) HCE.out HCELL.out (fun u hu => by simp only [ints, List.mem_map] at hu; obtain ⟨x, _, rfl⟩ := hu; rfl) (by have := HML.out; omega) (by have := HML.out; omega) ?fresh)
  case fresh =>
    intro v1 w1 hown hg hv1
    have HOW := Aside0.mk hown
    have HMa : Mod (fun _ => False) (w.alloc (.cells #[.int .i64 19, .int .i64 k, .int .i64 M] 43)).drew w1 := (Mod.refl _ _).grown hg (fun k e => by cases e)
    have HF1 := ((HK.out.alloc (.cells #[.int .i64 19, .int .i64 k, .int .i64 M] 43)).drew).mod HMa (fun _ _ h => h)
    have HM1 := ((HH.out.alloc (.cells #[.int .i64 19, .int .i64 k, .int .i64 M] 43)).drew).mod HMa (fun _ _ h => h)
    have hap := top_apart HH.out HO.out g (by simp [Ho.blocks])
    have n1 : g ≠ o.g := hap.1
    have n2 : g ≠ w.heap.size := Nat.ne_of_lt (blk_lt HK.out.blk)
    have y4 : w1.cell? ⟨g, 4, none⟩ = some (.slice A L cap) := by rw [blk_cell HF1.blk 4, HL.out]; rfl
    have y5 : w1.frozen? ⟨g, 4, none⟩ = false := blk_frozen HF1.blk 4
    have yb : w1.cell? ⟨w.heap.size, 1, none⟩ = some (.int .i64 k) := blk_cell ((HMa.block w.heap.size (by show _ < (w.heap.push _).size; rw [Array.size_push]; omega) (fun h => h)).trans (blk_new w _)) 1
    obtain ⟨fA, fc, hfv⟩ : ∃ A c, o.fv = .slice A (r.length + 1) c := by
      have hfl : m.frames.length = r.length + 1 := by rw [HFR.out]; simp
      rcases HH.out.fr.2 with ⟨h, e⟩ | ⟨_, _, _, h, _⟩
      · omega
      · exact ⟨_, _, by rw [h, hfl]⟩
    have yf : w1.cell? ⟨o.g, 1, none⟩ = some (.slice fA (r.length + 1) fc) := by rw [blk_cell HM1.blk 1, ← hfv]; rfl
    have d50 : (((r.length + 1 : Nat) : Int) == 50) = false := beq_eq_false_iff_ne.mpr (by omega)
    have HTS : Aside0 (f.stack.length - M = n) := ⟨by rw [HN.out, HL.out]⟩
    have HSET := FrOn.cutStack HF1 (n := n) HLS.out.2
    have HMb : Mod (fun k => k ∈ Ho.blocks ⟨g, vc, .slice A f.stack.length cap⟩) w (w1.setCell ⟨g, 4, none⟩ (.slice A n cap)) :=
      ((((Mod.refl _ w).alloc _).drew).trans HMa (fun _ _ h => h.elim)).setCell (p := ⟨g, 4, none⟩) (fun _ => by simp [Ho.blocks]) _
    have hob : ∀ k, (Value.slice A n cap).ownBlock = some k → (Value.slice A f.stack.length cap).ownBlock = some k ∨ w.heap.size ≤ k := fun k e => .inl (by cases A <;> exact e)
    have HM2 := Aside0.mk (HH.out.setTop (vs' := .slice A n cap) HO.out HFR.out HMb hob HSET)
    have HSUB := Aside0.mk (setTop_sub (w := w) (vs' := .slice A n cap) HO.out hob)
    have HMB := Aside0.mk HMb; have HOWS := Aside0.mk (top_own HO.out)
    have HVA : Aside0 ((w1.setCell ⟨g, 4, none⟩ (.slice A n cap)).ownsRow 0 2 1 v1 (f.stack.drop n).length (ints (f.stack.drop n))) := ⟨by
      rw [← HLS.out.1]
      refine own_setCell HOW.out (p := ⟨g, 4, none⟩) (fun e => ?_) _
      have h1 := hv1 g e.symm
      have h2 : w.heap.size ≤ (w.alloc (.cells #[.int .i64 19, .int .i64 k, .int .i64 M] 43)).drew.heap.size := by show _ ≤ (w.heap.push _).size; rw [Array.size_push]; omega
      have h3 := blk_lt HK.out.blk
      simp only at h3
      omega⟩
    have HAL : Aside0 ((f.stack.drop n).length ≤ c) := ⟨by have := HTS.out; have := HLS.out.2; rw [List.length_drop]; omega⟩
    have HLEN : Aside0 ((r ++ [{ f with stack := f.stack.take n }]).length + 1 ≤ 1000) := ⟨by simp; omega⟩
    clear hown hg hv1 HF1 HM1 HMa hfv hap HSET HMb hob
    go_wp2_with ((with_reducible refine gate_callee (f := 33) rfl ?_); refine goesL_ (some 43) rfl rfl Tryd.func33 (by kernel_rfl) rfl #[.pointer (some ⟨o.g, 0, none⟩), .int .i64 k, v1] rfl (by (try simp only [List.map_toArray, List.map_cons, List.map_nil]); first | done | rfl) ?_; refine (begin_on HM2.out k k0 k1 c HCC.out hc1 v1 (f.stack.drop n) HVA.out HAL.out HLEN.out).mono ?_; rintro e w3 ⟨rfl, o3, hsub, HM3, hmod⟩; have HP := Aside0.mk (And.intro hsub (And.intro HM3 hmod)); clear hsub HM3 hmod; refine ⟨_, rfl, ?_⟩)
    go_ret
    obtain ⟨hsub, HM3, hmod⟩ := HP.out
    rw [HTS.out]
    have hMo : Mod (fun k => k ∈ o.own) w (w1.setCell ⟨g, 4, none⟩ (.slice A n cap)) := HMB.out.mono (fun k _ h => HOWS.out k h)
    exact ⟨rfl, o3, HSUB.out.trans HMB.out.size hsub, HM3, hMo.trans hmod (fun k hk h => (HSUB.out.2 k h).elim id (fun e => by omega))⟩
theorem call_deep (H : MOn Rd w o m) {hs0 : List Ho} {h : Ho} {r : List Fr} {f : Fr} (ho : o.hs = hs0 ++ [h]) (hf : m.frames = r ++ [f]) (k : Int) (M : Nat) (hM : M ≤ f.stack.length) (hs : f.stack.length ≤ 1000000) (hl : r.length + 1 = 50) :
    Calls Tryd.prog 34 #[o.ptr, h.ptr, .agg #[.int .i64 19, .int .i64 k, .int .i64 M]] w (MPost Rd w o { m with frames := r ++ [{ f with stack := f.stack.take (f.stack.length - M) }] } (.int .i64 4)) := by
  have HF := H.top ho hf
  obtain ⟨g, vc, vs⟩ := h
  obtain ⟨A, cap, hvs, hcap1, hcap2, hnone, hsome⟩ := own_slice HF.st
  simp only at hvs; subst hvs
  obtain ⟨L, hL⟩ : ∃ L, L = f.stack.length := ⟨_, rfl⟩
  obtain ⟨n, hn⟩ : ∃ n, n = L - M := ⟨_, rfl⟩
  rw [← hL] at hM hs hcap1
  obtain ⟨i2, hi2, hz2⟩ := Option.map_eq_some_iff.1 info2
  simp only [Prod.mk.injEq] at hz2
  have hcut := cut_from (P := Tryd.prog) 23 2 .i64 Tryd.underlying23 hi2 1 hz2.2.1 A L cap (n : Int) (by omega) (by omega)
  have hcut2 := cut_to (P := Tryd.prog) 23 2 .i64 Tryd.underlying23 hi2 A L cap (n : Int) (by omega) (by omega) hcap1
  rw [Int.toNat_natCast] at hcut hcut2
  obtain ⟨A2, hA2⟩ : ∃ A2, A2 = (if cap = n then A else A.map (·.add (n * 1))) := ⟨_, rfl⟩
  obtain ⟨ml, hml⟩ : ∃ ml, ml = L - n := ⟨_, rfl⟩
  obtain ⟨c2, hc2⟩ : ∃ c2, c2 = cap - n := ⟨_, rfl⟩
  rw [← hA2, ← hml, ← hc2] at hcut
  have hb := HF.blk
  have b4 : (w.alloc (.cells #[.int .i64 19, .int .i64 k, .int .i64 M] 43)).drew.cell? ⟨g, 4, none⟩ = some (.slice A L cap) := by
    rw [show (w.alloc (.cells #[.int .i64 19, .int .i64 k, .int .i64 M] 43)).drew.cell? ⟨g, 4, none⟩ = _ from blk_cell (blk_alloc hb _) 4, hL]; rfl
  have b2 : (w.alloc (.cells #[.int .i64 19, .int .i64 k, .int .i64 M] 43)).drew.cell? ⟨w.heap.size, 2, none⟩ = some (.int .i64 M) := blk_cell (blk_new w _) 2
  have e1 : IntKind.i64.wrap ((L : Int) - (M : Int)) = (n : Int) := by rw [IntWalk.i64_in _ (by omega)]; omega
  have HH := Aside0.mk H; have HK := Aside0.mk HF; have HL := Aside0.mk hL; have HN := Aside0.mk hn; have HA2 := Aside0.mk hA2; have HML := Aside0.mk hml; have HC2 := Aside0.mk hc2
  have HO := Aside0.mk ho; have HFR := Aside0.mk hf; have HNO := Aside0.mk hnone; have HSO := Aside0.mk hsome
  clear H HF hL hn hA2 hml hc2 ho hf hb hnone hsome hz2 hi2
  show Calls Tryd.prog 34 #[.pointer (some ⟨o.g, 0, none⟩), .pointer (some ⟨g, 0, none⟩), .agg #[.int .i64 19, .int .i64 k, .int .i64 M]] w _
  go_enter Tryd.func34, Tryd.ntmps34
  go_wp2
  go_region_held3 (fun W => W.cell? ⟨g, 4, none⟩ = some (.slice A L cap) ∧ W.cell? ⟨w.heap.size, 2, none⟩ = some (.int .i64 M)) (first | exact ⟨by assumption, by assumption⟩ | go_keep) (skip)
  have hw1 : Aside0 (A = none → ml = 0 ∧ c2 = 0) := ⟨fun e => by have := HNO.out e; have := HL.out; have := HML.out; have := HC2.out; omega⟩
  have HLS : Aside0 (ml = (f.stack.drop n).length ∧ n ≤ f.stack.length) := ⟨by have := HL.out; have := HML.out; have := HN.out; rw [List.length_drop]; omega⟩
  have HCE : Aside0 (A2 = none → ml = 0 ∧ c2 = 0) := ⟨fun e => hw1.out (by rw [HA2.out] at e; split at e <;> cases A <;> simp_all)⟩
  have HCELL : Aside0 (∀ ad, A2 = some ad → ∀ j u, (ints (f.stack.drop n))[j]? = some u → (w.alloc (.cells #[.int .i64 19, .int .i64 k, .int .i64 M] 43)).drew.cell? (ad.add j) = some u) := ⟨by
    intro ad e j u hj
    simp only [ints, List.getElem?_map, Option.map_eq_some_iff, List.getElem?_drop] at hj
    obtain ⟨x, hx, rfl⟩ := hj
    have hlt := (List.getElem?_eq_some_iff.1 hx).1
    have h1 := HL.out; have h2 := HML.out
    rw [HA2.out, if_neg (by omega)] at e
    cases A with
    | none => cases e
    | some a0 =>
      obtain ⟨sg, rfl, _, hsl, hcell⟩ := HSO.out a0 rfl
      have e3 : ad = (⟨sg, 0, none⟩ : Addr).add (n * 1) := (Option.some.inj e).symm
      have e2 : ad.add j = ⟨sg, n + j, none⟩ := by
        rw [e3]
        unfold Addr.add
        by_cases hn0 : n = 0
        · by_cases hj0 : j = 0 <;> simp [hn0, hj0]
        · by_cases hj0 : j = 0 <;> simp [hn0, hj0]
      rw [e2]
      exact (World.cell?_alloc_past _ _ _ hsl).trans (hcell _ x hx)⟩
  go_wp2_with (at_builtin; refine wpList_append_fresh rfl (.const (.slice none 0 0)) (.tmp 22) 23 rfl 2 (.int .i64 0) 1 8 Tryd.underlying23 info2 rfl (by decide) rfl A2 ml c2 rfl (ints (f.stack.drop n)) (by rw [ints_length, Nat.mul_one]; exact HLS.out.1.symm) HCE.out HCELL.out (fun u hu => by simp only [ints, List.mem_map] at hu; obtain ⟨x, _, rfl⟩ := hu; rfl) (by have := HML.out; omega) (by have := HML.out; omega) ?fresh)
  case fresh =>
    intro v1 w1 hown hg hv1
    have HOW := Aside0.mk hown
    have HMa : Mod (fun _ => False) (w.alloc (.cells #[.int .i64 19, .int .i64 k, .int .i64 M] 43)).drew w1 := (Mod.refl _ _).grown hg (fun k e => by cases e)
    have HF1 := ((HK.out.alloc (.cells #[.int .i64 19, .int .i64 k, .int .i64 M] 43)).drew).mod HMa (fun _ _ h => h)
    have HM1 := ((HH.out.alloc (.cells #[.int .i64 19, .int .i64 k, .int .i64 M] 43)).drew).mod HMa (fun _ _ h => h)
    have hap := top_apart HH.out HO.out g (by simp [Ho.blocks])
    have n1 : g ≠ o.g := hap.1
    have n2 : g ≠ w.heap.size := Nat.ne_of_lt (blk_lt HK.out.blk)
    have y4 : w1.cell? ⟨g, 4, none⟩ = some (.slice A L cap) := by rw [blk_cell HF1.blk 4, HL.out]; rfl
    have y5 : w1.frozen? ⟨g, 4, none⟩ = false := blk_frozen HF1.blk 4
    have yb : w1.cell? ⟨w.heap.size, 1, none⟩ = some (.int .i64 k) := blk_cell ((HMa.block w.heap.size (by show _ < (w.heap.push _).size; rw [Array.size_push]; omega) (fun h => h)).trans (blk_new w _)) 1
    obtain ⟨fA, fc, hfv⟩ : ∃ A c, o.fv = .slice A (r.length + 1) c := by
      have hfl : m.frames.length = r.length + 1 := by rw [HFR.out]; simp
      rcases HH.out.fr.2 with ⟨h, e⟩ | ⟨_, _, _, h, _⟩
      · omega
      · exact ⟨_, _, by rw [h, hfl]⟩
    have yf : w1.cell? ⟨o.g, 1, none⟩ = some (.slice fA (r.length + 1) fc) := by rw [blk_cell HM1.blk 1, ← hfv]; rfl
    have d50 : (((r.length + 1 : Nat) : Int) == 50) = true := beq_iff_eq.mpr (by omega)
    have HTS : Aside0 (f.stack.length - M = n) := ⟨by rw [HN.out, HL.out]⟩
    have HSET := FrOn.cutStack HF1 (n := n) HLS.out.2
    have HMb : Mod (fun k => k ∈ Ho.blocks ⟨g, vc, .slice A f.stack.length cap⟩) w (w1.setCell ⟨g, 4, none⟩ (.slice A n cap)) :=
      ((((Mod.refl _ w).alloc _).drew).trans HMa (fun _ _ h => h.elim)).setCell (p := ⟨g, 4, none⟩) (fun _ => by simp [Ho.blocks]) _
    have hob : ∀ k, (Value.slice A n cap).ownBlock = some k → (Value.slice A f.stack.length cap).ownBlock = some k ∨ w.heap.size ≤ k := fun k e => .inl (by cases A <;> exact e)
    have HM2 := Aside0.mk (HH.out.setTop (vs' := .slice A n cap) HO.out HFR.out HMb hob HSET)
    have HSUB := Aside0.mk (setTop_sub (w := w) (vs' := .slice A n cap) HO.out hob)
    have HMB := Aside0.mk HMb; have HOWS := Aside0.mk (top_own HO.out)
    clear hown hg hv1 HF1 HM1 HMa hfv hap HSET HMb hob
    go_wp2
    go_ret
    rw [HTS.out]
    exact ⟨rfl, _, HSUB.out, HM2.out, HMB.out.mono (fun k _ h => HOWS.out k h)⟩
end
end Go.Proofs.YthckiolgpgplpaaDoor
end
section
namespace Go.Proofs.YthckiolgpgplpaaDoor
open Go.RowKit Go.Proofs.YthckiolgpgplpaaDoorW.PrintWords Go.Proofs.YthckiolgpgplpaaDoorW.PrintLast Go.Proofs.YthckiolgpgplpaaDoorW.PrintMore Go.Proofs.YthckiolgpgplpaaDoor.P
set_option linter.unusedVariables false
set_option linter.unusedSimpArgs false
set_option maxRecDepth 1000000
set_option maxHeartbeats 400000
section
variable {Rd : Nat → Prop} {w : World} {o : MHo} {m : Mc}
theorem fv_form (H : MOn Rd w o m) {r : List Fr} {f : Fr} (hf : m.frames = r ++ [f]) : ∃ fg fc, o.fv = .slice (some ⟨fg, 0, none⟩) (r.length + 1) fc ∧ r.length + 1 ≤ fc ∧ fc ≤ 9223372036854775807 ∧ ∀ j p, (o.hs.map Ho.ptr)[j]? = some p → w.cell? ⟨fg, j, none⟩ = some p := by
  have hfl : m.frames.length = r.length + 1 := by rw [hf]; simp
  rcases H.fr.2 with ⟨h, e⟩ | ⟨fg, fc, cur, h, _, hh, hn, hcap, hsz, htk⟩
  · omega
  · refine ⟨fg, fc, by rw [h, hfl], by omega, by simp only [maxLen] at hcap; omega, fun j p hj => ?_⟩
    rw [blk_cell hh, ← Array.getElem?_toList]
    have hlt := (List.getElem?_eq_some_iff.1 hj).1
    have e0 : (o.hs.map Ho.ptr).length = m.frames.length := by rw [List.length_map]; exact H.frs.length_eq
    have e1 : (cur.toList.take (m.frames.length * 1))[j]? = some p := by rw [htk]; exact hj
    rw [List.getElem?_take, if_pos (by omega)] at e1
    exact e1
theorem MOn.dropTop (H : MOn Rd w o m) {hs0 : List Ho} {h : Ho} {r : List Fr} {f : Fr} (ho : o.hs = hs0 ++ [h]) (hf : m.frames = r ++ [f]) {fg fc : Nat} (hfv : o.fv = .slice (some ⟨fg, 0, none⟩) (r.length + 1) fc) :
    MOn Rd (w.setCell ⟨o.g, 1, none⟩ (.slice (some ⟨fg, 0, none⟩) r.length fc)) { o with fv := .slice (some ⟨fg, 0, none⟩) r.length fc, hs := hs0 } { m with frames := r } ∧
      (∀ k ∈ MHo.own { o with fv := .slice (some ⟨fg, 0, none⟩) r.length fc, hs := hs0 }, k ∈ o.own) ∧ FrOn (w.setCell ⟨o.g, 1, none⟩ (.slice (some ⟨fg, 0, none⟩) r.length fc)) h f ∧
      ∀ k ∈ h.blocks, k ∉ MHo.own { o with fv := .slice (some ⟨fg, 0, none⟩) r.length fc, hs := hs0 } := by
  have ga := g_apart H
  have hap := top_apart H ho
  have hob : o.fv.ownBlock = some fg := by rw [hfv]; rfl
  have e1 : MHo.own { o with fv := .slice (some ⟨fg, 0, none⟩) r.length fc, hs := hs0 } = [o.g] ++ (o.fv.ownBlock.toList ++ (o.ev.ownBlock.toList ++ hs0.flatMap Ho.blocks)) := by rw [hob]; rfl
  have e2 : o.own = ([o.g] ++ (o.fv.ownBlock.toList ++ (o.ev.ownBlock.toList ++ hs0.flatMap Ho.blocks))) ++ h.blocks := by simp [MHo.own, ho]
  have hin : ∀ k ∈ MHo.own { o with fv := .slice (some ⟨fg, 0, none⟩) r.length fc, hs := hs0 }, k ∈ o.own := fun k hk => by
    rw [e1] at hk; rw [e2]; exact List.mem_append_left _ hk
  have hM : Mod (fun k => k = o.g) w (w.setCell ⟨o.g, 1, none⟩ (.slice (some ⟨fg, 0, none⟩) r.length fc)) := (Mod.refl (fun k => k = o.g) w).setCell (p := ⟨o.g, 1, none⟩) (fun _ => rfl) _
  have hfrs := H.frs
  rw [ho, hf] at hfrs
  obtain ⟨f1, f2⟩ := forall2_split hfrs
  have hgb := ga.2.2
  rw [ho, List.flatMap_append, List.mem_append] at hgb
  refine ⟨H.remake hM (fun k _ h => by subst h; simp [MHo.own]) (blk_set H.blk 1 _) ?_ ?_ ?_ ?_ (fun k hk => .inl (hin k hk)) rfl rfl rfl rfl, hin, f2.mod hM (fun k hk e => (hap k hk).1 e), fun k hk hk2 => ?_⟩
  · refine own_setCell (p := ⟨o.g, 1, none⟩) ?_ (fun e => ga.1 (by rw [hob]; exact e.symm)) _
    have hl : hs0.length = r.length := f1.length_eq
    have hfl : m.frames.length = r.length + 1 := by rw [hf]; simp
    refine ⟨by simp [hl], ?_⟩
    rcases H.fr.2 with ⟨h, e⟩ | ⟨fg', fc', cur, h, hb, hh, hn, hcap, hsz, htk⟩
    · omega
    · rw [hfv] at h
      obtain ⟨h1, h2, h3⟩ := Value.slice.inj h
      have h4 : fg = fg' := by simpa using h1
      subst h4 h3
      refine .inr ⟨fg, fc, cur, rfl, hb, hh, by show r.length ≤ fc; omega, hcap, hsz, ?_⟩
      have e3 := congrArg (List.take (r.length * 1)) htk
      rw [List.take_take, show min (r.length * 1) (m.frames.length * 1) = r.length * 1 by omega] at e3
      show cur.toList.take (r.length * 1) = hs0.map Ho.ptr
      rw [e3, ho, List.map_append, Nat.mul_one, ← hl, show hs0.length = (hs0.map Ho.ptr).length by simp]
      exact List.take_left
  · exact own_setCell H.ev (p := ⟨o.g, 1, none⟩) (fun e => ga.2.1 e.symm) _
  · exact forall2_kept f1 (fun k hk => hM.block k (forall2_lt f1 k hk) (fun e => by subst e; exact hgb (.inl hk)))
  · rw [e1]; have nd := H.nd; rw [e2] at nd; exact (List.nodup_append.1 nd).1
  · rw [e1] at hk2; have nd := H.nd; rw [e2] at nd; exact apart nd hk2 hk
theorem leave_void (H : MOn Rd w o m) {hs0 : List Ho} {h : Ho} {r : List Fr} {f : Fr} (ho : o.hs = hs0 ++ [h]) (hf : m.frames = r ++ [f]) (k : Int) (hr : 0 < r.length) (hl : r.length ≤ 1000) :
    Calls Tryd.prog 35 #[o.ptr, h.ptr, .agg #[.int .i64 20, .int .i64 0, .int .i64 k]] w (MPost Rd w o { m with frames := r } (.tuple #[])) := by
  have HF := H.top ho hf
  obtain ⟨fg, fc, hfv, hc1, hc2, hcell⟩ := fv_form H hf
  obtain ⟨L1, hL1⟩ : ∃ L1, L1 = r.length + 1 := ⟨_, rfl⟩
  obtain ⟨n, hn⟩ : ∃ n, n = r.length := ⟨_, rfl⟩
  obtain ⟨i9, hi9, hz9⟩ := Option.map_eq_some_iff.1 info69
  have hcut := cut_to (P := Tryd.prog) 65 69 .i64 Tryd.underlying65 hi9 (some ⟨fg, 0, none⟩) L1 fc (n : Int) (by omega) (by omega) (by omega)
  rw [Int.toNat_natCast] at hcut
  have e1 : IntKind.i64.wrap ((L1 : Int) - 1) = (n : Int) := by rw [IntWalk.i64_in _ (by omega)]; omega
  have hfg : fg ≠ o.g := fun e => (g_apart H).1 (by rw [hfv, e]; rfl)
  have HD := (H.alloc (.cells #[.int .i64 20, .int .i64 0, .int .i64 k] 43)).drew.dropTop ho hf hfv
  rw [← hn] at HD
  have c1 : (w.alloc (.cells #[.int .i64 20, .int .i64 0, .int .i64 k] 43)).drew.cell? ⟨o.g, 1, none⟩ = some (.slice (some ⟨fg, 0, none⟩) L1 fc) := by
    rw [blk_cell ((H.alloc (.cells #[.int .i64 20, .int .i64 0, .int .i64 k] 43)).drew.blk) 1, hL1, ← hfv]; rfl
  have c2 : (w.alloc (.cells #[.int .i64 20, .int .i64 0, .int .i64 k] 43)).drew.frozen? ⟨o.g, 1, none⟩ = false := blk_frozen ((H.alloc (.cells #[.int .i64 20, .int .i64 0, .int .i64 k] 43)).drew.blk) 1
  have cb : (w.alloc (.cells #[.int .i64 20, .int .i64 0, .int .i64 k] 43)).drew.cell? ⟨w.heap.size, 1, none⟩ = some (.int .i64 0) := blk_cell (blk_new w _) 1
  have nb : o.g ≠ w.heap.size := Nat.ne_of_lt (blk_lt H.blk)
  have HH := Aside0.mk H; have HK := Aside0.mk HF; have HDD := Aside0.mk HD; have HO := Aside0.mk ho; have HFR := Aside0.mk hf; have HL1 := Aside0.mk hL1; have HN := Aside0.mk hn; have HCL := Aside0.mk hcell; have HFV := Aside0.mk hfv
  have HMa := Aside0.mk (show Mod (fun _ => False) w (w.alloc (.cells #[.int .i64 20, .int .i64 0, .int .i64 k] 43)).drew from ((Mod.refl _ w).alloc _).drew)
  clear H HF HD ho hf hL1 hn hcell hfv hz9 hi9
  show Calls Tryd.prog 35 #[.pointer (some ⟨o.g, 0, none⟩), .pointer (some ⟨h.g, 0, none⟩), .agg #[.int .i64 20, .int .i64 0, .int .i64 k]] w _
  go_enter Tryd.func35, Tryd.ntmps35
  go_wp2
  refine wp_region_still_tail 14 (by kernel_rfl) (by kernel_rfl) ?_
  obtain ⟨w2, hw2⟩ : ∃ w2, w2 = (w.alloc (.cells #[.int .i64 20, .int .i64 0, .int .i64 k] 43)).drew := ⟨_, rfl⟩
  change wpStill _ _ (w.alloc (.cells #[.int .i64 20, .int .i64 0, .int .i64 k] 43)).drew (fun a' => wpList _ _ _ _ a' (w.alloc (.cells #[.int .i64 20, .int .i64 0, .int .i64 k] 43)).drew) _ _
  rw [← hw2] at HDD c1 c2 cb HMa ⊢
  clear hw2
  simp only [List.take_succ_cons, List.take_zero, List.drop_succ_cons, List.drop_zero]
  repeat still_step
  try refine wpStill_nil ?_
  have d0 : ((n : Int) == 0) = false := beq_eq_false_iff_ne.mpr (by have := HN.out; omega)
  go_wp2
  go_end0
  have hMs : Mod (fun k => k ∈ o.own) w (w2.setCell ⟨o.g, 1, none⟩ (.slice (some ⟨fg, 0, none⟩) n fc)) := (HMa.out.mono (fun _ _ h => h.elim)).setCell (p := ⟨o.g, 1, none⟩) (fun _ => by simp [MHo.own]) _
  have hsub0 := HDD.out.2.1
  have hsub : Sub w o { o with fv := .slice (some ⟨fg, 0, none⟩) n fc, hs := hs0 } := ⟨rfl, fun k hk => .inl (hsub0 k hk)⟩
  exact ⟨rfl, _, hsub, HDD.out.1, hMs⟩
theorem leave_last (H : MOn Rd w o m) {hs0 : List Ho} {h : Ho} {r : List Fr} {f : Fr} (ho : o.hs = hs0 ++ [h]) (hf : m.frames = r ++ [f]) (hr : r.length = 0) (n0 k : Int) (hl : m.events.length + 1 ≤ 4398046511104) :
    Calls Tryd.prog 35 #[o.ptr, h.ptr, .agg #[.int .i64 20, .int .i64 n0, .int .i64 k]] w (MPost Rd w o (({ m with frames := r } : Mc).endM 3 0) (.tuple #[])) := by
  have HF := H.top ho hf
  obtain ⟨fg, fc, hfv, hc1, hc2, hcell⟩ := fv_form H hf
  obtain ⟨L1, hL1⟩ : ∃ L1, L1 = r.length + 1 := ⟨_, rfl⟩
  obtain ⟨n, hn⟩ : ∃ n, n = r.length := ⟨_, rfl⟩
  obtain ⟨i9, hi9, hz9⟩ := Option.map_eq_some_iff.1 info69
  have hcut := cut_to (P := Tryd.prog) 65 69 .i64 Tryd.underlying65 hi9 (some ⟨fg, 0, none⟩) L1 fc (n : Int) (by omega) (by omega) (by omega)
  rw [Int.toNat_natCast] at hcut
  have e1 : IntKind.i64.wrap ((L1 : Int) - 1) = (n : Int) := by rw [IntWalk.i64_in _ (by omega)]; omega
  have hfg : fg ≠ o.g := fun e => (g_apart H).1 (by rw [hfv, e]; rfl)
  have HD := (H.alloc (.cells #[.int .i64 20, .int .i64 n0, .int .i64 k] 43)).drew.dropTop ho hf hfv
  rw [← hn] at HD
  have c1 : (w.alloc (.cells #[.int .i64 20, .int .i64 n0, .int .i64 k] 43)).drew.cell? ⟨o.g, 1, none⟩ = some (.slice (some ⟨fg, 0, none⟩) L1 fc) := by
    rw [blk_cell ((H.alloc (.cells #[.int .i64 20, .int .i64 n0, .int .i64 k] 43)).drew.blk) 1, hL1, ← hfv]; rfl
  have c2 : (w.alloc (.cells #[.int .i64 20, .int .i64 n0, .int .i64 k] 43)).drew.frozen? ⟨o.g, 1, none⟩ = false := blk_frozen ((H.alloc (.cells #[.int .i64 20, .int .i64 n0, .int .i64 k] 43)).drew.blk) 1
  have cb : (w.alloc (.cells #[.int .i64 20, .int .i64 n0, .int .i64 k] 43)).drew.cell? ⟨w.heap.size, 1, none⟩ = some (.int .i64 n0) := blk_cell (blk_new w _) 1
  have nb : o.g ≠ w.heap.size := Nat.ne_of_lt (blk_lt H.blk)
  have HH := Aside0.mk H; have HK := Aside0.mk HF; have HDD := Aside0.mk HD; have HO := Aside0.mk ho; have HFR := Aside0.mk hf; have HL1 := Aside0.mk hL1; have HN := Aside0.mk hn; have HCL := Aside0.mk hcell; have HFV := Aside0.mk hfv
  have HMa := Aside0.mk (show Mod (fun _ => False) w (w.alloc (.cells #[.int .i64 20, .int .i64 n0, .int .i64 k] 43)).drew from ((Mod.refl _ w).alloc _).drew)
  clear H HF HD ho hf hL1 hn hcell hfv hz9 hi9
  show Calls Tryd.prog 35 #[.pointer (some ⟨o.g, 0, none⟩), .pointer (some ⟨h.g, 0, none⟩), .agg #[.int .i64 20, .int .i64 n0, .int .i64 k]] w _
  go_enter Tryd.func35, Tryd.ntmps35
  go_wp2
  refine wp_region_still_tail 14 (by kernel_rfl) (by kernel_rfl) ?_
  obtain ⟨w2, hw2⟩ : ∃ w2, w2 = (w.alloc (.cells #[.int .i64 20, .int .i64 n0, .int .i64 k] 43)).drew := ⟨_, rfl⟩
  change wpStill _ _ (w.alloc (.cells #[.int .i64 20, .int .i64 n0, .int .i64 k] 43)).drew (fun a' => wpList _ _ _ _ a' (w.alloc (.cells #[.int .i64 20, .int .i64 n0, .int .i64 k] 43)).drew) _ _
  rw [← hw2] at HDD c1 c2 cb HMa ⊢
  clear hw2
  simp only [List.take_succ_cons, List.take_zero, List.drop_succ_cons, List.drop_zero]
  repeat still_step
  try refine wpStill_nil ?_
  obtain rfl : n = 0 := by rw [HN.out]; exact hr
  go_wp2_with ((with_reducible refine gate_callee (f := 41) rfl ?_); refine goesL_ (some 27) rfl rfl Tryd.func41 (by kernel_rfl) rfl #[.pointer (some ⟨o.g, 0, none⟩), .int .i64 3, .int .i64 0] rfl (by (try simp only [List.map_toArray, List.map_cons, List.map_nil]); first | done | rfl) ?_; refine (end_on HDD.out.1 3 0 hl).mono ?_; rintro e w3 ⟨rfl, o3, hsub3, HM3, hmod⟩; have HP := Aside0.mk (And.intro hsub3 (And.intro HM3 hmod)); clear hsub3 HM3 hmod; refine ⟨_, rfl, ?_⟩)
  go_end0
  obtain ⟨hsub3, HM3, hmod⟩ := HP.out
  have hMs : Mod (fun k => k ∈ o.own) w (w2.setCell ⟨o.g, 1, none⟩ (.slice (some ⟨fg, 0, none⟩) 0 fc)) := (HMa.out.mono (fun _ _ h => h.elim)).setCell (p := ⟨o.g, 1, none⟩) (fun _ => by simp [MHo.own]) _
  have hsub0 := HDD.out.2.1
  have hsub : Sub w o { o with fv := .slice (some ⟨fg, 0, none⟩) 0 fc, hs := hs0 } := ⟨rfl, fun k hk => .inl (hsub0 k hk)⟩
  exact ⟨rfl, o3, hsub.trans hMs.size hsub3, HM3, hMs.trans hmod (fun k hk h => (hsub.2 k h).elim id (fun e => by omega))⟩
theorem leave_ret (H : MOn Rd w o m) {hs1 : List Ho} {h1 h : Ho} {r1 : List Fr} {f1 f : Fr} (ho' : o.hs = (hs1 ++ [h1]) ++ [h]) (hf' : m.frames = (r1 ++ [f1]) ++ [f]) (k x : Int) (s : List Int) (hst : f.stack = s ++ [x]) (hp : f1.stack.length + 1 ≤ 1000000) (hl' : r1.length + 1 ≤ 1000) :
    Calls Tryd.prog 35 #[o.ptr, h.ptr, .agg #[.int .i64 20, .int .i64 1, .int .i64 k]] w (MPost Rd w o { m with frames := r1 ++ [{ f1 with stack := f1.stack ++ [x] }] } (.tuple #[])) := by
  obtain ⟨hs0, h0⟩ : ∃ hs0, hs0 = hs1 ++ [h1] := ⟨_, rfl⟩
  obtain ⟨r, hr0⟩ : ∃ r, r = r1 ++ [f1] := ⟨_, rfl⟩
  have ho : o.hs = hs0 ++ [h] := by rw [ho', h0]
  have hf : m.frames = r ++ [f] := by rw [hf', hr0]
  have hrl : r.length = r1.length + 1 := by rw [hr0]; simp
  have hhl : hs1.length = r1.length := by have := H.frs.length_eq; rw [ho', hf'] at this; simp at this; omega
  have H0 := Aside0.mk h0; have HR0 := Aside0.mk hr0; have HRL := Aside0.mk hrl; have HHL := Aside0.mk hhl; have HST := Aside0.mk hst
  clear h0 hr0 ho' hf' hhl hst
  have HF := H.top ho hf
  obtain ⟨fg, fc, hfv, hc1, hc2, hcell⟩ := fv_form H hf
  obtain ⟨L1, hL1⟩ : ∃ L1, L1 = r.length + 1 := ⟨_, rfl⟩
  obtain ⟨n, hn⟩ : ∃ n, n = r.length := ⟨_, rfl⟩
  obtain ⟨i9, hi9, hz9⟩ := Option.map_eq_some_iff.1 info69
  have hcut := cut_to (P := Tryd.prog) 65 69 .i64 Tryd.underlying65 hi9 (some ⟨fg, 0, none⟩) L1 fc (n : Int) (by omega) (by omega) (by omega)
  rw [Int.toNat_natCast] at hcut
  have e1 : IntKind.i64.wrap ((L1 : Int) - 1) = (n : Int) := by rw [IntWalk.i64_in _ (by omega)]; omega
  have hfg : fg ≠ o.g := fun e => (g_apart H).1 (by rw [hfv, e]; rfl)
  have HD := (H.alloc (.cells #[.int .i64 20, .int .i64 1, .int .i64 k] 43)).drew.dropTop ho hf hfv
  rw [← hn] at HD
  have c1 : (w.alloc (.cells #[.int .i64 20, .int .i64 1, .int .i64 k] 43)).drew.cell? ⟨o.g, 1, none⟩ = some (.slice (some ⟨fg, 0, none⟩) L1 fc) := by
    rw [blk_cell ((H.alloc (.cells #[.int .i64 20, .int .i64 1, .int .i64 k] 43)).drew.blk) 1, hL1, ← hfv]; rfl
  have c2 : (w.alloc (.cells #[.int .i64 20, .int .i64 1, .int .i64 k] 43)).drew.frozen? ⟨o.g, 1, none⟩ = false := blk_frozen ((H.alloc (.cells #[.int .i64 20, .int .i64 1, .int .i64 k] 43)).drew.blk) 1
  have cb : (w.alloc (.cells #[.int .i64 20, .int .i64 1, .int .i64 k] 43)).drew.cell? ⟨w.heap.size, 1, none⟩ = some (.int .i64 1) := blk_cell (blk_new w _) 1
  have nb : o.g ≠ w.heap.size := Nat.ne_of_lt (blk_lt H.blk)
  have HH := Aside0.mk H; have HK := Aside0.mk HF; have HDD := Aside0.mk HD; have HO := Aside0.mk ho; have HFR := Aside0.mk hf; have HL1 := Aside0.mk hL1; have HN := Aside0.mk hn; have HCL := Aside0.mk hcell; have HFV := Aside0.mk hfv
  have HMa := Aside0.mk (show Mod (fun _ => False) w (w.alloc (.cells #[.int .i64 20, .int .i64 1, .int .i64 k] 43)).drew from ((Mod.refl _ w).alloc _).drew)
  clear H HF HD ho hf hL1 hn hcell hfv hz9 hi9
  show Calls Tryd.prog 35 #[.pointer (some ⟨o.g, 0, none⟩), .pointer (some ⟨h.g, 0, none⟩), .agg #[.int .i64 20, .int .i64 1, .int .i64 k]] w _
  go_enter Tryd.func35, Tryd.ntmps35
  go_wp2
  refine wp_region_still_tail 14 (by kernel_rfl) (by kernel_rfl) ?_
  obtain ⟨w2, hw2⟩ : ∃ w2, w2 = (w.alloc (.cells #[.int .i64 20, .int .i64 1, .int .i64 k] 43)).drew := ⟨_, rfl⟩
  change wpStill _ _ (w.alloc (.cells #[.int .i64 20, .int .i64 1, .int .i64 k] 43)).drew (fun a' => wpList _ _ _ _ a' (w.alloc (.cells #[.int .i64 20, .int .i64 1, .int .i64 k] 43)).drew) _ _
  rw [← hw2] at HDD c1 c2 cb HMa ⊢
  clear hw2
  simp only [List.take_succ_cons, List.take_zero, List.drop_succ_cons, List.drop_zero]
  repeat still_step
  try refine wpStill_nil ?_
  have d0 : ((n : Int) == 0) = false := beq_eq_false_iff_ne.mpr (by have := HN.out; have := HRL.out; omega)
  obtain ⟨n1, hn1⟩ : ∃ n1 : Nat, n = n1 + 1 := ⟨n - 1, by have := HN.out; have := HRL.out; omega⟩
  have e5 : IntKind.i64.wrap ((n : Int) - 1) = (n1 : Int) := by rw [IntWalk.i64_in _ (by have := HN.out; omega)]; omega
  have e6 : (0 : Int) ≤ (n1 : Int) := by omega
  have e7 : (n1 : Int) < (n : Int) := by omega
  have hp1 : Aside0 (n1 = hs1.length) := ⟨by have := HN.out; have := HRL.out; have := HHL.out; omega⟩
  clear hn1 hrl
  go_wp2
  have HP0 := HDD.out.1
  have hpt : w2.cell? ⟨fg, n1, none⟩ = some h1.ptr := by
    have q := HCL.out n1 h1.ptr (by rw [HO.out, H0.out, hp1.out]; simp)
    rw [← q]
    exact congrFun (congrArg World.cell? rfl) _ |>.trans (by
      have hb := HMa.out.block fg (by
        have := HH.out.fr.lt fg (by rw [HFV.out]; rfl)
        exact this.2) (fun h => h)
      simp only [World.cell?, hb])
  have k1 : (w2.setCell ⟨o.g, 1, none⟩ (.slice (some ⟨fg, 0, none⟩) n fc)).drew.cell? ⟨o.g, 1, none⟩ = some (.slice (some ⟨fg, 0, none⟩) n fc) := blk_cell HP0.drew.blk 1
  have k2 : (w2.setCell ⟨o.g, 1, none⟩ (.slice (some ⟨fg, 0, none⟩) n fc)).drew.cell? ⟨fg, n1, none⟩ = some (.pointer (some ⟨h1.g, 0, none⟩)) := by
    rw [show (w2.setCell ⟨o.g, 1, none⟩ (.slice (some ⟨fg, 0, none⟩) n fc)).drew.cell? ⟨fg, n1, none⟩ = (w2.setCell ⟨o.g, 1, none⟩ (.slice (some ⟨fg, 0, none⟩) n fc)).cell? ⟨fg, n1, none⟩ from rfl]
    simp only [World.cell?, Below.heap_setCell w2 ⟨o.g, 1, none⟩ (.slice (some ⟨fg, 0, none⟩) n fc) fg hfg] at hpt ⊢
    exact hpt
  have HPOP : Aside0 (Calls Tryd.prog 37 #[.pointer (some ⟨h.g, 0, none⟩)] (w2.setCell ⟨o.g, 1, none⟩ (.slice (some ⟨fg, 0, none⟩) n fc)).drew (fun e w3 => e = .returned (.int .i64 x) ∧ MOn Rd w3 { o with fv := .slice (some ⟨fg, 0, none⟩) n fc, hs := hs0 } { m with frames := r } ∧
      w3.cell? ⟨o.g, 1, none⟩ = some (.slice (some ⟨fg, 0, none⟩) n fc) ∧ w3.cell? ⟨fg, n1, none⟩ = some (.pointer (some ⟨h1.g, 0, none⟩)) ∧ Mod (fun k => k = h.g) (w2.setCell ⟨o.g, 1, none⟩ (.slice (some ⟨fg, 0, none⟩) n fc)).drew w3)) := ⟨by
    refine ((HDD.out.2.2.1.drew).pop s x HST.out).mono ?_
    rintro e w3 ⟨rfl, v3, hv3, HF3, HM3⟩
    have hhb : h.g ∈ h.blocks := by simp [Ho.blocks]
    have HMO := HDD.out.1.drew.mod HM3 (fun k hk e => by subst e; exact hk.elim (fun hk => HDD.out.2.2.2 _ hhb hk) (fun hk => HH.out.rd _ (top_own HO.out _ hhb) hk))
    refine ⟨rfl, HMO, blk_cell HMO.blk 1, ?_, HM3⟩
    have hb := HM3.block fg (World.block_lt_of_cell? _ _ k2) (fun e => (top_apart HH.out HO.out h.g hhb).2.1 (by rw [HFV.out, ← e]; rfl))
    rw [← k2]
    simp only [World.cell?, hb]⟩
  clear hpt HP0 c1 c2
  go_region_held3 (fun W => W.cell? ⟨o.g, 1, none⟩ = some (.slice (some ⟨fg, 0, none⟩) n fc) ∧ W.cell? ⟨fg, n1, none⟩ = some (.pointer (some ⟨h1.g, 0, none⟩))) (first | exact ⟨by assumption, by assumption⟩ | go_keep | exact ⟨q3, q4⟩) (first
    | ((with_reducible refine HPOP.out.mono ?_); rintro e w3 ⟨rfl, HMO, q1, q2, HM3⟩; have HMO := Aside0.mk HMO; have HM3 := Aside0.mk HM3; have HTOP : Aside0 (Calls Tryd.prog 38 #[.pointer (some ⟨h1.g, 0, none⟩), .int .i64 x] w3 _) := ⟨(HMO.out.top H0.out HR0.out).push x hp⟩)
    | ((with_reducible refine HTOP.out.mono ?_); rintro e w4 ⟨rfl, v4, hv4, HF4, HM4⟩; have HN4 := Aside0.mk (HMO.out.setTop H0.out HR0.out (HM4.mono (fun k _ h => by rcases h with rfl | h <;> simp [Ho.blocks, *])) hv4 HF4); have q3 := blk_cell HN4.out.blk 1; have q4 : w4.cell? ⟨fg, n1, none⟩ = some (.pointer (some ⟨h1.g, 0, none⟩)) := by { have hb := HM4.block fg (World.block_lt_of_cell? _ _ q2) (fun e => (top_apart HMO.out H0.out fg (by rcases e with e | e <;> simp [Ho.blocks, e])).2.1 rfl); rw [← q2]; simp only [World.cell?, hb] }; have HM4 := Aside0.mk HM4; have HV4 := Aside0.mk hv4; clear HF4 hv4))
  go_end0
  have hMs : Mod (fun k => k ∈ o.own) w (w2.setCell ⟨o.g, 1, none⟩ (.slice (some ⟨fg, 0, none⟩) n fc)) := (HMa.out.mono (fun _ _ h => h.elim)).setCell (p := ⟨o.g, 1, none⟩) (fun _ => by simp [MHo.own]) _
  have hsub0 := HDD.out.2.1
  have hsub : Sub w o { o with fv := .slice (some ⟨fg, 0, none⟩) n fc, hs := hs0 } := ⟨rfl, fun k hk => .inl (hsub0 k hk)⟩
  have hM3 : Mod (fun k => k ∈ o.own) w w3 := hMs.drew.trans HM3.out (fun k _ e => by subst e; exact top_own HO.out _ (by simp [Ho.blocks]))
  have ht := top_own (o := { o with fv := .slice (some ⟨fg, 0, none⟩) n fc, hs := hs0 }) H0.out
  have hin : ∀ k ∈ h1.blocks, k ∈ o.own := fun k hk => hsub0 k (ht k hk)
  exact ⟨rfl, _, hsub.trans hM3.size (setTop_sub H0.out HV4.out), HN4.out, hM3.trans HM4.out (fun k _ h => hin k (by rcases h with rfl | h <;> simp [Ho.blocks, *]))⟩
end
end Go.Proofs.YthckiolgpgplpaaDoor
end
section
namespace Go.Proofs.YthckiolgpgplpaaDoor
open Go.RowKit Go.Proofs.YthckiolgpgplpaaDoorW.PrintWords Go.Proofs.YthckiolgpgplpaaDoorW.PrintLast Go.Proofs.YthckiolgpgplpaaDoorW.PrintMore Go.Proofs.YthckiolgpgplpaaDoor.P
set_option linter.unusedVariables false
set_option linter.unusedSimpArgs false
set_option maxRecDepth 1000000
set_option maxHeartbeats 800000
theorem data_drop {w : World} {h : Ho} {f : Fr} (H : FrOn w h f) (n m x : Int) (s : List Int) (hs : f.stack = s ++ [x]) :
    Calls Tryd.prog 40 #[h.ptr, .agg #[.int .i64 25, .int .i64 n, .int .i64 m]] w (DataPost w h 0 { f with stack := s }) := by
  obtain ⟨g, vc, vs⟩ := h
  have HH := Aside0.mk H; clear H; have HS := Aside0.mk hs; clear hs
  show Calls Tryd.prog 40 #[.pointer (some ⟨g, 0, none⟩), .agg #[.int .i64 25, .int .i64 n, .int .i64 m]] w _
  go_enter Tryd.func40, Tryd.ntmps40
  go_wp2_with ((with_reducible refine gate_callee (f := 37) rfl ?_); refine goesL_ (some 157) rfl rfl Tryd.func37 (by kernel_rfl) rfl #[.pointer (some ⟨g, 0, none⟩)] rfl (by (try simp only [List.map_toArray, List.map_cons, List.map_nil]); first | done | rfl) ?_; refine ((HH.out.alloc _).pop s x HS.out).mono ?_; rintro e w1 ⟨rfl, v1, hv1, HF1, HM1⟩; have HF1 := Aside0.mk HF1; have HM1 := Aside0.mk HM1; refine ⟨_, rfl, ?_⟩)
  go_ret
  have HF1 := HF1.out; have HM1 := HM1.out
  refine ⟨rfl, v1, fun k e => .inl (hv1 ▸ e), HF1, ((Mod.refl _ w).alloc _).trans HM1 (fun i hi h => ?_)⟩
  subst h; simp [Ho.blocks]
theorem FrOn.drewN {w : World} {h : Ho} {f : Fr} (H : FrOn w h f) (k : Nat) : FrOn (w.drewN k) h f := H.kept (fun _ _ => rfl)
/-- Behind a pop and a push. -/
theorem post2 {w w1 w3 : World} {g : Nat} {vc vs v1 v3 : Value} {f3 : Fr} {k : Nat} {o : Obj} (hv1 : v1.ownBlock = vs.ownBlock) (HM1 : Mod (fun k => k = g) (w.alloc o) w1)
    (hv3 : ∀ k', v3.ownBlock = some k' → v1.ownBlock = some k' ∨ (w1.drewN k).heap.size ≤ k') (HF3 : FrOn w3 ⟨g, vc, v3⟩ f3) (HM3 : Mod (fun k => k = g ∨ v1.ownBlock = some k) (w1.drewN k) w3) : DataPost w ⟨g, vc, vs⟩ 0 f3 (.returned (.int .i64 0)) w3 := by
  have h1 : w.heap.size ≤ w1.heap.size := Nat.le_trans (by show _ ≤ (w.heap.push o).size; rw [Array.size_push]; omega) HM1.size
  have hM : Mod (fun k => k ∈ Ho.blocks ⟨g, vc, vs⟩) w (w1.drewN k) := by
    have h2 : Mod (fun k => k ∈ Ho.blocks ⟨g, vc, vs⟩) w w1 := ((Mod.refl _ w).alloc _).trans HM1 (fun i hi h => by subst h; simp [Ho.blocks])
    exact ⟨h2.os, h2.tape, h2.output, h2.size, h2.block⟩
  refine ⟨rfl, v3, fun k' e => ?_, HF3, hM.trans HM3 (fun i hi h => ?_)⟩
  · rcases hv3 k' e with h | h
    · exact .inl (hv1 ▸ h)
    · exact .inr (Nat.le_trans h1 h)
  · rcases h with rfl | h
    · simp [Ho.blocks]
    · rw [hv1] at h; simp [Ho.blocks, h]
theorem data_neg {w : World} {h : Ho} {f : Fr} (H : FrOn w h f) (n m x : Int) (s : List Int) (hs : f.stack = s ++ [x]) (hl : f.stack.length ≤ 1000000) :
    Calls Tryd.prog 40 #[h.ptr, .agg #[.int .i64 16, .int .i64 n, .int .i64 m]] w (DataPost w h 0 { f with stack := s ++ [wrap64 (-x)] }) := by
  obtain ⟨g, vc, vs⟩ := h
  have HH := Aside0.mk H; clear H; have HS := Aside0.mk hs; clear hs
  show Calls Tryd.prog 40 #[.pointer (some ⟨g, 0, none⟩), .agg #[.int .i64 16, .int .i64 n, .int .i64 m]] w _
  have hl1 : s.length + 1 ≤ 1000000 := by have e := congrArg List.length HS.out; simp at e; omega
  have HL := Aside0.mk hl1; clear hl1 hl
  go_enter Tryd.func40, Tryd.ntmps40
  go_wp2_with (first | ((with_reducible refine gate_callee (f := 37) rfl ?_); refine goesL_ (some 127) rfl rfl Tryd.func37 (by kernel_rfl) rfl #[.pointer (some ⟨g, 0, none⟩)] rfl (by (try simp only [List.map_toArray, List.map_cons, List.map_nil]); first | done | rfl) ?_; refine ((HH.out.alloc _).pop s x HS.out).mono ?_; rintro e w1 ⟨rfl, v1, hv1, HF1, HM1⟩; have HF1 := Aside0.mk HF1; have HM1 := Aside0.mk HM1; have HV1 := Aside0.mk hv1; clear hv1; refine ⟨_, rfl, ?_⟩) | ((with_reducible refine gate_callee (f := 52) rfl ?_); refine goesL_ (some 128) rfl rfl Tryd.func52 (by kernel_rfl) rfl #[.int .i64 x] rfl (by (try simp only [List.map_toArray, List.map_cons, List.map_nil]); first | done | rfl) ?_; refine (num_Neg.calls x (wrap64 (-x)) _ rfl).mono ?_; rintro e w2 ⟨rfl, nd, rfl⟩; refine ⟨_, rfl, ?_⟩) | ((with_reducible refine gate_callee (f := 38) rfl ?_); refine goesL_ (some 129) rfl rfl Tryd.func38 (by kernel_rfl) rfl #[.pointer (some ⟨g, 0, none⟩), .int .i64 (wrap64 (-x))] rfl (by (try simp only [List.map_toArray, List.map_cons, List.map_nil]); first | done | rfl) ?_; refine ((HF1.out.drewN _).push (wrap64 (-x)) HL.out).mono ?_; rintro e w3 ⟨rfl, v3, hv3, HF3, HM3⟩; have HF3 := Aside0.mk HF3; have HM3 := Aside0.mk HM3; have HV3 := Aside0.mk hv3; clear hv3; refine ⟨_, rfl, ?_⟩))
  go_ret
  exact post2 HV1.out HM1.out HV3.out HF3.out HM3.out
theorem data_not {w : World} {h : Ho} {f : Fr} (H : FrOn w h f) (n m x : Int) (s : List Int) (hs : f.stack = s ++ [x]) (hl : f.stack.length ≤ 1000000) :
    Calls Tryd.prog 40 #[h.ptr, .agg #[.int .i64 15, .int .i64 n, .int .i64 m]] w (DataPost w h 0 { f with stack := s ++ [if x = 0 then 1 else 0] }) := by
  obtain ⟨g, vc, vs⟩ := h
  have HH := Aside0.mk H; clear H; have HS := Aside0.mk hs; clear hs
  show Calls Tryd.prog 40 #[.pointer (some ⟨g, 0, none⟩), .agg #[.int .i64 15, .int .i64 n, .int .i64 m]] w _
  have hl1 : s.length + 1 ≤ 1000000 := by have e := congrArg List.length HS.out; simp at e; omega
  have HL := Aside0.mk hl1; clear hl1 hl
  by_cases hx : x = 0
  · subst hx
    go_enter Tryd.func40, Tryd.ntmps40
    go_wp2_with (first | ((with_reducible refine gate_callee (f := 37) rfl ?_); refine goesL_ (some 119) rfl rfl Tryd.func37 (by kernel_rfl) rfl #[.pointer (some ⟨g, 0, none⟩)] rfl (by (try simp only [List.map_toArray, List.map_cons, List.map_nil]); first | done | rfl) ?_; refine ((HH.out.alloc _).pop s 0 HS.out).mono ?_; rintro e w1 ⟨rfl, v1, hv1, HF1, HM1⟩; have HF1 := Aside0.mk HF1; have HM1 := Aside0.mk HM1; have HV1 := Aside0.mk hv1; clear hv1; refine ⟨_, rfl, ?_⟩) | ((with_reducible refine gate_callee (f := 51) rfl ?_); refine goesL_ (some 121) rfl rfl Tryd.func51 (by kernel_rfl) rfl #[.bool true] rfl (by (try simp only [List.map_toArray, List.map_cons, List.map_nil]); first | done | rfl) ?_; refine (vm_truth.calls true 1 _ rfl).mono ?_; rintro e w2 ⟨rfl, nd, rfl⟩; refine ⟨_, rfl, ?_⟩) | ((with_reducible refine gate_callee (f := 38) rfl ?_); refine goesL_ (some 122) rfl rfl Tryd.func38 (by kernel_rfl) rfl #[.pointer (some ⟨g, 0, none⟩), .int .i64 1] rfl (by (try simp only [List.map_toArray, List.map_cons, List.map_nil]); first | done | rfl) ?_; refine ((HF1.out.drewN _).push 1 HL.out).mono ?_; rintro e w3 ⟨rfl, v3, hv3, HF3, HM3⟩; have HF3 := Aside0.mk HF3; have HM3 := Aside0.mk HM3; have HV3 := Aside0.mk hv3; clear hv3; refine ⟨_, rfl, ?_⟩))
    go_ret
    exact post2 HV1.out HM1.out HV3.out HF3.out HM3.out
  · rw [if_neg hx]
    have hxb : (x == 0) = false := beq_eq_false_iff_ne.mpr hx
    go_enter Tryd.func40, Tryd.ntmps40
    go_wp2_with (first | ((with_reducible refine gate_callee (f := 37) rfl ?_); refine goesL_ (some 119) rfl rfl Tryd.func37 (by kernel_rfl) rfl #[.pointer (some ⟨g, 0, none⟩)] rfl (by (try simp only [List.map_toArray, List.map_cons, List.map_nil]); first | done | rfl) ?_; refine ((HH.out.alloc _).pop s x HS.out).mono ?_; rintro e w1 ⟨rfl, v1, hv1, HF1, HM1⟩; have HF1 := Aside0.mk HF1; have HM1 := Aside0.mk HM1; have HV1 := Aside0.mk hv1; clear hv1; refine ⟨_, rfl, ?_⟩) | ((with_reducible refine gate_callee (f := 51) rfl ?_); refine goesL_ (some 121) rfl rfl Tryd.func51 (by kernel_rfl) rfl #[.bool false] rfl (by (try simp only [List.map_toArray, List.map_cons, List.map_nil]); first | done | rfl) ?_; refine (vm_truth.calls false 0 _ rfl).mono ?_; rintro e w2 ⟨rfl, nd, rfl⟩; refine ⟨_, rfl, ?_⟩) | ((with_reducible refine gate_callee (f := 38) rfl ?_); refine goesL_ (some 122) rfl rfl Tryd.func38 (by kernel_rfl) rfl #[.pointer (some ⟨g, 0, none⟩), .int .i64 0] rfl (by (try simp only [List.map_toArray, List.map_cons, List.map_nil]); first | done | rfl) ?_; refine ((HF1.out.drewN _).push 0 HL.out).mono ?_; rintro e w3 ⟨rfl, v3, hv3, HF3, HM3⟩; have HF3 := Aside0.mk HF3; have HM3 := Aside0.mk HM3; have HV3 := Aside0.mk hv3; clear hv3; refine ⟨_, rfl, ?_⟩))
    go_ret
    exact post2 HV1.out HM1.out HV3.out HF3.out HM3.out
theorem FrOn.setAt {w : World} {g : Nat} {vc vs : Value} {f : Fr} (H : FrOn w ⟨g, vc, vs⟩ f) (n : Int) : FrOn (w.setCell ⟨g, 1, none⟩ (.int .i64 n)) ⟨g, vc, vs⟩ { f with at_ := n } :=
  ⟨blk_set H.blk 1 _, own_move H.cs (fun k e => Below.heap_setCell _ _ _ _ (by rintro rfl; exact H.vc_ne e)), own_move H.st (fun k e => Below.heap_setCell _ _ _ _ (by rintro rfl; exact H.vs_ne e)), H.nd⟩
theorem data_jump {w : World} {h : Ho} {f : Fr} (H : FrOn w h f) (n m : Int) :
    Calls Tryd.prog 40 #[h.ptr, .agg #[.int .i64 17, .int .i64 n, .int .i64 m]] w (DataPost w h 0 { f with at_ := n }) := by
  obtain ⟨g, vc, vs⟩ := h
  have a0 : (w.alloc (.cells #[.int .i64 17, .int .i64 n, .int .i64 m] 43)).cell? ⟨g, 1, none⟩ = some (.int .i64 f.at_) := blk_cell (blk_alloc H.blk _) 1
  have a1 : (w.alloc (.cells #[.int .i64 17, .int .i64 n, .int .i64 m] 43)).frozen? ⟨g, 1, none⟩ = false := blk_frozen (blk_alloc H.blk _) 1
  have HH := Aside0.mk H; clear H
  show Calls Tryd.prog 40 #[.pointer (some ⟨g, 0, none⟩), .agg #[.int .i64 17, .int .i64 n, .int .i64 m]] w _
  go_enter Tryd.func40, Tryd.ntmps40
  go_wp2
  go_ret
  exact ⟨rfl, vs, fun k e => .inl e, (HH.out.alloc _).setAt n, ((Mod.refl _ w).alloc _).setCell (p := ⟨g, 1, none⟩) (fun _ => by simp [Ho.blocks]) _⟩
theorem data_zero {w : World} {h : Ho} {f : Fr} (H : FrOn w h f) (n m x : Int) (s : List Int) (hs : f.stack = s ++ [x]) :
    Calls Tryd.prog 40 #[h.ptr, .agg #[.int .i64 18, .int .i64 n, .int .i64 m]] w (DataPost w h 0 { f with stack := s, at_ := if x = 0 then n else f.at_ }) := by
  obtain ⟨g, vc, vs⟩ := h
  have HG := Aside0.mk (blk_lt H.blk); have HH := Aside0.mk H; clear H; have HS := Aside0.mk hs; clear hs
  show Calls Tryd.prog 40 #[.pointer (some ⟨g, 0, none⟩), .agg #[.int .i64 18, .int .i64 n, .int .i64 m]] w _
  by_cases hx : x = 0
  · subst hx
    go_enter Tryd.func40, Tryd.ntmps40
    go_wp2_with (first | ((with_reducible refine gate_callee (f := 37) rfl ?_); refine goesL_ (some 141) rfl rfl Tryd.func37 (by kernel_rfl) rfl #[.pointer (some ⟨g, 0, none⟩)] rfl (by (try simp only [List.map_toArray, List.map_cons, List.map_nil]); first | done | rfl) ?_; refine ((HH.out.alloc _).pop s 0 HS.out).mono ?_; rintro e w1 ⟨rfl, v1, hv1, HF1, HM1⟩; have b0 : w1.cell? ⟨g, 1, none⟩ = some (.int .i64 f.at_) := blk_cell HF1.blk 1; have b2 : w1.cell? ⟨w.heap.size, 1, none⟩ = some (.int .i64 n) := blk_cell ((HM1.block w.heap.size (by show _ < (w.heap.push _).size; rw [Array.size_push]; omega) (Nat.ne_of_gt HG.out)).trans (blk_new w _)) 1; have b1 : w1.frozen? ⟨g, 1, none⟩ = false := blk_frozen HF1.blk 1; have HF1 := Aside0.mk HF1; have HM1 := Aside0.mk HM1; have HV1 := Aside0.mk hv1; clear hv1; refine ⟨_, rfl, ?_⟩))
    go_ret
    have HF1 := HF1.out; have HM1 := HM1.out; have HV1 := HV1.out
    refine ⟨rfl, v1, fun k e => .inl (HV1 ▸ e), HF1.setAt n, (((Mod.refl _ w).alloc _).trans HM1 (fun i hi h => ?_)).setCell (p := ⟨g, 1, none⟩) (fun _ => by simp [Ho.blocks]) _⟩
    subst h; simp [Ho.blocks]
  · rw [if_neg hx]
    have hxb : (x == 0) = false := beq_eq_false_iff_ne.mpr hx
    go_enter Tryd.func40, Tryd.ntmps40
    go_wp2_with (first | ((with_reducible refine gate_callee (f := 37) rfl ?_); refine goesL_ (some 141) rfl rfl Tryd.func37 (by kernel_rfl) rfl #[.pointer (some ⟨g, 0, none⟩)] rfl (by (try simp only [List.map_toArray, List.map_cons, List.map_nil]); first | done | rfl) ?_; refine ((HH.out.alloc _).pop s x HS.out).mono ?_; rintro e w1 ⟨rfl, v1, hv1, HF1, HM1⟩; have b0 : w1.cell? ⟨g, 1, none⟩ = some (.int .i64 f.at_) := blk_cell HF1.blk 1; have b1 : w1.frozen? ⟨g, 1, none⟩ = false := blk_frozen HF1.blk 1; have HF1 := Aside0.mk HF1; have HM1 := Aside0.mk HM1; have HV1 := Aside0.mk hv1; clear hv1; refine ⟨_, rfl, ?_⟩))
    go_ret
    have HF1 := HF1.out; have HM1 := HM1.out; have HV1 := HV1.out
    refine ⟨rfl, v1, fun k e => .inl (HV1 ▸ e), HF1, ((Mod.refl _ w).alloc _).trans HM1 (fun i hi h => ?_)⟩
    subst h; simp [Ho.blocks]
theorem data_test {w : World} {h : Ho} {f : Fr} (H : FrOn w h f) (n m x : Int) (s : List Int) (hs : f.stack = s ++ [x]) :
    Calls Tryd.prog 40 #[h.ptr, .agg #[.int .i64 23, .int .i64 n, .int .i64 m]] w (DataPost w h (if x = 0 then 3 else 0) { f with stack := s }) := by
  obtain ⟨g, vc, vs⟩ := h
  have HH := Aside0.mk H; clear H; have HS := Aside0.mk hs; clear hs
  show Calls Tryd.prog 40 #[.pointer (some ⟨g, 0, none⟩), .agg #[.int .i64 23, .int .i64 n, .int .i64 m]] w _
  by_cases hx : x = 0
  · subst hx
    go_enter Tryd.func40, Tryd.ntmps40
    go_wp2_with (first | ((with_reducible refine gate_callee (f := 37) rfl ?_); refine goesL_ (some 152) rfl rfl Tryd.func37 (by kernel_rfl) rfl #[.pointer (some ⟨g, 0, none⟩)] rfl (by (try simp only [List.map_toArray, List.map_cons, List.map_nil]); first | done | rfl) ?_; refine ((HH.out.alloc _).pop s 0 HS.out).mono ?_; rintro e w1 ⟨rfl, v1, hv1, HF1, HM1⟩; have HF1 := Aside0.mk HF1; have HM1 := Aside0.mk HM1; have HV1 := Aside0.mk hv1; clear hv1; refine ⟨_, rfl, ?_⟩))
    go_ret
    have HF1 := HF1.out; have HM1 := HM1.out; have HV1 := HV1.out
    refine ⟨rfl, v1, fun k e => .inl (HV1 ▸ e), HF1, ((Mod.refl _ w).alloc _).trans HM1 (fun i hi h => ?_)⟩
    subst h; simp [Ho.blocks]
  · rw [if_neg hx]
    have hxb : (x == 0) = false := beq_eq_false_iff_ne.mpr hx
    go_enter Tryd.func40, Tryd.ntmps40
    go_wp2_with (first | ((with_reducible refine gate_callee (f := 37) rfl ?_); refine goesL_ (some 152) rfl rfl Tryd.func37 (by kernel_rfl) rfl #[.pointer (some ⟨g, 0, none⟩)] rfl (by (try simp only [List.map_toArray, List.map_cons, List.map_nil]); first | done | rfl) ?_; refine ((HH.out.alloc _).pop s x HS.out).mono ?_; rintro e w1 ⟨rfl, v1, hv1, HF1, HM1⟩; have HF1 := Aside0.mk HF1; have HM1 := Aside0.mk HM1; have HV1 := Aside0.mk hv1; clear hv1; refine ⟨_, rfl, ?_⟩))
    go_ret
    have HF1 := HF1.out; have HM1 := HM1.out; have HV1 := HV1.out
    refine ⟨rfl, v1, fun k e => .inl (HV1 ▸ e), HF1, ((Mod.refl _ w).alloc _).trans HM1 (fun i hi h => ?_)⟩
    subst h; simp [Ho.blocks]
end Go.Proofs.YthckiolgpgplpaaDoor
end
section
namespace Go.Proofs.YthckiolgpgplpaaDoor
open Go.RowKit Go.Proofs.YthckiolgpgplpaaDoorW.PrintWords Go.Proofs.YthckiolgpgplpaaDoorW.PrintLast Go.Proofs.YthckiolgpgplpaaDoorW.PrintMore Go.Proofs.YthckiolgpgplpaaDoor.P
set_option linter.unusedVariables false
set_option linter.unusedSimpArgs false
set_option maxRecDepth 1000000
set_option maxHeartbeats 400000
theorem FrOn.cross {w : World} {h : Ho} {f : Fr} (H : FrOn w h f) (k : Nat) (e : h.vc.ownBlock = some k) : h.vs.ownBlock ≠ some k := fun e2 => by
  have nd := H.nd
  simp [Ho.blocks, e, e2] at nd
theorem FrOn.setCells {w : World} {g sg cap : Nat} {vs : Value} {f : Fr} (H : FrOn w ⟨g, .slice (some ⟨sg, 0, none⟩) f.cells.length cap, vs⟩ f) (n : Nat) (x : Int) (hn : n < f.cells.length) :
    FrOn (w.setCell ⟨sg, n, none⟩ (.int .i64 x)) ⟨g, .slice (some ⟨sg, 0, none⟩) f.cells.length cap, vs⟩ { f with cells := f.cells.set n x } := by
  have nd := H.nd
  have e1 : sg ≠ g := by have := H.vc_ne; simpa [Value.ownBlock] using this
  have e2 : vs.ownBlock ≠ some sg := H.cross sg rfl
  refine ⟨(Below.heap_setCell _ _ _ _ (Ne.symm e1)).trans H.blk, ?_, own_move H.st (fun k e => Below.heap_setCell _ _ _ _ (by rintro rfl; exact e2 e)), H.nd⟩
  rcases H.cs.2 with ⟨_, h0⟩ | ⟨sg', cap', cur, he, hb, hh, hn', hcap, hsz, htk⟩
  · omega
  · have e3 : sg = sg' := by simpa using (Value.slice.inj he).1
    have e4 : cap = cap' := (Value.slice.inj he).2.2
    subst e3 e4
    refine ⟨by simp [ints], .inr ⟨sg, cap, cur.setIfInBounds n (.int .i64 x), by simp, hb, blk_set hh n _, by simpa using hn', hcap, by simpa using hsz, ?_⟩⟩
    show ((cur.setIfInBounds n (.int .i64 x)).toList.take ((f.cells.set n x).length * 1)) = ints (f.cells.set n x)
    rw [Array.toList_setIfInBounds, List.take_set, show (f.cells.set n x).length * 1 = f.cells.length * 1 by simp, htk]
    simp [ints, List.map_set]
theorem FrOn.cellAt {w : World} {g sg l cap : Nat} {vs : Value} {f : Fr} (H : FrOn w ⟨g, .slice (some ⟨sg, 0, none⟩) l cap, vs⟩ f) (n : Nat) (hn : n < f.cells.length) :
    w.cell? ⟨sg, n, none⟩ = some (.int .i64 (f.cells.getD n 0)) ∧ w.frozen? ⟨sg, n, none⟩ = false := by
  obtain ⟨sg', cap', cur, e, _, _, hh, hsz, hcell⟩ := ownsInt H.cs (by intro e; simp [e] at hn)
  have q : sg = sg' := by simpa using (Value.slice.inj e).1
  subst q
  refine ⟨hcell n _ ?_, blk_frozen hh n⟩
  rw [List.getElem?_eq_getElem hn, List.getD_eq_getElem?_getD, List.getElem?_eq_getElem hn]
  rfl
theorem data_store {w : World} {h : Ho} {f : Fr} (H : FrOn w h f) (n : Nat) (m x : Int) (s : List Int) (hs : f.stack = s ++ [x]) (hn : n < f.cells.length) :
    Calls Tryd.prog 40 #[h.ptr, .agg #[.int .i64 3, .int .i64 n, .int .i64 m]] w (DataPost w h 0 { f with cells := f.cells.set n x, stack := s }) := by
  obtain ⟨g, vc, vs⟩ := h
  obtain ⟨sg, cap, cur, rfl, hn2, hcap, hh, hsz, hcell⟩ := ownsInt H.cs (by intro e; simp [e] at hn)
  have hb := H.blk; have hgl := blk_lt hb; have hsl := blk_lt hh
  have esg : sg ≠ g := by have := H.vc_ne; simpa [Value.ownBlock] using this
  have HH := Aside0.mk (H.alloc (.cells #[.int .i64 3, .int .i64 n, .int .i64 m] 43)).drew; have hne1 : w.heap.size ≠ g := Nat.ne_of_gt hgl; have hne2 : sg ≠ w.heap.size := Nat.ne_of_lt hsl
  have c3 : (w.alloc (.cells #[.int .i64 3, .int .i64 n, .int .i64 m] 43)).drew.cell? ⟨g, 3, none⟩ = some (.slice (some ⟨sg, 0, none⟩) f.cells.length cap) := blk_cell HH.out.blk 3
  have c1 : (w.alloc (.cells #[.int .i64 3, .int .i64 n, .int .i64 m] 43)).drew.cell? ⟨w.heap.size, 1, none⟩ = some (.int .i64 n) := blk_cell (blk_new w _) 1
  have HS := Aside0.mk hs; clear hs H hb hh hcell hsz
  have HN := Aside0.mk hn
  have hneA := Aside0.mk hne1; have hsgA := Aside0.mk hsl; have hesg := Aside0.mk esg
  have HC : Aside0 (Calls Tryd.prog 37 #[.pointer (some ⟨g, 0, none⟩)] (w.alloc (.cells #[.int .i64 3, .int .i64 n, .int .i64 m] 43)).drew _) := ⟨HH.out.pop s x HS.out⟩
  show Calls Tryd.prog 40 #[.pointer (some ⟨g, 0, none⟩), .agg #[.int .i64 3, .int .i64 n, .int .i64 m]] w _
  go_enter Tryd.func40, Tryd.ntmps40
  go_wp2
  go_region_held3 (fun W => W.cell? ⟨g, 3, none⟩ = some (.slice (some ⟨sg, 0, none⟩) f.cells.length cap) ∧ W.cell? ⟨w.heap.size, 1, none⟩ = some (.int .i64 n)) (first | exact ⟨by assumption, by assumption⟩ | go_keep) (((with_reducible refine HC.out.mono ?_); rintro e w1 ⟨rfl, v1, hv1, HF1, HM1⟩; have k3 : w1.cell? ⟨g, 3, none⟩ = some (.slice (some ⟨sg, 0, none⟩) f.cells.length cap) := blk_cell HF1.blk 3; have k1 : w1.cell? ⟨w.heap.size, 1, none⟩ = some (.int .i64 n) := blk_cell ((HM1.block w.heap.size (by show _ < (w.heap.push _).size; rw [Array.size_push]; omega) hneA.out).trans (blk_new w _)) 1; obtain ⟨kc, kf⟩ := HF1.cellAt n HN.out; have HF1 := Aside0.mk HF1; have HM1 := Aside0.mk HM1; have HV1 := Aside0.mk hv1; clear hv1))
  go_wp2
  go_ret
  refine ⟨rfl, v1, fun k e => .inl (HV1.out ▸ e), FrOn.setCells (f := { f with stack := s }) HF1.out n x HN.out, ((((Mod.refl _ w).alloc _).drew).trans HM1.out (fun i hi h => ?_)).setCell (p := ⟨sg, n, none⟩) (fun _ => by simp [Ho.blocks, Value.ownBlock]) _⟩
  subst h; simp [Ho.blocks]
theorem FrOn.below {w w' : World} {h : Ho} {f : Fr} (H : FrOn w h f) (hb : Below w.heap.size w w') : FrOn w' h f := H.mod (Mod.of_below hb (fun _ => False)) (fun _ _ h => h)
theorem data_index_trap {w : World} {h : Ho} {f : Fr} (H : FrOn w h f) (n m x : Int) (s : List Int) (hs : f.stack = s ++ [x]) (hx : x < 0 ∨ m ≤ x) :
    Calls Tryd.prog 40 #[h.ptr, .agg #[.int .i64 4, .int .i64 n, .int .i64 m]] w (DataPost w h 2 { f with stack := s }) := by
  obtain ⟨g, vc, vs⟩ := h
  have hgl := blk_lt H.blk
  have HH := Aside0.mk (H.alloc (.cells #[.int .i64 4, .int .i64 n, .int .i64 m] 43)).drew; have hneA := Aside0.mk (Nat.ne_of_gt hgl)
  have c0 : (w.alloc (.cells #[.int .i64 4, .int .i64 n, .int .i64 m] 43)).drew.cell? ⟨w.heap.size, 0, none⟩ = some (.int .i64 4) := blk_cell (blk_new w _) 0
  have c1 : (w.alloc (.cells #[.int .i64 4, .int .i64 n, .int .i64 m] 43)).drew.cell? ⟨w.heap.size, 1, none⟩ = some (.int .i64 n) := blk_cell (blk_new w _) 1
  have c2 : (w.alloc (.cells #[.int .i64 4, .int .i64 n, .int .i64 m] 43)).drew.cell? ⟨w.heap.size, 2, none⟩ = some (.int .i64 m) := blk_cell (blk_new w _) 2
  have HS := Aside0.mk hs; clear hs H
  have HC : Aside0 (Calls Tryd.prog 37 #[.pointer (some ⟨g, 0, none⟩)] (w.alloc (.cells #[.int .i64 4, .int .i64 n, .int .i64 m] 43)).drew _) := ⟨HH.out.pop s x HS.out⟩
  have HK : Aside0 (vm_cell.f 4 n m x = some (0, 2)) := ⟨by
    unfold vm_cell.f
    by_cases h : x < 0
    · rw [if_pos h]
    · rw [if_neg h, if_pos (by omega)]⟩
  clear hx
  show Calls Tryd.prog 40 #[.pointer (some ⟨g, 0, none⟩), .agg #[.int .i64 4, .int .i64 n, .int .i64 m]] w _
  go_enter Tryd.func40, Tryd.ntmps40
  go_wp2
  go_region_held3 (fun W => W.cell? ⟨w.heap.size, 0, none⟩ = some (.int .i64 4) ∧ W.cell? ⟨w.heap.size, 1, none⟩ = some (.int .i64 n) ∧ W.cell? ⟨w.heap.size, 2, none⟩ = some (.int .i64 m)) (first | exact ⟨by assumption, by assumption, by assumption⟩ | go_keep) (first | ((with_reducible refine HC.out.mono ?_); rintro e w1 ⟨rfl, v1, hv1, HF1, HM1⟩; have kb := (HM1.block w.heap.size (by show _ < (w.heap.push _).size; rw [Array.size_push]; omega) hneA.out).trans (blk_new w _); have k0 := blk_cell kb 0; have k1 := blk_cell kb 1; have k2 := blk_cell kb 2; have HB := Aside0.mk kb; have HF1 := Aside0.mk HF1; have HM1 := Aside0.mk HM1; have HV1 := Aside0.mk hv1; clear hv1 kb) | ((with_reducible refine (vm_cell.calls 4 n m x 0 2 _ HK.out).mono ?_); rintro e w2 ⟨rfl, hb⟩; have kb := blk_below HB.out hb; have k0 := blk_cell kb 0; have k1 := blk_cell kb 1; have k2 := blk_cell kb 2; have HB2 := Aside0.mk hb; clear hb kb))
  go_wp2
  go_ret
  refine ⟨rfl, v1, fun k e => .inl (HV1.out ▸ e), HF1.out.below HB2.out, ((((Mod.refl _ w).alloc _).drew).trans HM1.out (fun i hi h => ?_)).trans (Mod.of_below HB2.out (fun _ => False)) (fun _ _ h => h.elim)⟩
  subst h; simp [Ho.blocks]
end Go.Proofs.YthckiolgpgplpaaDoor
end
section
namespace Go.Proofs.YthckiolgpgplpaaDoor
open Go.RowKit Go.Proofs.YthckiolgpgplpaaDoorW.PrintWords Go.Proofs.YthckiolgpgplpaaDoorW.PrintLast Go.Proofs.YthckiolgpgplpaaDoorW.PrintMore Go.Proofs.YthckiolgpgplpaaDoor.P
set_option linter.unusedVariables false
set_option linter.unusedSimpArgs false
set_option maxRecDepth 1000000
set_option maxHeartbeats 400000
/-- Behind a pop, a call that makes memory, and a push. -/
theorem post3 {w w1 w2 w3 : World} {g : Nat} {vc vs v1 v3 : Value} {f3 : Fr} {o : Obj} {r : Int} (hv1 : v1.ownBlock = vs.ownBlock) (HM1 : Mod (fun k => k = g) (w.alloc o).drew w1) (hb : Below w1.heap.size w1 w2)
    (hv3 : ∀ k', v3.ownBlock = some k' → v1.ownBlock = some k' ∨ w2.heap.size ≤ k') (HF3 : FrOn w3 ⟨g, vc, v3⟩ f3) (HM3 : Mod (fun k => k = g ∨ v1.ownBlock = some k) w2 w3) : DataPost w ⟨g, vc, vs⟩ r f3 (.returned (.int .i64 r)) w3 := by
  have h1 : w.heap.size ≤ w2.heap.size := Nat.le_trans (Nat.le_trans (by show _ ≤ (w.heap.push o).size; rw [Array.size_push]; omega) HM1.size) hb.size
  have hM : Mod (fun k => k ∈ Ho.blocks ⟨g, vc, vs⟩) w w2 := (((Mod.refl _ w).alloc o).drew.trans HM1 (fun i hi h => by subst h; simp [Ho.blocks])).trans (Mod.of_below hb (fun _ => False)) (fun _ _ h => h.elim)
  refine ⟨rfl, v3, fun k' e => ?_, HF3, hM.trans HM3 (fun i hi h => ?_)⟩
  · rcases hv3 k' e with h | h
    · exact .inl (hv1 ▸ h)
    · exact .inr (Nat.le_trans h1 h)
  · rcases h with rfl | h
    · simp [Ho.blocks]
    · rw [hv1] at h; simp [Ho.blocks, h]
theorem data_index_ok {w : World} {h : Ho} {f : Fr} (H : FrOn w h f) (n m x y : Int) (j : Nat) (s : List Int) (hy : f.cells.getD j 0 = y) (hs : f.stack = s ++ [x]) (hx : 0 ≤ x) (hxm : x < m) (hj : n + x = j) (hjl : j < f.cells.length) (hl : f.stack.length ≤ 1000000) (hc : f.cells.length ≤ 1000000) :
    Calls Tryd.prog 40 #[h.ptr, .agg #[.int .i64 4, .int .i64 n, .int .i64 m]] w (DataPost w h 0 { f with stack := s ++ [y] }) := by
  obtain ⟨g, vc, vs⟩ := h
  have hgl := blk_lt H.blk
  have HH := Aside0.mk (H.alloc (.cells #[.int .i64 4, .int .i64 n, .int .i64 m] 43)).drew; have hneA := Aside0.mk (Nat.ne_of_gt hgl)
  have c0 : (w.alloc (.cells #[.int .i64 4, .int .i64 n, .int .i64 m] 43)).drew.cell? ⟨w.heap.size, 0, none⟩ = some (.int .i64 4) := blk_cell (blk_new w _) 0
  have c1 : (w.alloc (.cells #[.int .i64 4, .int .i64 n, .int .i64 m] 43)).drew.cell? ⟨w.heap.size, 1, none⟩ = some (.int .i64 n) := blk_cell (blk_new w _) 1
  have c2 : (w.alloc (.cells #[.int .i64 4, .int .i64 n, .int .i64 m] 43)).drew.cell? ⟨w.heap.size, 2, none⟩ = some (.int .i64 m) := blk_cell (blk_new w _) 2
  obtain ⟨sg, cap, cur, rfl, hn2, hcap, _⟩ := ownsInt H.cs (by intro e; simp [e] at hjl)
  have hl1 : s.length + 1 ≤ 1000000 := by have e := congrArg List.length hs; simp at e; omega
  have HS := Aside0.mk hs; have HL := Aside0.mk hl1; clear hs H hl hl1
  have HC : Aside0 (Calls Tryd.prog 37 #[.pointer (some ⟨g, 0, none⟩)] (w.alloc (.cells #[.int .i64 4, .int .i64 n, .int .i64 m] 43)).drew _) := ⟨HH.out.pop s x HS.out⟩
  have HK : Aside0 (vm_cell.f 4 n m x = some ((j : Int), 0)) := ⟨by
    unfold vm_cell.f
    rw [if_neg (by omega), if_neg (by omega), hj, show wrap64 (j : Int) = j by unfold wrap64; omega]⟩
  have HJ := Aside0.mk hjl; have HY := Aside0.mk hy; clear hj hx hxm hc hy
  show Calls Tryd.prog 40 #[.pointer (some ⟨g, 0, none⟩), .agg #[.int .i64 4, .int .i64 n, .int .i64 m]] w _
  go_enter Tryd.func40, Tryd.ntmps40
  go_wp2
  go_region_held3 (fun W => W.cell? ⟨w.heap.size, 0, none⟩ = some (.int .i64 4) ∧ W.cell? ⟨w.heap.size, 1, none⟩ = some (.int .i64 n) ∧ W.cell? ⟨w.heap.size, 2, none⟩ = some (.int .i64 m)) (first | exact ⟨by assumption, by assumption, by assumption⟩ | go_keep) (first | ((with_reducible refine HC.out.mono ?_); rintro e w1 ⟨rfl, v1, hv1, HF1, HM1⟩; have kb := (HM1.block w.heap.size (by show _ < (w.heap.push _).size; rw [Array.size_push]; omega) hneA.out).trans (blk_new w _); have k0 := blk_cell kb 0; have k1 := blk_cell kb 1; have k2 := blk_cell kb 2; have HB := Aside0.mk kb; have HF1 := Aside0.mk HF1; have HM1 := Aside0.mk HM1; have HV1 := Aside0.mk hv1; clear hv1 kb) | ((with_reducible refine (vm_cell.calls 4 n m x j 0 _ HK.out).mono ?_); rintro e w2 ⟨rfl, hb⟩; have kb := blk_below HB.out hb; have k0 := blk_cell kb 0; have k1 := blk_cell kb 1; have k2 := blk_cell kb 2; have HB2 := Aside0.mk hb; clear hb kb))
  have HF2 := Aside0.mk (HF1.out.below HB2.out)
  have q3 : w2.cell? ⟨g, 3, none⟩ = some (.slice (some ⟨sg, 0, none⟩) f.cells.length cap) := blk_cell HF2.out.blk 3
  have qc := (HF2.out.cellAt j HJ.out).1
  rw [HY.out] at qc
  go_wp2_with ((with_reducible refine gate_callee (f := 38) rfl ?_); refine goesL_ (some 79) rfl rfl Tryd.func38 (by kernel_rfl) rfl #[.pointer (some ⟨g, 0, none⟩), .int .i64 y] rfl (by (try simp only [List.map_toArray, List.map_cons, List.map_nil]); first | done | rfl) ?_; refine (HF2.out.push y HL.out).mono ?_; rintro e w3 ⟨rfl, v3, hv3, HF3, HM3⟩; have HF3 := Aside0.mk HF3; have HM3 := Aside0.mk HM3; have HV3 := Aside0.mk hv3; clear hv3; refine ⟨_, rfl, ?_⟩)
  go_ret
  exact post3 HV1.out HM1.out HB2.out HV3.out HF3.out HM3.out
theorem data_put_trap {w : World} {h : Ho} {f : Fr} (H : FrOn w h f) (n m a x : Int) (s : List Int) (hs : f.stack = s ++ [a] ++ [x]) (hx : a < 0 ∨ m ≤ a) :
    Calls Tryd.prog 40 #[h.ptr, .agg #[.int .i64 5, .int .i64 n, .int .i64 m]] w (DataPost w h 2 { f with stack := s }) := by
  obtain ⟨g, vc, vs⟩ := h
  have hneA := Aside0.mk (Nat.ne_of_gt (blk_lt H.blk))
  have HC0 : Aside0 (Calls Tryd.prog 37 #[.pointer (some ⟨g, 0, none⟩)] (w.alloc (.cells #[.int .i64 5, .int .i64 n, .int .i64 m] 43)) _) := ⟨(H.alloc _).pop (s ++ [a]) x hs⟩
  clear hs H
  have HK : Aside0 (vm_cell.f 5 n m a = some (0, 2)) := ⟨by
    unfold vm_cell.f
    by_cases h : a < 0
    · rw [if_pos h]
    · rw [if_neg h, if_pos (by omega)]⟩
  clear hx
  show Calls Tryd.prog 40 #[.pointer (some ⟨g, 0, none⟩), .agg #[.int .i64 5, .int .i64 n, .int .i64 m]] w _
  go_enter Tryd.func40, Tryd.ntmps40
  go_wp2_with ((with_reducible refine gate_callee (f := 37) rfl ?_); refine goesL_ (some 83) rfl rfl Tryd.func37 (by kernel_rfl) rfl #[.pointer (some ⟨g, 0, none⟩)] rfl (by (try simp only [List.map_toArray, List.map_cons, List.map_nil]); first | done | rfl) ?_; refine (HC0.out).mono ?_; rintro e w0 ⟨rfl, v0, hv0, HF0, HM0⟩; have kb := (HM0.block w.heap.size (by show _ < (w.heap.push _).size; rw [Array.size_push]; omega) hneA.out).trans (blk_new w _); have c0 := blk_cell (blk_drew kb) 0; have c1 := blk_cell (blk_drew kb) 1; have c2 := blk_cell (blk_drew kb) 2; have HB0 := Aside0.mk kb; have HC : Aside0 (Calls Tryd.prog 37 #[.pointer (some ⟨g, 0, none⟩)] w0.drew _) := ⟨HF0.drew.pop s a rfl⟩; have HF0 := Aside0.mk HF0; have HM0 := Aside0.mk HM0; have HV0 := Aside0.mk hv0; have hlt0 := Aside0.mk (blk_lt kb); clear hv0 kb; refine ⟨_, rfl, ?_⟩)
  go_region_held3 (fun W => W.cell? ⟨w.heap.size, 0, none⟩ = some (.int .i64 5) ∧ W.cell? ⟨w.heap.size, 1, none⟩ = some (.int .i64 n) ∧ W.cell? ⟨w.heap.size, 2, none⟩ = some (.int .i64 m)) (first | exact ⟨by assumption, by assumption, by assumption⟩ | go_keep) (first | ((with_reducible refine HC.out.mono ?_); rintro e w1 ⟨rfl, v1, hv1, HF1, HM1⟩; have kb := (HM1.block w.heap.size (show w.heap.size < w0.heap.size from hlt0.out) hneA.out).trans HB0.out; have k0 := blk_cell kb 0; have k1 := blk_cell kb 1; have k2 := blk_cell kb 2; have HB := Aside0.mk kb; have HF1 := Aside0.mk HF1; have HM1 := Aside0.mk HM1; have HV1 := Aside0.mk hv1; clear hv1 kb) | ((with_reducible refine (vm_cell.calls 5 n m a 0 2 _ HK.out).mono ?_); rintro e w2 ⟨rfl, hb⟩; have kb := blk_below HB.out hb; have k0 := blk_cell kb 0; have k1 := blk_cell kb 1; have k2 := blk_cell kb 2; have HB2 := Aside0.mk hb; clear hb kb))
  go_wp2
  go_ret
  exact ⟨rfl, v1, fun k e => .inl (HV0.out ▸ HV1.out ▸ e), HF1.out.below HB2.out, (((Mod.refl _ w).alloc _).trans HM0.out (fun i hi h => by subst h; simp [Ho.blocks]) |>.drew.trans HM1.out (fun i hi h => by subst h; simp [Ho.blocks])).trans (Mod.of_below HB2.out (fun _ => False)) (fun _ _ h => h.elim)⟩
theorem data_put_ok {w : World} {h : Ho} {f : Fr} (H : FrOn w h f) (n m a x : Int) (j : Nat) (s : List Int) (hs : f.stack = s ++ [a] ++ [x]) (hx : 0 ≤ a) (hxm : a < m) (hj : n + a = j) (hjl : j < f.cells.length) (hc : f.cells.length ≤ 1000000) :
    Calls Tryd.prog 40 #[h.ptr, .agg #[.int .i64 5, .int .i64 n, .int .i64 m]] w (DataPost w h 0 { f with cells := f.cells.set j x, stack := s }) := by
  obtain ⟨g, vc, vs⟩ := h
  have hneA := Aside0.mk (Nat.ne_of_gt (blk_lt H.blk))
  obtain ⟨sg, cap, cur, rfl, hn2, hcap, _⟩ := ownsInt H.cs (by intro e; simp [e] at hjl)
  have HC0 : Aside0 (Calls Tryd.prog 37 #[.pointer (some ⟨g, 0, none⟩)] (w.alloc (.cells #[.int .i64 5, .int .i64 n, .int .i64 m] 43)) _) := ⟨(H.alloc _).pop (s ++ [a]) x hs⟩
  clear hs H
  have HK : Aside0 (vm_cell.f 5 n m a = some ((j : Int), 0)) := ⟨by
    unfold vm_cell.f
    rw [if_neg (by omega), if_neg (by omega), hj, show wrap64 (j : Int) = j by unfold wrap64; omega]⟩
  have HJ := Aside0.mk hjl; clear hj hx hxm hc
  show Calls Tryd.prog 40 #[.pointer (some ⟨g, 0, none⟩), .agg #[.int .i64 5, .int .i64 n, .int .i64 m]] w _
  go_enter Tryd.func40, Tryd.ntmps40
  go_wp2_with ((with_reducible refine gate_callee (f := 37) rfl ?_); refine goesL_ (some 83) rfl rfl Tryd.func37 (by kernel_rfl) rfl #[.pointer (some ⟨g, 0, none⟩)] rfl (by (try simp only [List.map_toArray, List.map_cons, List.map_nil]); first | done | rfl) ?_; refine (HC0.out).mono ?_; rintro e w0 ⟨rfl, v0, hv0, HF0, HM0⟩; have kb := (HM0.block w.heap.size (by show _ < (w.heap.push _).size; rw [Array.size_push]; omega) hneA.out).trans (blk_new w _); have c0 := blk_cell (blk_drew kb) 0; have c1 := blk_cell (blk_drew kb) 1; have c2 := blk_cell (blk_drew kb) 2; have HB0 := Aside0.mk kb; have HC : Aside0 (Calls Tryd.prog 37 #[.pointer (some ⟨g, 0, none⟩)] w0.drew _) := ⟨HF0.drew.pop s a rfl⟩; have HF0 := Aside0.mk HF0; have HM0 := Aside0.mk HM0; have HV0 := Aside0.mk hv0; have hlt0 := Aside0.mk (blk_lt kb); clear hv0 kb; refine ⟨_, rfl, ?_⟩)
  go_region_held3 (fun W => W.cell? ⟨w.heap.size, 0, none⟩ = some (.int .i64 5) ∧ W.cell? ⟨w.heap.size, 1, none⟩ = some (.int .i64 n) ∧ W.cell? ⟨w.heap.size, 2, none⟩ = some (.int .i64 m)) (first | exact ⟨by assumption, by assumption, by assumption⟩ | go_keep) (first | ((with_reducible refine HC.out.mono ?_); rintro e w1 ⟨rfl, v1, hv1, HF1, HM1⟩; have kb := (HM1.block w.heap.size (show w.heap.size < w0.heap.size from hlt0.out) hneA.out).trans HB0.out; have k0 := blk_cell kb 0; have k1 := blk_cell kb 1; have k2 := blk_cell kb 2; have HB := Aside0.mk kb; have HF1 := Aside0.mk HF1; have HM1 := Aside0.mk HM1; have HV1 := Aside0.mk hv1; clear hv1 kb) | ((with_reducible refine (vm_cell.calls 5 n m a j 0 _ HK.out).mono ?_); rintro e w2 ⟨rfl, hb⟩; have kb := blk_below HB.out hb; have k0 := blk_cell kb 0; have k1 := blk_cell kb 1; have k2 := blk_cell kb 2; have HB2 := Aside0.mk hb; clear hb kb))
  have HF2 := Aside0.mk (HF1.out.below HB2.out)
  have q3 : w2.cell? ⟨g, 3, none⟩ = some (.slice (some ⟨sg, 0, none⟩) f.cells.length cap) := blk_cell HF2.out.blk 3
  obtain ⟨qc, qf⟩ := HF2.out.cellAt j HJ.out
  go_wp2
  go_ret
  exact ⟨rfl, v1, fun k e => .inl (HV0.out ▸ HV1.out ▸ e), FrOn.setCells (f := { f with stack := s }) HF2.out j x HJ.out, ((((Mod.refl _ w).alloc _).trans HM0.out (fun i hi h => by subst h; simp [Ho.blocks]) |>.drew.trans HM1.out (fun i hi h => by subst h; simp [Ho.blocks])).trans (Mod.of_below HB2.out (fun _ => False)) (fun _ _ h => h.elim)).setCell (p := ⟨sg, j, none⟩) (fun _ => by simp [Ho.blocks, Value.ownBlock]) _⟩
end Go.Proofs.YthckiolgpgplpaaDoor
end
section
namespace Go.Proofs.YthckiolgpgplpaaDoor
open Go.RowKit Go.Proofs.YthckiolgpgplpaaDoorW.PrintWords Go.Proofs.YthckiolgpgplpaaDoorW.PrintLast Go.Proofs.YthckiolgpgplpaaDoorW.PrintMore Go.Proofs.YthckiolgpgplpaaDoor.P
set_option linter.unusedVariables false
set_option linter.unusedSimpArgs false
set_option maxRecDepth 1000000
set_option maxHeartbeats 400000
theorem FrOn.clears {g sg cap : Nat} {vs : Value} : ∀ (m : Nat) {w : World} {f : Fr} (H : FrOn w ⟨g, .slice (some ⟨sg, 0, none⟩) f.cells.length cap, vs⟩ f) (n : Nat) (hn : n + m ≤ f.cells.length),
    FrOn (w.setCells sg n (List.replicate m (.int .i64 0))) ⟨g, .slice (some ⟨sg, 0, none⟩) f.cells.length cap, vs⟩ { f with cells := clearR f.cells n m }
  | 0, w, f, H, n, _ => H
  | m + 1, w, f, H, n, hn => by
    have h1 := H.setCells n 0 (by omega)
    have e : (f.cells.set n 0).length = f.cells.length := List.length_set
    have h2 := FrOn.clears m (f := { f with cells := f.cells.set n 0 }) (by rw [show ({ f with cells := f.cells.set n 0 } : Fr).cells.length = f.cells.length from e]; exact h1) (n + 1) (by rw [show ({ f with cells := f.cells.set n 0 } : Fr).cells.length = f.cells.length from e]; omega)
    rw [show ({ f with cells := f.cells.set n 0 } : Fr).cells.length = f.cells.length from e] at h2
    exact h2
theorem Mod.setCells {S : Nat → Prop} {b : Nat} (hS : S b) : ∀ (vs : List Value) {a w : World} (h : Mod S a w) (n : Nat), Mod S a (w.setCells b n vs)
  | [], _, _, h, _ => h
  | v :: vs, _, _, h, n => Mod.setCells hS vs (h.setCell (p := ⟨b, n, none⟩) (fun _ => hS) v) (n + 1)
theorem wp_clear {P : Program} {o : Oper} {a : Act} {w : World} {K : Act → World → Prop} {Q : Exit → Act → World → Prop} (t e : TypeId) (x : Operand) (z : Value) (ho : o.op = .call { callee := .builtin .clear, args := #[x], argTypes := #[t] })
    (b off n c : Nat) (hx : a.eval x = .slice (some ⟨b, off, none⟩) n c) (ht : P.underlying t = some (.slice e)) (hv : ∀ w, (zeroValue e).run P w = .ok z w) (hz : z.cells = #[z]) (h1 : z.oneCell' = true) (hn : 0 < n)
    (hc : ∀ j, j < n → (w.cell? ⟨b, off + j, none⟩).isSome = true) (hf : ∀ j, j < n → w.frozen? ⟨b, off + j, none⟩ = false) (h : K (a.put o.dst (.tuple #[])) (w.setCells b off (List.replicate n z))) : o.wp P a w K Q := by
  have hrun := Lib.run_clear_slice (P := P) w t e o.type z ht hv hz h1 b off n c hn hc hf
  unfold Oper.wp
  simp [execOp, ho, resolve, invoke, builtin, hx, hrun, Result.andThen]
  exact h
theorem zero2 (w : World) : (zeroValue 2).run Tryd.prog w = .ok (.int .i64 0) w := by
  obtain ⟨i, hi, hz⟩ := Option.map_eq_some_iff.1 info2
  simp only [Prod.mk.injEq] at hz
  simp [zeroValue, typeInfo, hi, hz.1]
theorem data_clear {w : World} {h : Ho} {f : Fr} (H : FrOn w h f) (n m : Nat) (hm : 1 ≤ m) (hnm : n + m ≤ f.cells.length) (hc : f.cells.length ≤ 1000000) :
    Calls Tryd.prog 40 #[h.ptr, .agg #[.int .i64 6, .int .i64 n, .int .i64 m]] w (DataPost w h 0 { f with cells := clearR f.cells n m }) := by
  obtain ⟨g, vc, vs⟩ := h
  have hgl := blk_lt H.blk
  obtain ⟨sg, cap, cur, rfl, hn2, hcap, _⟩ := ownsInt H.cs (by intro e; simp [e] at hnm; omega)
  have HH := Aside0.mk (H.alloc (.cells #[.int .i64 6, .int .i64 n, .int .i64 m] 43)).drew; have hneA := Aside0.mk (Nat.ne_of_gt hgl)
  have c1 : (w.alloc (.cells #[.int .i64 6, .int .i64 n, .int .i64 m] 43)).drew.cell? ⟨w.heap.size, 1, none⟩ = some (.int .i64 n) := blk_cell (blk_new w _) 1
  have c2 : (w.alloc (.cells #[.int .i64 6, .int .i64 n, .int .i64 m] 43)).drew.cell? ⟨w.heap.size, 2, none⟩ = some (.int .i64 m) := blk_cell (blk_new w _) 2
  have c3 : (w.alloc (.cells #[.int .i64 6, .int .i64 n, .int .i64 m] 43)).drew.cell? ⟨g, 3, none⟩ = some (.slice (some ⟨sg, 0, none⟩) f.cells.length cap) := blk_cell HH.out.blk 3
  clear H
  have esg : sg ≠ g := by have := HH.out.vc_ne; simpa [Value.ownBlock] using this
  have esw : sg ≠ w.heap.size := by
    have := HH.out.lt
    intro e
    have e2 := blk_new w (.cells #[.int .i64 6, .int .i64 n, .int .i64 m] 43)
    obtain ⟨sg', cap', cur', e3, _, _, hh, _⟩ := ownsInt HH.out.cs (by intro e; simp [e] at hnm; omega)
    have q : sg = sg' := by simpa using (Value.slice.inj e3).1
    subst q; subst e
    rw [show (w.alloc (.cells #[.int .i64 6, .int .i64 n, .int .i64 m] 43)).drew.heap = (w.alloc (.cells #[.int .i64 6, .int .i64 n, .int .i64 m] 43)).heap from rfl, e2] at hh
    injection hh with hh; injection hh with _ hh; exact absurd hh (by decide)
  have d3 := (World.cell?_setCells_out sg (List.replicate m (.int .i64 0)) n (w.alloc (.cells #[.int .i64 6, .int .i64 n, .int .i64 m] 43)).drew ⟨g, 3, none⟩ (fun h => absurd h (Ne.symm esg))).trans c3
  have d1 := (World.cell?_setCells_out sg (List.replicate m (.int .i64 0)) n (w.alloc (.cells #[.int .i64 6, .int .i64 n, .int .i64 m] 43)).drew ⟨w.heap.size, 1, none⟩ (fun h => absurd h (Ne.symm esw))).trans c1
  have d2 := (World.cell?_setCells_out sg (List.replicate m (.int .i64 0)) n (w.alloc (.cells #[.int .i64 6, .int .i64 n, .int .i64 m] 43)).drew ⟨w.heap.size, 2, none⟩ (fun h => absurd h (Ne.symm esw))).trans c2
  clear esg esw
  have HM1 := Aside0.mk hm; have HL1 := Aside0.mk hnm
  have e1 : IntKind.i64.wrap ((n : Int) + (m : Int)) = (n : Int) + (m : Int) := IntWalk.i64_in _ (by omega)
  have e2 : (0 : Int) ≤ (n : Int) := by omega
  have e3 : (n : Int) ≤ (n : Int) + (m : Int) := by omega
  have e4 : (n : Int) + (m : Int) ≤ (f.cells.length : Int) := by omega
  have e5 : (n : Int) + (m : Int) ≤ (cap : Int) := by omega
  show Calls Tryd.prog 40 #[.pointer (some ⟨g, 0, none⟩), .agg #[.int .i64 6, .int .i64 n, .int .i64 m]] w _
  go_enter Tryd.func40, Tryd.ntmps40
  go_wp2
  go_region_held3 (fun W => W.cell? ⟨g, 3, none⟩ = some (.slice (some ⟨sg, 0, none⟩) f.cells.length cap) ∧ W.cell? ⟨w.heap.size, 1, none⟩ = some (.int .i64 n) ∧ W.cell? ⟨w.heap.size, 2, none⟩ = some (.int .i64 m)) (first | exact ⟨by assumption, by assumption, by assumption⟩ | go_keep) ((rw [if_pos (by rfl)]; refine wp_clear 23 2 (.tmp 114) (.int .i64 0) rfl sg n m (cap - n) ?hx Tryd.underlying23 zero2 rfl rfl HM1.out ?hc ?hf ?hK; (case hx => go_simp; exact ⟨fun h => by omega, by omega⟩); (case hc => intro j hj; rw [(HH.out.cellAt (n + j) (by have := HL1.out; omega)).1]; rfl); (case hf => intro j hj; exact (HH.out.cellAt (n + j) (by have := HL1.out; omega)).2)))
  go_wp2
  go_ret
  exact ⟨rfl, vs, fun k e => .inl e, HH.out.clears m n HL1.out, Mod.setCells (by simp [Ho.blocks, Value.ownBlock]) _ ((Mod.refl _ w).alloc _).drew n⟩
end Go.Proofs.YthckiolgpgplpaaDoor
end
section
namespace Go.Proofs.YthckiolgpgplpaaDoor
open Go.RowKit Go.Proofs.YthckiolgpgplpaaDoorW.PrintWords Go.Proofs.YthckiolgpgplpaaDoorW.PrintLast Go.Proofs.YthckiolgpgplpaaDoorW.PrintMore Go.Proofs.YthckiolgpgplpaaDoor.P
set_option linter.unusedVariables false
set_option linter.unusedSimpArgs false
set_option maxRecDepth 1000000
set_option maxHeartbeats 400000
theorem two_is (op a b : Int) : vm_two.f 1 op a b = some (twoR op a b) := by
  unfold vm_two.f twoR
  by_cases h7 : op = 7
  · rw [if_pos h7, if_pos h7]; rfl
  rw [if_neg h7, if_neg h7]
  by_cases h8 : op = 8
  · rw [if_pos h8, if_pos h8]; rfl
  rw [if_neg h8, if_neg h8]
  by_cases h9 : op = 9
  · rw [if_pos h9, if_pos h9]; rfl
  rw [if_neg h9, if_neg h9]
  by_cases h10 : op = 10
  · rw [if_pos h10, if_pos h10]
    subst h10
    simp only [vm_two.j0]
    rw [if_pos (show ((10 : Int) == 10) = true by decide)]
    by_cases hb : b = 0
    · rw [if_pos hb, if_pos hb]
    · rw [if_neg hb, if_neg hb]
      unfold num_Div.f
      rw [if_neg hb]
      rfl
  rw [if_neg h10, if_neg h10]
  by_cases h11 : op = 11
  · rw [if_pos h11]
    subst h11
    simp only [vm_two.j0]
    rw [if_pos (show ((11 : Int) == 11) = true by decide)]
    by_cases hb : b = 0
    · rw [if_pos hb, if_pos hb]
    · rw [if_neg hb, if_neg hb]
      unfold num_Div.f num_Mod.f
      rw [if_neg hb, if_neg hb]
      rfl
  rw [if_neg h11]
  simp only [vm_two.j0]
  rw [if_neg (by rw [beq_eq_false_iff_ne.mpr h11]; decide)]
  by_cases h12 : op = 12
  · rw [if_pos h12, if_pos h12]
    by_cases hb : a < b
    · rw [if_pos hb, decide_eq_true hb]; rfl
    · rw [if_neg hb, decide_eq_false hb]; rfl
  rw [if_neg h12, if_neg h12]
  by_cases h13 : op = 13
  · rw [if_pos h13, if_pos h13]
    by_cases hb : a ≤ b
    · rw [if_pos hb, decide_eq_true hb]; rfl
    · rw [if_neg hb, decide_eq_false hb]; rfl
  rw [if_neg h13, if_neg h13]
  by_cases hb : a = b
  · rw [if_pos hb, beq_iff_eq.mpr hb]; rfl
  · rw [if_neg hb, beq_eq_false_iff_ne.mpr hb]; rfl
theorem data_two {w : World} {h : Ho} {f : Fr} (H : FrOn w h f) (op n m a x : Int) (s : List Int) (hs : f.stack = s ++ [a] ++ [x]) (h7 : 7 ≤ op) (h14 : op ≤ 14) (hl : f.stack.length ≤ 1000000) :
    Calls Tryd.prog 40 #[h.ptr, .agg #[.int .i64 op, .int .i64 n, .int .i64 m]] w (DataPost w h (twoR op a x).2 { f with stack := s ++ [(twoR op a x).1] }) := by
  obtain ⟨g, vc, vs⟩ := h
  have hneA := Aside0.mk (Nat.ne_of_gt (blk_lt H.blk))
  have HC0 : Aside0 (Calls Tryd.prog 37 #[.pointer (some ⟨g, 0, none⟩)] (w.alloc (.cells #[.int .i64 op, .int .i64 n, .int .i64 m] 43)) _) := ⟨(H.alloc _).pop (s ++ [a]) x hs⟩
  have hl1 : s.length + 1 ≤ 1000000 := by have e := congrArg List.length hs; simp at e; omega
  have HL := Aside0.mk hl1; clear hs H hl hl1
  have HK := Aside0.mk (two_is op a x)
  obtain ⟨p, hp⟩ : ∃ p, p = twoR op a x := ⟨_, rfl⟩
  rw [← hp] at HK ⊢
  clear hp
  obtain ⟨y, r⟩ := p
  have k1 : (op == 1) = false := beq_eq_false_iff_ne.mpr (by omega)
  have k2 : (op == 2) = false := beq_eq_false_iff_ne.mpr (by omega)
  have k3 : (op == 3) = false := beq_eq_false_iff_ne.mpr (by omega)
  have k4 : (op == 4) = false := beq_eq_false_iff_ne.mpr (by omega)
  have k5 : (op == 5) = false := beq_eq_false_iff_ne.mpr (by omega)
  have k6 : (op == 6) = false := beq_eq_false_iff_ne.mpr (by omega)
  have k15 : (op == 15) = false := beq_eq_false_iff_ne.mpr (by omega)
  have k16 : (op == 16) = false := beq_eq_false_iff_ne.mpr (by omega)
  have k17 : (op == 17) = false := beq_eq_false_iff_ne.mpr (by omega)
  have k18 : (op == 18) = false := beq_eq_false_iff_ne.mpr (by omega)
  have k23 : (op == 23) = false := beq_eq_false_iff_ne.mpr (by omega)
  have k25 : (op == 25) = false := beq_eq_false_iff_ne.mpr (by omega)
  show Calls Tryd.prog 40 #[.pointer (some ⟨g, 0, none⟩), .agg #[.int .i64 op, .int .i64 n, .int .i64 m]] w _
  go_enter Tryd.func40, Tryd.ntmps40
  go_wp2_with ((with_reducible refine gate_callee (f := 37) rfl ?_); refine goesL_ (some 16) rfl rfl Tryd.func37 (by kernel_rfl) rfl #[.pointer (some ⟨g, 0, none⟩)] rfl (by (try simp only [List.map_toArray, List.map_cons, List.map_nil]); first | done | rfl) ?_; refine (HC0.out).mono ?_; rintro e w0 ⟨rfl, v0, hv0, HF0, HM0⟩; have kb := (HM0.block w.heap.size (by show _ < (w.heap.push _).size; rw [Array.size_push]; omega) hneA.out).trans (blk_new w _); have c0 := blk_cell (blk_drew kb) 0; have HB0 := Aside0.mk kb; have HC : Aside0 (Calls Tryd.prog 37 #[.pointer (some ⟨g, 0, none⟩)] w0.drew _) := ⟨HF0.drew.pop s a rfl⟩; have HF0 := Aside0.mk HF0; have HM0 := Aside0.mk HM0; have HV0 := Aside0.mk hv0; have hlt0 := Aside0.mk (blk_lt kb); clear hv0 kb; refine ⟨_, rfl, ?_⟩)
  go_region_held3 (fun W => W.cell? ⟨w.heap.size, 0, none⟩ = some (.int .i64 op)) (first | exact (by assumption) | go_keep) (first | ((with_reducible refine HC.out.mono ?_); rintro e w1 ⟨rfl, v1, hv1, HF1, HM1⟩; have kb := (HM1.block w.heap.size (show w.heap.size < w0.heap.size from hlt0.out) hneA.out).trans HB0.out; have k0 := blk_cell kb 0; have HB := Aside0.mk kb; have HF1 := Aside0.mk HF1; have HM1 := Aside0.mk HM1; have HV1 := Aside0.mk hv1; clear hv1 kb) | ((with_reducible refine (vm_two.calls 1 op a x y r _ HK.out).mono ?_); rintro e w2 ⟨rfl, nd, rfl⟩; have kb := HB.out; have kb2 : (w1.drewN nd).heap[w.heap.size]? = some (.cells #[.int .i64 op, .int .i64 n, .int .i64 m] 43 (0, 0)) := kb; have k0 := blk_cell kb2 0; clear kb kb2))
  go_wp2_with ((with_reducible refine gate_callee (f := 38) rfl ?_); refine goesL_ (some 28) rfl rfl Tryd.func38 (by kernel_rfl) rfl #[.pointer (some ⟨g, 0, none⟩), .int .i64 y] rfl (by (try simp only [List.map_toArray, List.map_cons, List.map_nil]); first | done | rfl) ?_; refine ((HF1.out.drewN _).push y HL.out).mono ?_; rintro e w3 ⟨rfl, v3, hv3, HF3, HM3⟩; have HF3 := Aside0.mk HF3; have HM3 := Aside0.mk HM3; have HV3 := Aside0.mk hv3; clear hv3; refine ⟨_, rfl, ?_⟩)
  go_ret
  have hM : Mod (fun k => k ∈ Ho.blocks ⟨g, vc, vs⟩) w w1 := ((Mod.refl _ w).alloc _).trans HM0.out (fun i hi h => by subst h; simp [Ho.blocks]) |>.drew.trans HM1.out (fun i hi h => by subst h; simp [Ho.blocks])
  have h1 : w.heap.size ≤ w1.heap.size := hM.size
  refine ⟨rfl, v3, fun k' e => ?_, HF3.out, (show Mod (fun k => k ∈ Ho.blocks ⟨g, vc, vs⟩) w (w1.drewN nd) from ⟨hM.os, hM.tape, hM.output, hM.size, hM.block⟩).trans HM3.out (fun i hi h => ?_)⟩
  · rcases HV3.out k' e with h | h
    · exact .inl (HV0.out ▸ HV1.out ▸ h)
    · exact .inr (Nat.le_trans h1 h)
  · rcases h with rfl | h
    · simp [Ho.blocks]
    · rw [HV1.out, HV0.out] at h; simp [Ho.blocks, h]
end Go.Proofs.YthckiolgpgplpaaDoor
end
section
namespace Go.Proofs.YthckiolgpgplpaaDoor
open Go.RowKit Go.Proofs.YthckiolgpgplpaaDoorW.PrintWords Go.Proofs.YthckiolgpgplpaaDoorW.PrintLast Go.Proofs.YthckiolgpgplpaaDoorW.PrintMore Go.Proofs.YthckiolgpgplpaaDoor.P
set_option linter.unusedVariables false
set_option linter.unusedSimpArgs false
structure FitsD (f : Fr) (i : S43) : Prop where
  op : i.f0 = 1 ∨ i.f0 = 2 ∨ i.f0 = 3 ∨ i.f0 = 4 ∨ i.f0 = 5 ∨ i.f0 = 6 ∨ (7 ≤ i.f0 ∧ i.f0 ≤ 14) ∨ i.f0 = 15 ∨ i.f0 = 16 ∨ i.f0 = 17 ∨ i.f0 = 18 ∨ i.f0 = 23 ∨ i.f0 = 25
  cell : i.f0 = 2 ∨ i.f0 = 3 → 0 ≤ i.f1 ∧ i.f1 < (f.cells.length : Int)
  row : i.f0 = 4 ∨ i.f0 = 5 ∨ i.f0 = 6 → 0 ≤ i.f1 ∧ 1 ≤ i.f2 ∧ i.f1 + i.f2 ≤ (f.cells.length : Int)
  one : i.f0 = 3 ∨ i.f0 = 4 ∨ i.f0 = 15 ∨ i.f0 = 16 ∨ i.f0 = 18 ∨ i.f0 = 23 ∨ i.f0 = 25 → 1 ≤ f.stack.length
  two : i.f0 = 5 ∨ (7 ≤ i.f0 ∧ i.f0 ≤ 14) → 2 ≤ f.stack.length
  stack : f.stack.length ≤ 4096
  cells : f.cells.length ≤ 65536
theorem snoc_of {l : List Int} (h : 1 ≤ l.length) : l = l.dropLast ++ [l.getLastD 0] := by
  rcases List.eq_nil_or_concat l with rfl | ⟨s, x, rfl⟩
  · simp at h
  · simp
theorem data_calls {w : World} {h : Ho} {f : Fr} (H : FrOn w h f) (i : S43) (F : FitsD f i) :
    Calls Tryd.prog 40 #[h.ptr, .agg #[.int .i64 i.f0, .int .i64 i.f1, .int .i64 i.f2]] w (DataPost w h (dataR f i).2 (dataR f i).1) := by
  obtain ⟨op, n, m⟩ := i
  have hs := F.stack; have hc := F.cells
  have s1 : ∀ l : List Int, 1 ≤ l.length → l = l.dropLast ++ [l.getLastD 0] := fun l => snoc_of
  have s2 : 2 ≤ f.stack.length → f.stack = f.stack.dropLast.dropLast ++ [f.stack.dropLast.getLastD 0] ++ [f.stack.getLastD 0] := fun h => by
    rw [← s1 f.stack.dropLast (by simp; omega)]
    exact s1 _ (by omega)
  have hop := F.op
  simp only at hop
  rcases hop with rfl | rfl | rfl | rfl | rfl | rfl | ⟨h7, h14⟩ | rfl | rfl | rfl | rfl | rfl | rfl
  · exact data_push H n m (by omega)
  · obtain ⟨a, b⟩ := F.cell (.inl rfl)
    simp only at a b
    obtain ⟨n, rfl⟩ : ∃ k : Nat, n = k := ⟨n.toNat, by omega⟩
    exact data_load H n m _ (by
      rw [List.getElem?_eq_getElem (by simpa using b)]
      show some _ = some (f.cells.getD ((n : Nat) : Int).toNat 0)
      rw [Int.toNat_natCast, List.getD_eq_getElem?_getD, List.getElem?_eq_getElem (by simpa using b)]; rfl) (by omega)
  · obtain ⟨a, b⟩ := F.cell (.inr rfl)
    simp only at a b
    obtain ⟨n, rfl⟩ : ∃ k : Nat, n = k := ⟨n.toNat, by omega⟩
    exact data_store H n m _ _ (s1 _ (F.one (.inl rfl))) (by simpa using b)
  · obtain ⟨a, b, c⟩ := F.row (.inl rfl)
    simp only at a b c
    have st := s1 _ (F.one (.inr (.inl rfl)))
    generalize f.stack.getLastD 0 = x at st
    generalize f.stack.dropLast = s at st
    have e1 : f.stack.getLastD 0 = x := by rw [st]; simp
    have e2 : f.stack.dropLast = s := by rw [st]; simp
    simp only [dataR, e1, e2]
    simp only [show ((4 : Int) = 1) = False from eq_false (by decide), show ((4 : Int) = 2) = False from eq_false (by decide), show ((4 : Int) = 3) = False from eq_false (by decide), if_false, if_true]
    by_cases hx : x < 0 ∨ m ≤ x
    · rw [if_pos hx]
      exact data_index_trap H n m x s st hx
    · rw [if_neg hx]
      exact data_index_ok H n m x _ (n + x).toNat s rfl st (by omega) (by omega) (by omega) (by omega) (by omega) (by omega)
  · obtain ⟨a, b, c⟩ := F.row (.inr (.inl rfl))
    simp only at a b c
    have st := s2 (F.two (.inl rfl))
    generalize f.stack.getLastD 0 = x at st
    generalize f.stack.dropLast.getLastD 0 = y at st
    generalize f.stack.dropLast.dropLast = s at st
    have e1 : f.stack.getLastD 0 = x := by rw [st]; simp
    have e2 : f.stack.dropLast = s ++ [y] := by rw [st]; simp
    have e3 : (s ++ [y]).dropLast = s := by simp
    have e4 : (s ++ [y]).getLastD 0 = y := by simp
    simp only [dataR, e1, e2, e3, e4]
    simp only [show ((5 : Int) = 1) = False from eq_false (by decide), show ((5 : Int) = 2) = False from eq_false (by decide), show ((5 : Int) = 3) = False from eq_false (by decide), show ((5 : Int) = 4) = False from eq_false (by decide), if_false, if_true]
    by_cases hx : y < 0 ∨ m ≤ y
    · rw [if_pos hx]
      exact data_put_trap H n m y x s st hx
    · rw [if_neg hx]
      exact data_put_ok H n m y x (n + y).toNat s st (by omega) (by omega) (by omega) (by omega) (by omega)
  · obtain ⟨a, b, c⟩ := F.row (.inr (.inr rfl))
    simp only at a b c
    obtain ⟨n, rfl⟩ : ∃ k : Nat, n = k := ⟨n.toNat, by omega⟩
    obtain ⟨m, rfl⟩ : ∃ k : Nat, m = k := ⟨m.toNat, by omega⟩
    exact data_clear H n m (by omega) (by omega) (by omega)
  · have st := s2 (F.two (.inr ⟨h7, h14⟩))
    generalize f.stack.getLastD 0 = x at st
    generalize f.stack.dropLast.getLastD 0 = y at st
    generalize f.stack.dropLast.dropLast = s at st
    have e1 : f.stack.getLastD 0 = x := by rw [st]; simp
    have e2 : f.stack.dropLast = s ++ [y] := by rw [st]; simp
    have e3 : (s ++ [y]).dropLast = s := by simp
    have e4 : (s ++ [y]).getLastD 0 = y := by simp
    simp only [dataR, e1, e2, e3, e4]
    rw [if_neg (by omega), if_neg (by omega), if_neg (by omega), if_neg (by omega), if_neg (by omega), if_neg (by omega), if_neg (by omega), if_neg (by omega), if_neg (by omega), if_neg (by omega), if_neg (by omega), if_neg (by omega)]
    exact data_two H op n m y x s st h7 h14 (by omega)
  · exact data_not H n m _ _ (s1 _ (F.one (by simp))) (by omega)
  · exact data_neg H n m _ _ (s1 _ (F.one (by simp))) (by omega)
  · exact data_jump H n m
  · exact data_zero H n m _ _ (s1 _ (F.one (by simp)))
  · exact data_test H n m _ _ (s1 _ (F.one (by simp)))
  · exact data_drop H n m _ _ (s1 _ (F.one (by simp)))
end Go.Proofs.YthckiolgpgplpaaDoor
end
section
namespace Go.Proofs.YthckiolgpgplpaaDoor
open Go.RowKit Go.Proofs.YthckiolgpgplpaaDoorW.PrintWords Go.Proofs.YthckiolgpgplpaaDoorW.PrintLast Go.Proofs.YthckiolgpgplpaaDoorW.PrintMore Go.Proofs.YthckiolgpgplpaaDoor.P
set_option linter.unusedVariables false
set_option linter.unusedSimpArgs false
set_option maxRecDepth 1000000
set_option maxHeartbeats 400000
structure Fits (m : Mc) (r : List Fr) (f : Fr) : Prop where
  fr : m.frames = r ++ [f]
  pr : 0 ≤ f.pr ∧ f.pr < (m.codes.length : Int)
  at_ : 0 ≤ f.at_ ∧ f.at_ < ((rd_T46 m.codes f.pr).f0.length : Int)
  at2 : f.at_ ≤ 65536
  data : (m.ins f).f0 ≠ 19 → (m.ins f).f0 ≠ 20 → (m.ins f).f0 ≠ 21 → (m.ins f).f0 ≠ 22 → (m.ins f).f0 ≠ 24 → FitsD { f with at_ := f.at_ + 1 } (m.ins f)
  call : (m.ins f).f0 = 19 → 0 ≤ (m.ins f).f1 ∧ (m.ins f).f1 < (m.codes.length : Int) ∧ 0 ≤ (m.ins f).f2 ∧ (m.ins f).f2 ≤ (f.stack.length : Int) ∧ (m.ins f).f2 ≤ (rd_T46 m.codes (m.ins f).f1).f1 ∧ (rd_T46 m.codes (m.ins f).f1).f1 ≤ 65536
  leave : (m.ins f).f0 = 20 → (m.ins f).f1 = 0 ∨ ((m.ins f).f1 = 1 ∧ 1 ≤ f.stack.length)
  print : (m.ins f).f0 = 21 → 1 ≤ f.stack.length
  stack : ∀ g ∈ m.frames, g.stack.length ≤ 4096
  deep : r.length + 1 ≤ 50
  fuel : 0 ≤ m.fuel ∧ m.fuel ≤ 1048576
  ticks : 0 ≤ m.ticks ∧ m.ticks ≤ 1048576
  events : m.events.length + 2 ≤ 4398046511104
  read : m.read ≤ m.input.length
  inp : m.input.length ≤ 1000000
section
variable {Rd : Nat → Prop} {w : World} {o : MHo} {m : Mc}
theorem mark_none (H : MOn Rd w o m) (v : Value) (n k : Int) (h0 : m.fuel = 0) (hl : m.events.length + 1 ≤ 4398046511104) :
    Calls Tryd.prog 39 #[o.ptr, v, .agg #[.int .i64 24, .int .i64 n, .int .i64 k]] w (MPost Rd w o (m.endM 5 0) (.tuple #[])) := by
  have c4 : (w.alloc (.cells #[.int .i64 24, .int .i64 n, .int .i64 k] 43)).cell? ⟨o.g, 4, none⟩ = some (.int .i64 0) := by rw [blk_cell (H.alloc _).blk 4, ← h0]; rfl
  have HH := Aside0.mk H; clear H h0
  show Calls Tryd.prog 39 #[.pointer (some ⟨o.g, 0, none⟩), v, .agg #[.int .i64 24, .int .i64 n, .int .i64 k]] w _
  go_enter Tryd.func39, Tryd.ntmps39
  go_wp2_with ((with_reducible refine gate_callee (f := 41) rfl ?_); refine goesL_ (some 12) rfl rfl Tryd.func41 (by kernel_rfl) rfl #[.pointer (some ⟨o.g, 0, none⟩), .int .i64 5, .int .i64 0] rfl (by (try simp only [List.map_toArray, List.map_cons, List.map_nil]); first | done | rfl) ?_; refine (end_on (HH.out.alloc _) 5 0 hl).mono ?_; rintro e w3 ⟨rfl, o3, hsub3, HM3, hmod⟩; have HP := Aside0.mk (And.intro hsub3 (And.intro HM3 hmod)); clear hsub3 HM3 hmod; refine ⟨_, rfl, ?_⟩)
  go_end0
  obtain ⟨hsub3, HM3, hmod⟩ := HP.out
  have hsz : w.heap.size ≤ (w.alloc (.cells #[.int .i64 24, .int .i64 n, .int .i64 k] 43)).heap.size := by show _ ≤ (w.heap.push _).size; rw [Array.size_push]; omega
  exact ⟨rfl, o3, ⟨hsub3.1, fun k hk => (hsub3.2 k hk).imp_right (Nat.le_trans hsz)⟩, HM3, ((Mod.refl _ w).alloc _).trans hmod (fun _ _ h => h)⟩
theorem ins_at (H : MOn Rd w o m) {r : List Fr} {f : Fr} (F : Fits m r f) : ∃ ad cc bd c0, o.cv = .slice (some ad) m.codes.length cc ∧ w.cell? (ad.add (f.pr.toNat * 4)) = some (.slice (some bd) (rd_T46 m.codes f.pr).f0.length c0) ∧
    w.cell? (bd.add (f.at_.toNat * 3)) = some (.int .i64 (m.ins f).f0) ∧ w.cell? ⟨(bd.add (f.at_.toNat * 3)).block, (bd.add (f.at_.toNat * 3)).off + 1, none⟩ = some (.int .i64 (m.ins f).f1) ∧ w.cell? ⟨(bd.add (f.at_.toNat * 3)).block, (bd.add (f.at_.toNat * 3)).off + 2, none⟩ = some (.int .i64 (m.ins f).f2) := by
  obtain ⟨A, cc, hcv, hcl, HF⟩ := H.cs
  obtain ⟨ad, A0, c0, rfl, hx0, hx1, hx2, hx3, hl0, hi0⟩ := at_T46 (Kd.F_now HF) f.pr F.pr.1 F.pr.2
  obtain ⟨bd, rfl, hy0, hy1, hy2⟩ := at_T43 hi0 f.at_ F.at_.1 F.at_.2
  exact ⟨ad, cc, bd, c0, hcv, hx0, hy0, hy1, hy2⟩
theorem input_at (H : MOn Rd w o m) (h : m.read < m.input.length) : ∃ ad cc, o.iv = .slice (some ad) m.input.length cc ∧ w.cell? (ad.add m.read) = some (.int .i64 (m.input.getD m.read 0)) := by
  obtain ⟨A, cc, hcv, hcl, HF⟩ := H.inp
  obtain ⟨ad, c, rfl, hlen, hK, hcell⟩ := Kd.C_get (Kd.F_now HF) 0 (m.read : Int) (by omega) (by omega)
  refine ⟨ad, cc, hcv, ?_⟩
  have hK : c = [.int .i64 (m.input.getD (m.read : Int).toNat 0)] := hK
  have := hcell 0 (.int .i64 (m.input.getD (m.read : Int).toNat 0)) (by rw [hK]; rfl)
  simpa [Kd.int, Kd.scalar] using this
theorem iv_form (H : MOn Rd w o m) : ∃ A cc, o.iv = .slice A m.input.length cc := by
  obtain ⟨A, cc, hcv, _, _⟩ := H.inp
  exact ⟨A, cc, hcv⟩
end
end Go.Proofs.YthckiolgpgplpaaDoor
end
section
namespace Go.Proofs.YthckiolgpgplpaaDoor
open Go.RowKit Go.Proofs.YthckiolgpgplpaaDoorW.PrintWords Go.Proofs.YthckiolgpgplpaaDoorW.PrintLast Go.Proofs.YthckiolgpgplpaaDoorW.PrintMore Go.Proofs.YthckiolgpgplpaaDoor.P
set_option linter.unusedVariables false
set_option linter.unusedSimpArgs false
set_option maxRecDepth 1000000
set_option maxHeartbeats 1000000
theorem scope_of {P : Program} {c : Code} {Q : Exit → Act → World → Prop} {a : Act} {w : World} (hQ : ∀ l a w, Q (.goto l) a w → False) (h : c.wp P Q a w) : (Code.scope c).wp P Q a w := wp_scope_straight (Code.wp_mono (fun e a w q => by cases e <;> first | exact q | exact (hQ _ _ _ q).elim) h)
section
variable {Rd : Nat → Prop} {w : World} {o : MHo} {m : Mc}
theorem MOn.setAt (H : MOn Rd w o m) {hs0 : List Ho} {h : Ho} {r : List Fr} {f : Fr} (ho : o.hs = hs0 ++ [h]) (hf : m.frames = r ++ [f]) (n : Int) : MOn Rd (w.setCell ⟨h.g, 1, none⟩ (.int .i64 n)) o { m with frames := r ++ [{ f with at_ := n }] } := by
  have := H.setTop (w' := w.setCell ⟨h.g, 1, none⟩ (.int .i64 n)) (vs' := h.vs) ho hf ((Mod.refl _ w).setCell (p := ⟨h.g, 1, none⟩) (fun _ => by simp [Ho.blocks]) _) (fun k e => .inl e) ((H.top ho hf).setAt n)
  rw [show ({ o with hs := hs0 ++ [{ h with vs := h.vs }] } : MHo) = o by rw [show ({ h with vs := h.vs } : Ho) = h from rfl, ← ho]] at this
  exact this
/-- What a step needs of what is to come. -/
structure Road (Inv : Nat → Mc → Prop) : Prop where
  fits : ∀ k m, Inv k m → m.ended = false → ∃ r f, Fits m r f
  next : ∀ k m, Inv (k + 1) m → m.ended = false → m.one.2 = false → m.one.1.ended = false → Inv k m.one.1
theorem steps_next {m mm : Mc} (h : m.one = (mm, false)) (he : mm.ended = false) (k : Nat) : m.steps (k + 1) = mm.steps k := by
  show (if m.one.2 = true then (m.one.1, true) else if m.one.1.ended = true then (m.one.1, false) else Mc.steps k m.one.1) = _
  rw [h, if_neg (by simp), if_neg (by simp [he])]
theorem steps_end {m mm : Mc} (h : m.one = (mm, false)) (he : mm.ended = true) (k : Nat) : m.steps (k + 1) = (mm, false) := by
  show (if m.one.2 = true then (m.one.1, true) else if m.one.1.ended = true then (m.one.1, false) else Mc.steps k m.one.1) = _
  rw [h, if_neg (by simp), if_pos he]
theorem steps_tick {m mm : Mc} (h : m.one = (mm, true)) (k : Nat) : m.steps (k + 1) = (mm, true) := by
  show (if m.one.2 = true then (m.one.1, true) else if m.one.1.ended = true then (m.one.1, false) else Mc.steps k m.one.1) = _
  rw [h, if_pos rfl]
/-- Behind an arm that has gone through: what the round hands on. -/
def After (Rd : Nat → Prop) (w : World) (o : MHo) (mm : Mc) (w5 : World) : Prop := ∃ o2, Sub w o o2 ∧ MOn Rd w5 o2 mm ∧ Mod (fun k => k ∈ o.own) w w5
theorem After.of {w4 w5 : World} {o1 : MHo} {mm : Mc} {v : Value} {e : Ending} (h3 : Sub w o o1) (h4 : Mod (fun k => k ∈ o.own) w w4) (hp : MPost Rd w4 o1 mm v e w5) : e = .returned v ∧ After Rd w o mm w5 := by
  obtain ⟨he, o2, hs, hM, hm⟩ := hp
  exact ⟨he, o2, h3.trans h4.size hs, hM, h4.trans hm (fun k hk h => (h3.2 k h).elim id (fun e => by omega))⟩
theorem After.ended {mm : Mc} {w5 : World} (h : After Rd w o mm w5) : w5.cell? ⟨o.g, 11, none⟩ = some (.bool mm.ended) := by
  obtain ⟨o2, hs, hM, _⟩ := h
  rw [← hs.1]; exact blk_cell hM.blk 11
theorem After.ticks {mm : Mc} {w5 : World} (h : After Rd w o mm w5) : w5.cell? ⟨o.g, 5, none⟩ = some (.int .i64 mm.ticks) := by
  obtain ⟨o2, hs, hM, _⟩ := h
  rw [← hs.1]; exact blk_cell hM.blk 5
theorem After.end_ {mm : Mc} {w5 : World} (h : After Rd w o mm w5) (kd x : Int) (hl : mm.events.length + 1 ≤ 4398046511104) :
    Calls Tryd.prog 41 #[.pointer (some ⟨o.g, 0, none⟩), .int .i64 kd, .int .i64 x] w5 (fun e w' => e = .returned (.tuple #[]) ∧ After Rd w o (mm.endM kd x) w') := by
  obtain ⟨o2, hs, hM, hm⟩ := h
  have h1 := end_on hM kd x hl
  rw [MHo.ptr, hs.1] at h1
  exact h1.mono (fun e w' hp => After.of hs hm hp)
theorem After.post {mm : Mc} {w5 : World} {v : Value} (h : After Rd w o mm w5) : MPost Rd w o mm v (.returned v) w5 := by
  obtain ⟨o2, hs, hM, hm⟩ := h
  exact ⟨rfl, o2, hs, hM, hm⟩
theorem After.drew {mm : Mc} {w5 : World} (h : After Rd w o mm w5) : After Rd w o mm w5.drew := by
  obtain ⟨o2, hs, hM, hm⟩ := h
  exact ⟨o2, hs, hM.drew, hm.drew⟩
theorem After.event {mm : Mc} {w5 : World} (h : After Rd w o mm w5) (kd x : Int) (hl : mm.events.length + 1 ≤ 4398046511104) :
    Calls Tryd.prog 36 #[.pointer (some ⟨o.g, 0, none⟩), .int .i64 kd, .int .i64 x] w5 (fun e w' => e = .returned (.tuple #[]) ∧ After Rd w o { mm with events := mm.events ++ [(kd, x)] } w') := by
  obtain ⟨o2, hs, hM, hm⟩ := h
  have h1 := event_on hM kd x hl
  rw [show o2.ptr = .pointer (some ⟨o.g, 0, none⟩) by rw [MHo.ptr, hs.1]] at h1
  refine h1.mono ?_
  rintro e w' ⟨rfl, v1, hv, hM2, hmod⟩
  refine ⟨rfl, _, hs.trans hm.size (setEv_sub hv), hM2, hm.trans hmod (fun k hk h => ?_)⟩
  have hin : k ∈ o2.own := by
    rcases h with rfl | h
    · simp [MHo.own]
    · simp [MHo.own, h]
  exact (hs.2 k hin).elim id (fun e => by omega)
theorem top_pop (H : MOn Rd w o m) {hs0 : List Ho} {h : Ho} {r : List Fr} {f : Fr} (ho : o.hs = hs0 ++ [h]) (hf : m.frames = r ++ [f]) (s : List Int) (x : Int) (hst : f.stack = s ++ [x]) :
    Calls Tryd.prog 37 #[h.ptr] w (MPost Rd w o { m with frames := r ++ [{ f with stack := s }] } (.int .i64 x)) := by
  refine ((H.top ho hf).pop s x hst).mono ?_
  rintro e w' ⟨rfl, vs', hv, HF, HM⟩
  have hM : Mod (fun k => k ∈ h.blocks) w w' := HM.mono (fun k _ e => by subst e; simp [Ho.blocks])
  have hv2 : ∀ k, vs'.ownBlock = some k → h.vs.ownBlock = some k ∨ w.heap.size ≤ k := fun k e => .inl (hv ▸ e)
  exact ⟨rfl, _, setTop_sub ho hv2, H.setTop ho hf hM hv2 HF, hM.mono (fun k _ hk => top_own ho k hk)⟩
theorem top_data (H : MOn Rd w o m) {hs0 : List Ho} {h : Ho} {r : List Fr} {f : Fr} (ho : o.hs = hs0 ++ [h]) (hf : m.frames = r ++ [f]) (i : S43) (F : FitsD f i) :
    Calls Tryd.prog 40 #[h.ptr, .agg #[.int .i64 i.f0, .int .i64 i.f1, .int .i64 i.f2]] w (MPost Rd w o { m with frames := r ++ [(dataR f i).1] } (.int .i64 (dataR f i).2)) := by
  refine (data_calls (H.top ho hf) i F).mono ?_
  rintro e w' ⟨rfl, vs', hv, HF, hM⟩
  exact ⟨rfl, _, setTop_sub ho hv, H.setTop ho hf hM hv HF, hM.mono (fun k _ hk => top_own ho k hk)⟩
theorem top_push (H : MOn Rd w o m) {hs0 : List Ho} {h : Ho} {r : List Fr} {f : Fr} (ho : o.hs = hs0 ++ [h]) (hf : m.frames = r ++ [f]) (x : Int) (hl : f.stack.length + 1 ≤ 1000000) :
    Calls Tryd.prog 38 #[h.ptr, .int .i64 x] w fun e w' => e = .returned (.tuple #[]) ∧ ∃ o', o'.iv = o.iv ∧ Sub w o o' ∧ MOn Rd w' o' { m with frames := r ++ [{ f with stack := f.stack ++ [x] }] } ∧ Mod (fun k => k ∈ o.own) w w' := by
  refine ((H.top ho hf).push x hl).mono ?_
  rintro e w' ⟨rfl, vs', hv, HF, HM⟩
  have hM : Mod (fun k => k ∈ h.blocks) w w' := HM.mono (fun k _ e => by rcases e with rfl | e <;> simp [Ho.blocks, *])
  exact ⟨rfl, { o with hs := hs0 ++ [{ h with vs := vs' }] }, rfl, setTop_sub ho hv, H.setTop ho hf hM hv HF, hM.mono (fun k _ hk => top_own ho k hk)⟩
theorem MOn.setRead (H : MOn Rd w o m) : MOn Rd (w.setCell ⟨o.g, 3, none⟩ (.int .i64 ((m.read : Int) + 1))) o { m with read := m.read + 1 } := by
  have ga := g_apart H
  have hM : Mod (fun k => k = o.g) w (w.setCell ⟨o.g, 3, none⟩ (.int .i64 ((m.read : Int) + 1))) := (Mod.refl (fun k => k = o.g) w).setCell (p := ⟨o.g, 3, none⟩) (fun _ => rfl) _
  refine H.remake hM (fun k _ e => by subst e; simp [MHo.own]) (blk_set H.blk 3 _) ?_ ?_ ?_ H.nd (fun k h => .inl h) rfl rfl rfl rfl
  · exact own_setCell H.fr (p := ⟨o.g, 3, none⟩) (fun e => ga.1 e.symm) _
  · exact own_setCell H.ev (p := ⟨o.g, 3, none⟩) (fun e => ga.2.1 e.symm) _
  · exact forall2_kept H.frs (fun k hk => hM.block k (forall2_lt H.frs k hk) (fun e => by subst e; exact ga.2.2 hk))
theorem After.read {mm : Mc} {w5 : World} (h : After Rd w o mm w5) : After Rd w o { mm with read := mm.read + 1 } (w5.setCell ⟨o.g, 3, none⟩ (.int .i64 ((mm.read : Int) + 1))) := by
  obtain ⟨o2, hs, hM, hm⟩ := h
  have h1 := hM.setRead
  rw [hs.1] at h1
  exact ⟨o2, hs, h1, hm.setCell (p := ⟨o.g, 3, none⟩) (fun _ => by simp [MHo.own]) _⟩
theorem one_is {m : Mc} {r : List Fr} {f : Fr} (h : m.frames = r ++ [f]) : m.one = m.does r { f with at_ := f.at_ + 1 } (m.ins f) := by
  unfold Mc.one
  rw [h]
  simp
theorem step_any {Inv : Nat → Mc → Prop} (R : Road Inv) (H : MOn Rd w o m) (N : Nat) (hN : N = 1048576) (hi : Inv N m) (he : m.ended = false) :
    Calls Tryd.prog 21 #[o.ptr] w (MPost Rd w o (m.steps N).1 (.bool (m.steps N).2)) := by
  have a8 : w.cell? ⟨o.g, 11, none⟩ = some (.bool false) := by rw [blk_cell H.blk 11, ← he]; rfl
  have a5 : w.cell? ⟨o.g, 5, none⟩ = some (.int .i64 m.ticks) := blk_cell H.blk 5
  have HH := Aside0.mk H; have HN := Aside0.mk hN; have HI := Aside0.mk hi; have HE := Aside0.mk he; have HR := Aside0.mk R
  have hu24 := Tryd.underlying24
  clear H hN hi he R
  show Calls Tryd.prog 21 #[.pointer (some ⟨o.g, 0, none⟩)] w _
  go_enter Tryd.func21, Tryd.ntmps21
  go_wp2_with (fail)
  refine scope_of (fun _ _ _ h_ => h_) ?_
  go_wp2_with ((with_reducible refine wp_label ?_))
  go_loopg [19] N (fun gk v19 W => ∃ (x : Nat) (o1 : MHo) (m1 : Mc), v19 = .int .i64 (x : Int) ∧ Aside0 (gk + x = N) ∧ Aside0 (MOn Rd W o1 m1) ∧ Aside0 (Sub w o o1) ∧ Aside0 (Mod (fun k => k ∈ o.own) w W) ∧ Aside0 (Inv gk m1) ∧ Aside0 (m1.ended = false) ∧ Aside0 (m.steps N = m1.steps gk) ∧ Aside0 (m1.ticks = m.ticks))
  case atStart => exact ⟨0, o, m, rfl, ⟨by omega⟩, HH, ⟨Sub.refl _ _⟩, ⟨Mod.refl _ _⟩, HI, HE, ⟨rfl⟩, ⟨rfl⟩⟩
  case round =>
    obtain ⟨x, o1, m1, rfl, A1, A2, A3, A4, A5, A6, A7, A8⟩ := hrel
    obtain ⟨r, f, hF⟩ := HR.out.fits gk m1 A5.out A6.out
    have hg1 : o1.g = o.g := A3.out.1
    have HF := Aside0.mk hF; clear hF
    rcases Nat.eq_zero_or_pos gk with h0 | h0
    · have hx : decide ((x : Int) < 1048576) = false := decide_eq_false (by have := A1.out; have := HN.out; omega)
      have b8 : wr.cell? ⟨o.g, 11, none⟩ = some (.bool false) := by rw [← hg1, blk_cell A2.out.blk 11, ← A6.out]; rfl
      have b5 : wr.cell? ⟨o.g, 5, none⟩ = some (.int .i64 m.ticks) := by rw [← hg1, ← A8.out]; exact blk_cell A2.out.blk 5
      have HEND : Aside0 (Calls Tryd.prog 41 #[.pointer (some ⟨o.g, 0, none⟩), .int .i64 5, .int .i64 0] wr (MPost Rd wr o1 (m1.endM 5 0) (.tuple #[]))) := ⟨by
        have h := end_on A2.out 5 0 (by have := HF.out.events; omega)
        rw [MHo.ptr, hg1] at h
        exact h⟩
      have HG := Aside0.mk hg1; have H0 := Aside0.mk h0; clear hg1 h0
      go_wp2_with (first | (with_reducible refine wp_label ?_) | ((with_reducible refine gate_callee (f := 41) rfl ?_); refine goesL_ (some 154) rfl rfl Tryd.func41 (by kernel_rfl) rfl #[.pointer (some ⟨o.g, 0, none⟩), .int .i64 5, .int .i64 0] rfl (by (try simp only [List.map_toArray, List.map_cons, List.map_nil]); first | done | rfl) ?_; refine HEND.out.mono ?_; rintro e w3 ⟨rfl, o3, hsub3, HM3, hmod⟩; have HP := Aside0.mk (And.intro hsub3 (And.intro HM3 hmod)); clear hsub3 HM3 hmod; refine ⟨_, rfl, ?_⟩))
      go_ret
      obtain ⟨hsub3, HM3, hmod⟩ := HP.out
      have hz := H0.out; subst hz
      rw [A7.out]
      exact ⟨rfl, o3, A3.out.trans A4.out.size hsub3, HM3, A4.out.trans hmod (fun k hk h => (A3.out.2 k h).elim id (fun e => by omega))⟩
    · obtain ⟨gk, rfl⟩ : ∃ j, gk = j + 1 := ⟨gk - 1, by omega⟩
      have hx : decide ((x : Int) < 1048576) = true := decide_eq_true (by have := A1.out; have := HN.out; omega)
      have hxi : (x : Int) ≤ 1048575 := by have := A1.out; have := HN.out; omega
      obtain ⟨hs0, h, hho, hhl⟩ := A2.out.split HF.out.fr
      have HFR0 := A2.out.top hho HF.out.fr
      obtain ⟨fg, fc, hfv, hc1, hc2, hcell⟩ := fv_form A2.out HF.out.fr
      obtain ⟨ad, cc, bd, c0, hcv, hx0, hy0, hy1, hy2⟩ := ins_at A2.out HF.out
      obtain ⟨L1, hL1⟩ : ∃ L1, L1 = r.length + 1 := ⟨_, rfl⟩
      obtain ⟨n, hn⟩ : ∃ n, n = r.length := ⟨_, rfl⟩
      have e1 : IntKind.i64.wrap ((L1 : Int) - 1) = (n : Int) := by have := HF.out.deep; rw [IntWalk.i64_in _ (by omega)]; omega
      have e6 : (0 : Int) ≤ (n : Int) := by omega
      have e7 : (n : Int) < (L1 : Int) := by omega
      obtain ⟨q, hq⟩ : ∃ q, q = m1.ins f := ⟨_, rfl⟩
      rw [← hq] at hy0 hy1 hy2
      obtain ⟨op, N1, M1⟩ := q
      simp only at hy0 hy1 hy2
      obtain ⟨IL, hIL⟩ : ∃ IL, IL = (rd_T46 m1.codes f.pr).f0.length := ⟨_, rfl⟩
      rw [← hIL] at hx0
      have p1 := eq_true HF.out.pr.1; have p2 := eq_true HF.out.pr.2; have p3 := eq_true HF.out.at_.1; have p4 := eq_true HF.out.at_.2
      rw [← hIL] at p4
      have z1 : wr.drew.cell? ⟨o.g, 1, none⟩ = some (.slice (some ⟨fg, 0, none⟩) L1 fc) := by rw [← hg1, blk_cell A2.out.drew.blk 1, hL1, ← hfv]; rfl
      have z2 : wr.drew.cell? ⟨fg, n, none⟩ = some (.pointer (some ⟨h.g, 0, none⟩)) := hcell n h.ptr (by rw [hho, hn, ← hhl]; simp)
      have y0 : wr.drew.drew.cell? ⟨o.g, 0, none⟩ = some (.slice (some ad) m1.codes.length cc) := by rw [← hg1, blk_cell A2.out.drew.drew.blk 0, ← hcv]; rfl
      have y1 : wr.drew.drew.cell? ⟨h.g, 0, none⟩ = some (.int .i64 f.pr) := blk_cell HFR0.drew.drew.blk 0
      have y2 : wr.drew.drew.cell? ⟨h.g, 1, none⟩ = some (.int .i64 f.at_) := blk_cell HFR0.drew.drew.blk 1
      have x0 : wr.drew.drew.cell? (ad.add (f.pr.toNat * 4)) = some (.slice (some bd) IL c0) := hx0
      have v0 : wr.drew.drew.cell? (bd.add (f.at_.toNat * 3)) = some (.int .i64 op) := hy0
      have v1 : wr.drew.drew.cell? ⟨(bd.add (f.at_.toNat * 3)).block, (bd.add (f.at_.toNat * 3)).off + 1, none⟩ = some (.int .i64 N1) := hy1
      have v2 : wr.drew.drew.cell? ⟨(bd.add (f.at_.toNat * 3)).block, (bd.add (f.at_.toNat * 3)).off + 2, none⟩ = some (.int .i64 M1) := hy2
      have g0 : wr.cell? ⟨o.g, 0, none⟩ = some (.slice (some ad) m1.codes.length cc) := y0
      have g1 : wr.cell? ⟨h.g, 0, none⟩ = some (.int .i64 f.pr) := y1
      have g2 : wr.cell? ⟨h.g, 1, none⟩ = some (.int .i64 f.at_) := y2
      have HQ := Aside0.mk hq; have HHO := Aside0.mk hho; have HL1 := Aside0.mk hL1; have HN1 := Aside0.mk hn; have HIL := Aside0.mk hIL; have HHL := Aside0.mk hhl; have HFRT := Aside0.mk HFR0; have HG := Aside0.mk hg1
      clear hq hho hL1 hn hIL HFR0 hfv hc1 hc2 hcell hcv hhl hg1 a8 a5
      go_wp2
      go_region_held3 (fun W => W.cell? ⟨o.g, 1, none⟩ = some (.slice (some ⟨fg, 0, none⟩) L1 fc) ∧ W.cell? ⟨fg, n, none⟩ = some (.pointer (some ⟨h.g, 0, none⟩))) (first | exact ⟨by assumption, by assumption⟩ | go_keep) (skip)
      go_wp2
      have nb0 := World.new_ne wr _ g0; have nb1 := World.new_ne wr _ g1; have nb2 := World.new_ne wr _ g2; have nb3 := World.new_ne wr _ hx0; have nb4 := World.new_ne wr _ hy0; have nb5 := World.new_ne wr _ hy1; have nb6 := World.new_ne wr _ hy2
      go_region_held3 (fun W => W.cell? ⟨o.g, 0, none⟩ = some (.slice (some ad) m1.codes.length cc) ∧ W.cell? ⟨h.g, 0, none⟩ = some (.int .i64 f.pr) ∧ W.cell? ⟨h.g, 1, none⟩ = some (.int .i64 f.at_) ∧ W.cell? (ad.add (f.pr.toNat * 4)) = some (.slice (some bd) IL c0) ∧ W.cell? (bd.add (f.at_.toNat * 3)) = some (.int .i64 op) ∧ W.cell? ⟨(bd.add (f.at_.toNat * 3)).block, (bd.add (f.at_.toNat * 3)).off + 1, none⟩ = some (.int .i64 N1) ∧ W.cell? ⟨(bd.add (f.at_.toNat * 3)).block, (bd.add (f.at_.toNat * 3)).off + 2, none⟩ = some (.int .i64 M1)) (first | exact ⟨y0, y1, y2, x0, v0, v1, v2⟩ | go_keep) (skip)
      obtain ⟨gb, hgb⟩ : ∃ gb, gb = wr.heap.size := ⟨_, rfl⟩
      obtain ⟨w3, hw3⟩ : ∃ w3, w3 = (wr.alloc (.cells #[.int .i64 op, .int .i64 N1, .int .i64 M1] 43)).drew.drew := ⟨_, rfl⟩
      have B3 : w3.heap[gb]? = some (.cells #[.int .i64 op, .int .i64 N1, .int .i64 M1] 43 (0, 0)) := by rw [hw3, hgb]; exact blk_new wr _
      have M3 : Mod (fun _ => False) wr w3 := by rw [hw3]; exact ((Mod.refl _ wr).alloc _).drew.drew
      rw [← hgb, ← hw3]
      have H3 : MOn Rd w3 o1 m1 := A2.out.mod M3 (fun _ _ h => h)
      have F3 : FrOn w3 h f := HFRT.out.mod M3 (fun _ _ h => h)
      have b0 : w3.cell? ⟨gb, 0, none⟩ = some (.int .i64 op) := blk_cell B3 0
      have b1 : w3.cell? ⟨gb, 1, none⟩ = some (.int .i64 N1) := blk_cell B3 1
      have b2 : w3.cell? ⟨gb, 2, none⟩ = some (.int .i64 M1) := blk_cell B3 2
      have q1 : w3.cell? ⟨h.g, 1, none⟩ = some (.int .i64 f.at_) := blk_cell F3.blk 1
      have q2 : w3.frozen? ⟨h.g, 1, none⟩ = false := blk_frozen F3.blk 1
      have nh : h.g ≠ gb := by rw [hgb]; exact Nat.ne_of_lt (blk_lt HFRT.out.blk)
      have hat0 := HF.out.at_.1; have hat1 := HF.out.at2
      have H4 := Aside0.mk (H3.setAt HHO.out HF.out.fr (f.at_ + 1))
      have M4 : Aside0 (Mod (fun k => k ∈ o.own) w (w3.setCell ⟨h.g, 1, none⟩ (.int .i64 (f.at_ + 1)))) := ⟨(A4.out.trans M3 (fun _ _ h => h.elim)).trans ((Mod.refl (fun k => k ∈ o1.own) w3).setCell (p := ⟨h.g, 1, none⟩) (fun _ => top_own HHO.out _ (by simp [Ho.blocks])) _) (fun k hk h => (A3.out.2 k h).elim id (fun e => by omega))⟩
      have GB := Aside0.mk hgb; have H3A := Aside0.mk H3
      clear hgb hw3 B3 M3 H3 F3 g0 g1 g2 hx0 hy0 hy1 hy2 nb0 nb1 nb2 nb3 nb4 nb5 nb6 z1 z2 y0 y1 y2 x0 v0 v1 v2 p1 p2 p3 p4 e1 e6 e7
      by_cases hcall : op = 19
      · subst hcall
        have hF := HF.out.call (by rw [← HQ.out])
        rw [← HQ.out] at hF
        simp only at hF
        obtain ⟨f1, f2, f3, f4, f5, f6⟩ := hF
        obtain ⟨MN, rfl⟩ : ∃ k : Nat, M1 = k := ⟨M1.toNat, by omega⟩
        have hst := HF.out.stack f (by rw [HF.out.fr]; simp)
        by_cases h50 : r.length + 1 = 50
        · have HC : Aside0 (Calls Tryd.prog 34 #[.pointer (some ⟨o.g, 0, none⟩), .pointer (some ⟨h.g, 0, none⟩), .agg #[.int .i64 19, .int .i64 N1, .int .i64 MN]] (w3.setCell ⟨h.g, 1, none⟩ (.int .i64 (f.at_ + 1))) (fun e w5 => e = .returned (.int .i64 4) ∧ After Rd w o ({ m1 with frames := r ++ [{ f with at_ := f.at_ + 1, stack := f.stack.take (f.stack.length - MN) }] }) w5)) := ⟨by
              have h1 := call_deep H4.out HHO.out rfl N1 MN (by simp only; omega) (by simp only; omega) h50
              rw [MHo.ptr, HG.out] at h1
              exact h1.mono (fun e w' hp => After.of A3.out M4.out hp)⟩
          have H50 := Aside0.mk h50; clear f1 f2 f3 f4 f5 f6 h50
          go_wp2_with (first | (with_reducible refine wp_label ?_) | ((with_reducible refine gate_callee (f := 34) rfl ?_); refine goesL_ (some 71) rfl rfl Tryd.func34 (by kernel_rfl) rfl #[.pointer (some ⟨o.g, 0, none⟩), .pointer (some ⟨h.g, 0, none⟩), .agg #[.int .i64 19, .int .i64 N1, .int .i64 MN]] rfl (by (try simp only [List.map_toArray, List.map_cons, List.map_nil]); first | done | rfl) ?_; refine (HC.out).mono ?_; rintro e w5 ⟨rfl, AF⟩; have AF := Aside0.mk AF; refine ⟨_, rfl, ?_⟩) | ((with_reducible refine gate_callee (f := 41) rfl ?_); refine goesL_ (some 137) rfl rfl Tryd.func41 (by kernel_rfl) rfl #[.pointer (some ⟨o.g, 0, none⟩), .int .i64 4, .int .i64 4] rfl (by (try simp only [List.map_toArray, List.map_cons, List.map_nil]); first | done | rfl) ?_; refine (AF.out.end_ 4 4 (Nat.le_of_succ_le HF.out.events)).mono ?_; rintro e w6 ⟨rfl, AF2⟩; have ee : w6.cell? ⟨o.g, 11, none⟩ = some (.bool true) := AF2.ended; have AF2 := Aside0.mk AF2; refine ⟨_, rfl, ?_⟩))
          go_ret
          have hone : m1.one = ((({ m1 with frames := r ++ [{ f with at_ := f.at_ + 1, stack := f.stack.take (f.stack.length - MN) }] } : Mc).endM 4 4), false) := by rw [one_is HF.out.fr, ← HQ.out]; simp [Mc.does, H50.out]
          rw [A7.out, steps_end hone rfl gk]
          exact AF2.out.post
        · have HC : Aside0 (Calls Tryd.prog 34 #[.pointer (some ⟨o.g, 0, none⟩), .pointer (some ⟨h.g, 0, none⟩), .agg #[.int .i64 19, .int .i64 N1, .int .i64 MN]] (w3.setCell ⟨h.g, 1, none⟩ (.int .i64 (f.at_ + 1))) (fun e w5 => e = .returned (.int .i64 0) ∧ After Rd w o (({ m1 with frames := r ++ [{ f with at_ := f.at_ + 1, stack := f.stack.take (f.stack.length - MN) }] } : Mc).beginM N1 (f.stack.drop (f.stack.length - MN))) w5)) := ⟨by
              have h1 := call_on H4.out HHO.out rfl N1 MN (rd_T46 m1.codes N1).f1.toNat f1 f2 (by simp only; omega) (by omega) (by omega) (by simp only; omega) (by simp only; omega) (by have := HF.out.deep; omega)
              rw [MHo.ptr, HG.out] at h1
              exact h1.mono (fun e w' hp => After.of A3.out M4.out hp)⟩
          have H50 := Aside0.mk h50; clear f1 f2 f3 f4 f5 f6 h50
          go_wp2_with (first | (with_reducible refine wp_label ?_) | ((with_reducible refine gate_callee (f := 34) rfl ?_); refine goesL_ (some 71) rfl rfl Tryd.func34 (by kernel_rfl) rfl #[.pointer (some ⟨o.g, 0, none⟩), .pointer (some ⟨h.g, 0, none⟩), .agg #[.int .i64 19, .int .i64 N1, .int .i64 MN]] rfl (by (try simp only [List.map_toArray, List.map_cons, List.map_nil]); first | done | rfl) ?_; refine (HC.out).mono ?_; rintro e w5 ⟨rfl, AF⟩; have ee : w5.cell? ⟨o.g, 11, none⟩ = some (.bool false) := A6.out ▸ AF.ended; have AF := Aside0.mk AF; refine ⟨_, rfl, ?_⟩))
          have hone : m1.one = ((({ m1 with frames := r ++ [{ f with at_ := f.at_ + 1, stack := f.stack.take (f.stack.length - MN) }] } : Mc).beginM N1 (f.stack.drop (f.stack.length - MN))), false) := by rw [one_is HF.out.fr, ← HQ.out]; simp [Mc.does, H50.out]
          go_roundg gk
          case measure => omega
          case rel =>
            obtain ⟨o2, hs, hM, hm⟩ := AF.out
            exact ⟨x + 1, o2, (({ m1 with frames := r ++ [{ f with at_ := f.at_ + 1, stack := f.stack.take (f.stack.length - MN) }] } : Mc).beginM N1 (f.stack.drop (f.stack.length - MN))), by go_num, ⟨by have := A1.out; omega⟩, ⟨hM⟩, ⟨hs⟩, ⟨hm⟩, ⟨by have := HR.out.next gk m1 A5.out A6.out (by rw [hone]) (by rw [hone]; exact A6.out); rwa [hone] at this⟩, A6, ⟨A7.out.trans (steps_next hone A6.out gk)⟩, A8⟩
      by_cases hleave : op = 20
      · subst hleave
        clear hcall
        have hF := HF.out.leave (by rw [← HQ.out])
        rw [← HQ.out] at hF
        simp only at hF
        by_cases hr : r.length = 0
        · obtain rfl : r = [] := List.length_eq_zero_iff.1 hr
          have HC : Aside0 (Calls Tryd.prog 35 #[.pointer (some ⟨o.g, 0, none⟩), .pointer (some ⟨h.g, 0, none⟩), .agg #[.int .i64 20, .int .i64 N1, .int .i64 M1]] (w3.setCell ⟨h.g, 1, none⟩ (.int .i64 (f.at_ + 1))) (fun e w5 => e = .returned (.tuple #[]) ∧ After Rd w o (({ m1 with frames := [] } : Mc).endM 3 0) w5)) := ⟨by
              have h1 := leave_last H4.out HHO.out rfl rfl N1 M1 (Nat.le_of_succ_le HF.out.events)
              rw [MHo.ptr, HG.out] at h1
              exact h1.mono (fun e w' hp => After.of A3.out M4.out hp)⟩
          clear hF hr
          go_wp2_with (first | (with_reducible refine wp_label ?_) | ((with_reducible refine gate_callee (f := 35) rfl ?_); refine goesL_ (some 77) rfl rfl Tryd.func35 (by kernel_rfl) rfl #[.pointer (some ⟨o.g, 0, none⟩), .pointer (some ⟨h.g, 0, none⟩), .agg #[.int .i64 20, .int .i64 N1, .int .i64 M1]] rfl (by (try simp only [List.map_toArray, List.map_cons, List.map_nil]); first | done | rfl) ?_; refine (HC.out).mono ?_; rintro e w5 ⟨rfl, AF⟩; have ee : w5.cell? ⟨o.g, 11, none⟩ = some (.bool true) := AF.ended; have AF := Aside0.mk AF; refine ⟨_, rfl, ?_⟩))
          go_ret
          have hone : m1.one = ((({ m1 with frames := [] } : Mc).endM 3 0), false) := by rw [one_is HF.out.fr, ← HQ.out]; simp [Mc.does]
          rw [A7.out, steps_end hone rfl gk]
          exact AF.out.post
        · have HR0 : Aside0 (¬ r = []) := ⟨fun e => hr (by rw [e]; rfl)⟩
          rcases hF with rfl | ⟨rfl, hs1⟩
          · have HC : Aside0 (Calls Tryd.prog 35 #[.pointer (some ⟨o.g, 0, none⟩), .pointer (some ⟨h.g, 0, none⟩), .agg #[.int .i64 20, .int .i64 0, .int .i64 M1]] (w3.setCell ⟨h.g, 1, none⟩ (.int .i64 (f.at_ + 1))) (fun e w5 => e = .returned (.tuple #[]) ∧ After Rd w o ({ m1 with frames := r }) w5)) := ⟨by
              have h1 := leave_void H4.out HHO.out rfl M1 (by omega) (by have := HF.out.deep; omega)
              rw [MHo.ptr, HG.out] at h1
              exact h1.mono (fun e w' hp => After.of A3.out M4.out hp)⟩
            clear hr
            go_wp2_with (first | (with_reducible refine wp_label ?_) | ((with_reducible refine gate_callee (f := 35) rfl ?_); refine goesL_ (some 77) rfl rfl Tryd.func35 (by kernel_rfl) rfl #[.pointer (some ⟨o.g, 0, none⟩), .pointer (some ⟨h.g, 0, none⟩), .agg #[.int .i64 20, .int .i64 0, .int .i64 M1]] rfl (by (try simp only [List.map_toArray, List.map_cons, List.map_nil]); first | done | rfl) ?_; refine (HC.out).mono ?_; rintro e w5 ⟨rfl, AF⟩; have ee : w5.cell? ⟨o.g, 11, none⟩ = some (.bool false) := A6.out ▸ AF.ended; have AF := Aside0.mk AF; refine ⟨_, rfl, ?_⟩))
            have hone : m1.one = (({ m1 with frames := r }), false) := by rw [one_is HF.out.fr, ← HQ.out]; simp [Mc.does, HR0.out]
            go_roundg gk
            case measure => omega
            case rel =>
              obtain ⟨o2, hs, hM, hm⟩ := AF.out
              exact ⟨x + 1, o2, ({ m1 with frames := r }), by go_num, ⟨by have := A1.out; omega⟩, ⟨hM⟩, ⟨hs⟩, ⟨hm⟩, ⟨by have := HR.out.next gk m1 A5.out A6.out (by rw [hone]) (by rw [hone]; exact A6.out); rwa [hone] at this⟩, A6, ⟨A7.out.trans (steps_next hone A6.out gk)⟩, A8⟩
          · obtain ⟨r1, g1, hr1⟩ : ∃ r1 g1, r = r1 ++ [g1] := by
              rcases List.eq_nil_or_concat r with e | ⟨s, y, e⟩
              · exact absurd e HR0.out
              · exact ⟨s, y, by simpa using e⟩
            obtain ⟨hs1', h1, hh1⟩ : ∃ r1 g1, hs0 = r1 ++ [g1] := by
              rcases List.eq_nil_or_concat hs0 with e | ⟨s, y, e⟩
              · have := HHL.out; rw [e, hr1] at this; simp at this
              · exact ⟨s, y, by simpa using e⟩
            have HC : Aside0 (Calls Tryd.prog 35 #[.pointer (some ⟨o.g, 0, none⟩), .pointer (some ⟨h.g, 0, none⟩), .agg #[.int .i64 20, .int .i64 1, .int .i64 M1]] (w3.setCell ⟨h.g, 1, none⟩ (.int .i64 (f.at_ + 1))) (fun e w5 => e = .returned (.tuple #[]) ∧ After Rd w o ({ m1 with frames := r1 ++ [{ g1 with stack := g1.stack ++ [f.stack.getLastD 0] }] }) w5)) := ⟨by
              have h9 := leave_ret (r1 := r1) (f1 := g1) (f := { f with at_ := f.at_ + 1 }) (h1 := h1) (hs1 := hs1') H4.out (by rw [HHO.out, hh1]) (by show r ++ [{ f with at_ := f.at_ + 1 }] = _; rw [hr1]) M1 (f.stack.getLastD 0) f.stack.dropLast (snoc_of hs1) (by have := HF.out.stack g1 (by rw [HF.out.fr, hr1]; simp); omega) (by have := HF.out.deep; rw [hr1] at this; simp at this; omega)
              rw [MHo.ptr, HG.out] at h9; have h1 := h9
              exact h1.mono (fun e w' hp => After.of A3.out M4.out hp)⟩
            have HR1 := Aside0.mk hr1
            clear hr hs1 hr1 hh1
            go_wp2_with (first | (with_reducible refine wp_label ?_) | ((with_reducible refine gate_callee (f := 35) rfl ?_); refine goesL_ (some 77) rfl rfl Tryd.func35 (by kernel_rfl) rfl #[.pointer (some ⟨o.g, 0, none⟩), .pointer (some ⟨h.g, 0, none⟩), .agg #[.int .i64 20, .int .i64 1, .int .i64 M1]] rfl (by (try simp only [List.map_toArray, List.map_cons, List.map_nil]); first | done | rfl) ?_; refine (HC.out).mono ?_; rintro e w5 ⟨rfl, AF⟩; have ee : w5.cell? ⟨o.g, 11, none⟩ = some (.bool false) := A6.out ▸ AF.ended; have AF := Aside0.mk AF; refine ⟨_, rfl, ?_⟩))
            have hone : m1.one = (({ m1 with frames := r1 ++ [{ g1 with stack := g1.stack ++ [f.stack.getLastD 0] }] }), false) := by rw [one_is HF.out.fr, ← HQ.out]; simp [Mc.does, HR1.out, pushTop]
            go_roundg gk
            case measure => omega
            case rel =>
              obtain ⟨o2, hs, hM, hm⟩ := AF.out
              exact ⟨x + 1, o2, ({ m1 with frames := r1 ++ [{ g1 with stack := g1.stack ++ [f.stack.getLastD 0] }] }), by go_num, ⟨by have := A1.out; omega⟩, ⟨hM⟩, ⟨hs⟩, ⟨hm⟩, ⟨by have := HR.out.next gk m1 A5.out A6.out (by rw [hone]) (by rw [hone]; exact A6.out); rwa [hone] at this⟩, A6, ⟨A7.out.trans (steps_next hone A6.out gk)⟩, A8⟩
      by_cases hprint : op = 21
      · subst hprint
        clear hcall hleave
        have hF := HF.out.print (by rw [← HQ.out])
        have HC : Aside0 (Calls Tryd.prog 37 #[.pointer (some ⟨h.g, 0, none⟩)] (w3.setCell ⟨h.g, 1, none⟩ (.int .i64 (f.at_ + 1))) (fun e w5 => e = .returned (.int .i64 (f.stack.getLastD 0)) ∧ After Rd w o ({ m1 with frames := r ++ [{ f with at_ := f.at_ + 1, stack := f.stack.dropLast }] }) w5)) := ⟨by
              have h1 := top_pop H4.out HHO.out rfl f.stack.dropLast (f.stack.getLastD 0) (snoc_of hF)
              rw [Ho.ptr] at h1
              exact h1.mono (fun e w' hp => After.of A3.out M4.out hp)⟩
        clear hF
        obtain ⟨X, hX⟩ : ∃ X, X = f.stack.getLastD 0 := ⟨_, rfl⟩
        rw [← hX] at HC
        have HX := Aside0.mk hX; clear hX
        go_wp2_with (first | (with_reducible refine wp_label ?_) | ((with_reducible refine gate_callee (f := 37) rfl ?_); refine goesL_ (some 82) rfl rfl Tryd.func37 (by kernel_rfl) rfl #[.pointer (some ⟨h.g, 0, none⟩)] rfl (by (try simp only [List.map_toArray, List.map_cons, List.map_nil]); first | done | rfl) ?_; refine (HC.out).mono ?_; rintro e w5 ⟨rfl, AF0⟩; have AF0 := Aside0.mk AF0; refine ⟨_, rfl, ?_⟩) | ((with_reducible refine gate_callee (f := 36) rfl ?_); refine goesL_ (some 83) rfl rfl Tryd.func36 (by kernel_rfl) rfl #[.pointer (some ⟨o.g, 0, none⟩), .int .i64 1, .int .i64 X] rfl (by (try simp only [List.map_toArray, List.map_cons, List.map_nil]); first | done | rfl) ?_; refine (AF0.out.event 1 X (Nat.le_of_succ_le HF.out.events)).mono ?_; rintro e w6 ⟨rfl, AF⟩; have ee : w6.cell? ⟨o.g, 11, none⟩ = some (.bool false) := A6.out ▸ AF.ended; have AF := Aside0.mk (HX.out ▸ AF); refine ⟨_, rfl, ?_⟩))
        have hone : m1.one = (({ m1 with frames := r ++ [{ f with at_ := f.at_ + 1, stack := f.stack.dropLast }], events := m1.events ++ [(1, f.stack.getLastD 0)] }), false) := by rw [one_is HF.out.fr, ← HQ.out]; simp [Mc.does]
        go_roundg gk
        case measure => omega
        case rel =>
          obtain ⟨o2, hs, hM, hm⟩ := AF.out
          exact ⟨x + 1, o2, ({ m1 with frames := r ++ [{ f with at_ := f.at_ + 1, stack := f.stack.dropLast }], events := m1.events ++ [(1, f.stack.getLastD 0)] }), by go_num, ⟨by have := A1.out; omega⟩, ⟨hM⟩, ⟨hs⟩, ⟨hm⟩, ⟨by have := HR.out.next gk m1 A5.out A6.out (by rw [hone]) (by rw [hone]; exact A6.out); rwa [hone] at this⟩, A6, ⟨A7.out.trans (steps_next hone A6.out gk)⟩, A8⟩
      by_cases hmark : op = 24
      · subst hmark
        clear hcall hleave hprint
        by_cases hfuel : m1.fuel = 0
        · have HC : Aside0 (Calls Tryd.prog 39 #[.pointer (some ⟨o.g, 0, none⟩), .pointer (some ⟨h.g, 0, none⟩), .agg #[.int .i64 24, .int .i64 N1, .int .i64 M1]] (w3.setCell ⟨h.g, 1, none⟩ (.int .i64 (f.at_ + 1))) (fun e w5 => e = .returned (.tuple #[]) ∧ After Rd w o (({ m1 with frames := r ++ [{ f with at_ := f.at_ + 1 }] } : Mc).endM 5 0) w5)) := ⟨by
              have h1 := mark_none H4.out h.ptr N1 M1 hfuel (Nat.le_of_succ_le HF.out.events)
              rw [MHo.ptr, HG.out] at h1
              exact h1.mono (fun e w' hp => After.of A3.out M4.out hp)⟩
          have HFU := Aside0.mk hfuel; clear hfuel
          go_wp2_with (first | (with_reducible refine wp_label ?_) | ((with_reducible refine gate_callee (f := 39) rfl ?_); refine goesL_ (some 132) rfl rfl Tryd.func39 (by kernel_rfl) rfl #[.pointer (some ⟨o.g, 0, none⟩), .pointer (some ⟨h.g, 0, none⟩), .agg #[.int .i64 24, .int .i64 N1, .int .i64 M1]] rfl (by (try simp only [List.map_toArray, List.map_cons, List.map_nil]); first | done | rfl) ?_; refine (HC.out).mono ?_; rintro e w5 ⟨rfl, AF⟩; have ee : w5.cell? ⟨o.g, 11, none⟩ = some (.bool true) := AF.ended; have AF := Aside0.mk AF; refine ⟨_, rfl, ?_⟩))
          go_ret
          have hone : m1.one = ((({ m1 with frames := r ++ [{ f with at_ := f.at_ + 1 }] } : Mc).endM 5 0), false) := by rw [one_is HF.out.fr, ← HQ.out]; simp [Mc.does, HFU.out]
          rw [A7.out, steps_end hone rfl gk]
          exact AF.out.post
        · have HC : Aside0 (Calls Tryd.prog 39 #[.pointer (some ⟨o.g, 0, none⟩), .pointer (some ⟨h.g, 0, none⟩), .agg #[.int .i64 24, .int .i64 N1, .int .i64 M1]] (w3.setCell ⟨h.g, 1, none⟩ (.int .i64 (f.at_ + 1))) (fun e w5 => e = .returned (.tuple #[]) ∧ After Rd w o ({ m1 with frames := r ++ [{ f with at_ := f.at_ + 1, mark := N1 }], fuel := m1.fuel - 1, ticks := m1.ticks + 1, tick := (M1, f.pr, N1, (r.length + 1 : Nat)) }) w5)) := ⟨by
              have h1 := mark_on H4.out HHO.out rfl N1 M1 (by have := HF.out.fuel; simp only; omega) HF.out.fuel.2 HF.out.ticks.1 HF.out.ticks.2
              rw [MHo.ptr, HG.out] at h1
              exact h1.mono (fun e w' hp => After.of A3.out M4.out hp)⟩
          have HFU := Aside0.mk hfuel; clear hfuel
          have dt : ((m1.ticks + 1) == m.ticks) = false := beq_eq_false_iff_ne.mpr (by rw [A8.out]; omega)
          go_wp2_with (first | (with_reducible refine wp_label ?_) | ((with_reducible refine gate_callee (f := 39) rfl ?_); refine goesL_ (some 132) rfl rfl Tryd.func39 (by kernel_rfl) rfl #[.pointer (some ⟨o.g, 0, none⟩), .pointer (some ⟨h.g, 0, none⟩), .agg #[.int .i64 24, .int .i64 N1, .int .i64 M1]] rfl (by (try simp only [List.map_toArray, List.map_cons, List.map_nil]); first | done | rfl) ?_; refine (HC.out).mono ?_; rintro e w5 ⟨rfl, AF⟩; have ee : w5.cell? ⟨o.g, 11, none⟩ = some (.bool false) := A6.out ▸ AF.ended; have et : w5.cell? ⟨o.g, 5, none⟩ = some (.int .i64 (m1.ticks + 1)) := AF.ticks; have AF := Aside0.mk AF; refine ⟨_, rfl, ?_⟩))
          go_ret
          have hone : m1.one = ({ m1 with frames := r ++ [{ f with at_ := f.at_ + 1, mark := N1 }], fuel := m1.fuel - 1, ticks := m1.ticks + 1, tick := (M1, f.pr, N1, (r.length + 1 : Nat)) }, true) := by rw [one_is HF.out.fr, ← HQ.out]; simp [Mc.does, HFU.out]
          rw [A7.out, steps_tick hone gk]
          exact AF.out.post
      by_cases hread : op = 22
      · subst hread
        clear hcall hleave hprint hmark
        have hil := HF.out.inp; have hrl := HF.out.read
        obtain ⟨IL2, hIL2⟩ : ∃ IL2, IL2 = m1.input.length := ⟨_, rfl⟩
        have HIL2 := Aside0.mk hIL2
        by_cases hri : m1.read = m1.input.length
        · obtain ⟨IA, IC, hiv⟩ := iv_form H4.out
          rw [show (({ m1 with frames := r ++ [{ f with at_ := f.at_ + 1 }] } : Mc).input) = m1.input from rfl, ← hIL2] at hiv
          have z3 : (w3.setCell ⟨h.g, 1, none⟩ (.int .i64 (f.at_ + 1))).drew.cell? ⟨o.g, 3, none⟩ = some (.int .i64 m1.read) := by rw [← HG.out]; exact blk_cell H4.out.drew.blk 3
          have z2 : (w3.setCell ⟨h.g, 1, none⟩ (.int .i64 (f.at_ + 1))).drew.cell? ⟨o.g, 2, none⟩ = some (.slice IA IL2 IC) := by rw [← HG.out, ← hiv]; exact blk_cell H4.out.drew.blk 2
          have HRI := Aside0.mk hri
          have kr : ((m1.read : Int) == (IL2 : Int)) = true := beq_iff_eq.mpr (by rw [hIL2, hri])
          have AF : Aside0 (After Rd w o ({ m1 with frames := r ++ [{ f with at_ := f.at_ + 1 }] }) (w3.setCell ⟨h.g, 1, none⟩ (.int .i64 (f.at_ + 1))).drew) := ⟨After.drew ⟨o1, A3.out, H4.out, M4.out⟩⟩
          clear hri hiv hIL2 hil hrl
          go_wp2_with (fail)
          go_region_held3 (fun W => W.cell? ⟨o.g, 3, none⟩ = some (.int .i64 m1.read) ∧ W.cell? ⟨o.g, 2, none⟩ = some (.slice IA IL2 IC)) (first | exact ⟨by assumption, by assumption⟩ | go_keep) (skip)
          go_wp2_with (first | (with_reducible refine wp_label ?_) | ((with_reducible refine gate_callee (f := 41) rfl ?_); refine goesL_ (some 137) rfl rfl Tryd.func41 (by kernel_rfl) rfl #[.pointer (some ⟨o.g, 0, none⟩), .int .i64 4, .int .i64 5] rfl (by (try simp only [List.map_toArray, List.map_cons, List.map_nil]); first | done | rfl) ?_; refine (AF.out.end_ 4 5 (Nat.le_of_succ_le HF.out.events)).mono ?_; rintro e w6 ⟨rfl, AF2⟩; have ee : w6.cell? ⟨o.g, 11, none⟩ = some (.bool true) := AF2.ended; have AF2 := Aside0.mk AF2; refine ⟨_, rfl, ?_⟩))
          go_ret
          have hone : m1.one = ((({ m1 with frames := r ++ [{ f with at_ := f.at_ + 1 }] } : Mc).endM 4 5), false) := by rw [one_is HF.out.fr, ← HQ.out]; simp [Mc.does, HRI.out]
          rw [A7.out, steps_end hone rfl gk]
          exact AF2.out.post
        · obtain ⟨ia, IC, hiv, hic⟩ := input_at H4.out (by show m1.read < m1.input.length; omega)
          rw [show (({ m1 with frames := r ++ [{ f with at_ := f.at_ + 1 }] } : Mc).input) = m1.input from rfl, ← hIL2] at hiv
          simp only at hic
          obtain ⟨X, hX⟩ : ∃ X, X = m1.input.getD m1.read 0 := ⟨_, rfl⟩
          rw [← hX] at hic
          have z3 : (w3.setCell ⟨h.g, 1, none⟩ (.int .i64 (f.at_ + 1))).drew.cell? ⟨o.g, 3, none⟩ = some (.int .i64 m1.read) := by rw [← HG.out]; exact blk_cell H4.out.drew.blk 3
          have z2 : (w3.setCell ⟨h.g, 1, none⟩ (.int .i64 (f.at_ + 1))).drew.cell? ⟨o.g, 2, none⟩ = some (.slice (some ia) IL2 IC) := by rw [← HG.out, ← hiv]; exact blk_cell H4.out.drew.blk 2
          have y3 : (w3.setCell ⟨h.g, 1, none⟩ (.int .i64 (f.at_ + 1))).drew.drew.cell? ⟨o.g, 3, none⟩ = some (.int .i64 m1.read) := z3
          have y2 : (w3.setCell ⟨h.g, 1, none⟩ (.int .i64 (f.at_ + 1))).drew.drew.cell? ⟨o.g, 2, none⟩ = some (.slice (some ia) IL2 IC) := z2
          have y1 : (w3.setCell ⟨h.g, 1, none⟩ (.int .i64 (f.at_ + 1))).drew.drew.cell? (ia.add m1.read) = some (.int .i64 X) := hic
          have kr : ((m1.read : Int) == (IL2 : Int)) = false := beq_eq_false_iff_ne.mpr (by rw [hIL2]; omega)
          have l0 : (0 : Int) ≤ (m1.read : Int) := by omega
          have l1 : (m1.read : Int) < (IL2 : Int) := by omega
          have lr : (m1.read : Int) ≤ 1000000 := by omega
          have HPU : Aside0 (Calls Tryd.prog 38 #[.pointer (some ⟨h.g, 0, none⟩), .int .i64 X] (w3.setCell ⟨h.g, 1, none⟩ (.int .i64 (f.at_ + 1))).drew.drew (fun e w5 => e = .returned (.tuple #[]) ∧ After Rd w o ({ m1 with frames := r ++ [{ f with at_ := f.at_ + 1, stack := f.stack ++ [m1.input.getD m1.read 0] }] }) w5 ∧ w5.cell? ⟨o.g, 3, none⟩ = some (.int .i64 m1.read) ∧ w5.cell? ⟨o.g, 2, none⟩ = some (.slice (some ia) IL2 IC) ∧ w5.cell? (ia.add m1.read) = some (.int .i64 X))) := ⟨by
            have h1 := top_push H4.out.drew.drew HHO.out rfl X (by have := HF.out.stack f (by rw [HF.out.fr]; simp); simp only; omega)
            rw [Ho.ptr] at h1
            refine h1.mono ?_
            rintro e w5 ⟨rfl, o2, hiv2, hs, hM, hm⟩
            have hg2 : o2.g = o.g := hs.1.trans HG.out
            obtain ⟨ia2, IC2, hiv3, hic3⟩ := input_at hM (by show m1.read < m1.input.length; omega)
            rw [hiv2, hiv] at hiv3
            obtain ⟨e1, e2, e3⟩ := Value.slice.inj hiv3
            obtain rfl := Option.some.inj e1
            refine ⟨rfl, ⟨o2, A3.out.trans M4.out.drew.drew.size hs, by rw [← hX]; exact hM, M4.out.drew.drew.trans hm (fun k hk h => (A3.out.2 k h).elim id (fun e => by omega))⟩, ?_, ?_, ?_⟩
            · rw [← hg2]; exact blk_cell hM.blk 3
            · rw [← hg2, ← hiv, ← hiv2]; exact blk_cell hM.blk 2
            · rw [hX]; exact hic3⟩
          have HRI := Aside0.mk hri; have HX := Aside0.mk hX
          have HEVA : Aside0 (∀ w5, After Rd w o ({ m1 with frames := r ++ [{ f with at_ := f.at_ + 1, stack := f.stack ++ [m1.input.getD m1.read 0] }] }) w5 → w5.cell? ⟨o.g, 3, none⟩ = some (.int .i64 m1.read) → w5.cell? ⟨o.g, 2, none⟩ = some (.slice (some ia) IL2 IC) → w5.cell? (ia.add m1.read) = some (.int .i64 X) →
              Calls Tryd.prog 36 #[.pointer (some ⟨o.g, 0, none⟩), .int .i64 2, .int .i64 X] w5.drew (fun e w6 => e = .returned (.tuple #[]) ∧ After Rd w o ({ m1 with frames := r ++ [{ f with at_ := f.at_ + 1, stack := f.stack ++ [m1.input.getD m1.read 0] }], events := m1.events ++ [(2, m1.input.getD m1.read 0)] }) w6 ∧ w6.cell? ⟨o.g, 3, none⟩ = some (.int .i64 m1.read) ∧ w6.frozen? ⟨o.g, 3, none⟩ = false ∧ w6.cell? ⟨o.g, 2, none⟩ = some (.slice (some ia) IL2 IC) ∧ w6.cell? (ia.add m1.read) = some (.int .i64 X))) := ⟨by
            rintro w5 ⟨o2, hs, hM, hm⟩ q3 q2 q1
            have h1 := event_on hM.drew 2 X (Nat.le_of_succ_le HF.out.events)
            rw [show o2.ptr = .pointer (some ⟨o.g, 0, none⟩) by rw [MHo.ptr, hs.1]] at h1
            refine h1.mono ?_
            rintro e w6 ⟨rfl, v1, hv, hM2, hmod⟩
            have hin : ∀ k, k = o2.g ∨ o2.ev.ownBlock = some k → k ∈ o2.own := fun k h => by
              rcases h with rfl | h
              · simp [MHo.own]
              · simp [MHo.own, h]
            have hblk := hM2.blk
            rw [show ({ o2 with ev := v1 } : MHo).g = o.g from hs.1] at hblk
            obtain ⟨A9, C9, hiv9⟩ := iv_form hM
            have hq2 : o2.iv = .slice (some ia) IL2 IC := by
              have := blk_cell hM.blk 2
              rw [hs.1, q2] at this
              exact (Option.some.inj this).symm
            obtain ⟨ia2, IC2, hiv3, hic3⟩ := input_at hM2 (by show m1.read < m1.input.length; omega)
            rw [show ({ o2 with ev := v1 } : MHo).iv = o2.iv from rfl, hq2] at hiv3
            obtain ⟨e1, e2, e3⟩ := Value.slice.inj hiv3
            obtain rfl := Option.some.inj e1
            refine ⟨rfl, ⟨_, hs.trans hm.size (setEv_sub hv), by rw [← hX]; rw [← hX] at hM2; exact hM2, hm.drew.trans hmod (fun k hk h => (hs.2 k (hin k h)).elim id (fun e => by omega))⟩, blk_cell hblk 3, blk_frozen hblk 3, ?_, ?_⟩
            · rw [← hq2]; exact blk_cell hblk 2
            · rw [hX]; exact hic3⟩
          clear hri hiv hIL2 hil hrl hX hic
          go_wp2_with (fail)
          go_region_held3 (fun W => W.cell? ⟨o.g, 3, none⟩ = some (.int .i64 m1.read) ∧ W.cell? ⟨o.g, 2, none⟩ = some (.slice (some ia) IL2 IC)) (first | exact ⟨by assumption, by assumption⟩ | go_keep) (skip)
          go_wp2_with (fail)
          go_region_held3 (fun W => W.cell? ⟨o.g, 3, none⟩ = some (.int .i64 m1.read) ∧ W.cell? ⟨o.g, 2, none⟩ = some (.slice (some ia) IL2 IC) ∧ W.cell? (ia.add m1.read) = some (.int .i64 X)) (first | exact ⟨by assumption, by assumption, by assumption⟩ | go_keep) (((with_reducible refine HPU.out.mono ?_); rintro e w5 ⟨rfl, AF5, q3, q2, q1⟩; have p3 : w5.drew.cell? ⟨o.g, 3, none⟩ = some (.int .i64 m1.read) := q3; have p2 : w5.drew.cell? ⟨o.g, 2, none⟩ = some (.slice (some ia) IL2 IC) := q2; have p1 : w5.drew.cell? (ia.add m1.read) = some (.int .i64 X) := q1; have HEV := Aside0.mk (HEVA.out w5 AF5 q3 q2 q1); have AF5 := Aside0.mk AF5))
          go_wp2_with (fail)
          go_region_held3 (fun W => W.cell? ⟨o.g, 3, none⟩ = some (.int .i64 m1.read) ∧ W.cell? ⟨o.g, 2, none⟩ = some (.slice (some ia) IL2 IC) ∧ W.cell? (ia.add m1.read) = some (.int .i64 X)) (first | exact ⟨by assumption, by assumption, by assumption⟩ | go_keep) (((with_reducible refine HEV.out.mono ?_); rintro e w6 ⟨rfl, AF6, r3, r3f, r2, r1⟩; have AF6 := Aside0.mk AF6))
          have ee : w6.cell? ⟨o.g, 11, none⟩ = some (.bool false) := A6.out ▸ AF6.out.ended
          go_wp2
          have AF := Aside0.mk AF6.out.read
          have hone : m1.one = (({ m1 with frames := r ++ [{ f with at_ := f.at_ + 1, stack := f.stack ++ [m1.input.getD m1.read 0] }], events := m1.events ++ [(2, m1.input.getD m1.read 0)], read := m1.read + 1 }), false) := by rw [one_is HF.out.fr, ← HQ.out]; simp [Mc.does, HRI.out]
          go_roundg gk
          case measure => omega
          case rel =>
            obtain ⟨o2, hs, hM, hm⟩ := AF.out
            exact ⟨x + 1, o2, ({ m1 with frames := r ++ [{ f with at_ := f.at_ + 1, stack := f.stack ++ [m1.input.getD m1.read 0] }], events := m1.events ++ [(2, m1.input.getD m1.read 0)], read := m1.read + 1 }), by go_num, ⟨by have := A1.out; omega⟩, ⟨hM⟩, ⟨hs⟩, ⟨hm⟩, ⟨by have := HR.out.next gk m1 A5.out A6.out (by rw [hone]) (by rw [hone]; exact A6.out); rwa [hone] at this⟩, A6, ⟨A7.out.trans (steps_next hone A6.out gk)⟩, A8⟩
      have HNOP : Aside0 (op ≠ 19 ∧ op ≠ 20 ∧ op ≠ 21 ∧ op ≠ 22 ∧ op ≠ 24) := ⟨hcall, hleave, hprint, hread, hmark⟩
      have k19 : (op == 19) = false := beq_eq_false_iff_ne.mpr hcall
      have k20 : (op == 20) = false := beq_eq_false_iff_ne.mpr hleave
      have k21 : (op == 21) = false := beq_eq_false_iff_ne.mpr hprint
      have k22 : (op == 22) = false := beq_eq_false_iff_ne.mpr hread
      have k24 : (op == 24) = false := beq_eq_false_iff_ne.mpr hmark
      obtain ⟨f2, tr, hdt⟩ : ∃ f2 tr, dataR { f with at_ := f.at_ + 1 } ⟨op, N1, M1⟩ = (f2, tr) := ⟨_, _, rfl⟩
      have HC : Aside0 (Calls Tryd.prog 40 #[.pointer (some ⟨h.g, 0, none⟩), .agg #[.int .i64 op, .int .i64 N1, .int .i64 M1]] (w3.setCell ⟨h.g, 1, none⟩ (.int .i64 (f.at_ + 1))) (fun e w5 => e = .returned (.int .i64 tr) ∧ After Rd w o ({ m1 with frames := r ++ [f2] }) w5)) := ⟨by
              have h1 := top_data H4.out HHO.out rfl ⟨op, N1, M1⟩ (by have := HF.out.data; rw [← HQ.out] at this; exact this hcall hleave hprint hread hmark)
              rw [Ho.ptr, hdt] at h1
              exact h1.mono (fun e w' hp => After.of A3.out M4.out hp)⟩
      have HDT := Aside0.mk hdt
      clear hcall hleave hprint hread hmark hdt
      by_cases htr : tr = 0
      · have kt : (tr != 0) = false := by rw [htr]; rfl
        have HTR := Aside0.mk htr; clear htr
        go_wp2_with (first | (with_reducible refine wp_label ?_) | ((with_reducible refine gate_callee (f := 40) rfl ?_); refine goesL_ (some 65) rfl rfl Tryd.func40 (by kernel_rfl) rfl #[.pointer (some ⟨h.g, 0, none⟩), .agg #[.int .i64 op, .int .i64 N1, .int .i64 M1]] rfl (by (try simp only [List.map_toArray, List.map_cons, List.map_nil]); first | done | rfl) ?_; refine (HC.out).mono ?_; rintro e w5 ⟨rfl, AF⟩; have ee : w5.cell? ⟨o.g, 11, none⟩ = some (.bool false) := A6.out ▸ AF.ended; have AF := Aside0.mk AF; refine ⟨_, rfl, ?_⟩))
        have hone : m1.one = (({ m1 with frames := r ++ [f2] }), false) := by rw [one_is HF.out.fr, ← HQ.out]; simp [Mc.does, HNOP.out, HDT.out, HTR.out]
        go_roundg gk
        case measure => omega
        case rel =>
          obtain ⟨o2, hs, hM, hm⟩ := AF.out
          exact ⟨x + 1, o2, ({ m1 with frames := r ++ [f2] }), by go_num, ⟨by have := A1.out; omega⟩, ⟨hM⟩, ⟨hs⟩, ⟨hm⟩, ⟨by have := HR.out.next gk m1 A5.out A6.out (by rw [hone]) (by rw [hone]; exact A6.out); rwa [hone] at this⟩, A6, ⟨A7.out.trans (steps_next hone A6.out gk)⟩, A8⟩
      · have kt : (tr != 0) = true := bne_iff_ne.mpr htr
        have HTR := Aside0.mk htr; clear htr
        go_wp2_with (first | (with_reducible refine wp_label ?_) | ((with_reducible refine gate_callee (f := 40) rfl ?_); refine goesL_ (some 65) rfl rfl Tryd.func40 (by kernel_rfl) rfl #[.pointer (some ⟨h.g, 0, none⟩), .agg #[.int .i64 op, .int .i64 N1, .int .i64 M1]] rfl (by (try simp only [List.map_toArray, List.map_cons, List.map_nil]); first | done | rfl) ?_; refine (HC.out).mono ?_; rintro e w5 ⟨rfl, AF⟩; have AF := Aside0.mk AF; refine ⟨_, rfl, ?_⟩) | ((with_reducible refine gate_callee (f := 41) rfl ?_); refine goesL_ (some 137) rfl rfl Tryd.func41 (by kernel_rfl) rfl #[.pointer (some ⟨o.g, 0, none⟩), .int .i64 4, .int .i64 tr] rfl (by (try simp only [List.map_toArray, List.map_cons, List.map_nil]); first | done | rfl) ?_; refine (AF.out.end_ 4 tr (Nat.le_of_succ_le HF.out.events)).mono ?_; rintro e w6 ⟨rfl, AF2⟩; have ee : w6.cell? ⟨o.g, 11, none⟩ = some (.bool true) := AF2.ended; have AF2 := Aside0.mk AF2; refine ⟨_, rfl, ?_⟩))
        go_ret
        have hone : m1.one = ((({ m1 with frames := r ++ [f2] } : Mc).endM 4 tr), false) := by rw [one_is HF.out.fr, ← HQ.out]; simp [Mc.does, HNOP.out, HDT.out, HTR.out]
        rw [A7.out, steps_end hone rfl gk]
        exact AF2.out.post
end
end Go.Proofs.YthckiolgpgplpaaDoor
end
section
namespace Go.Proofs.YthckiolgpgplpaaDoor
open Go.RowKit Go.Proofs.YthckiolgpgplpaaDoorW.PrintWords Go.Proofs.YthckiolgpgplpaaDoorW.PrintLast Go.Proofs.YthckiolgpgplpaaDoorW.PrintMore Go.Proofs.YthckiolgpgplpaaDoor.P Go.Proofs.YthckiolgpgplpaaDoor.Q
set_option linter.unusedVariables false
set_option linter.unusedSimpArgs false
/-- Place p of code k can be reached at height h. -/
def RR (l : List S46) (k : Int) (p : Nat) (h : Int) : Prop := ∃ hs : Shape l (rdC l k), (net l (rdC l k).f0 (shape_valid hs)).R p h
theorem rr_ok {l : List S46} {main k : Int} (hS : SoundP l main) (k0 : 0 ≤ k) (k1 : k < (l.length : Int)) {p : Nat} {h : Int} (hr : RR l k p h) :
    p < (rdC l k).f0.length ∧ 0 ≤ h ∧ okH l (rdI (rdC l k).f0 p) h = true ∧ (∀ q : Nat, (q : Int) ∈ nxt (rdI (rdC l k).f0 p) p → RR l k q (h - (mv l (rdI (rdC l k).f0 p)).1 + (mv l (rdI (rdC l k).f0 p)).2)) ∧ Shape l (rdC l k) := by
  obtain ⟨kn, rfl⟩ : ∃ n : Nat, k = n := ⟨k.toNat, by omega⟩
  obtain ⟨t, ht, ht2⟩ := hS.2 kn (by omega)
  rcases ht with ⟨_, hs', hT, hW⟩ | ⟨rfl, _⟩
  · obtain ⟨hs, hr⟩ := hr
    have h0 : 0 < (net l (rdC l kn).f0 (shape_valid hs)).n := hs.1.1
    obtain ⟨a, b, c⟩ := Net.reach h0 hT hW hr
    obtain ⟨d, e⟩ := hW p a (by rw [b]; exact c)
    rw [b] at d
    exact ⟨a, c, d, fun q hq => ⟨hs, Net.R.step hr a d hq⟩, hs⟩
  · cases ht2
theorem rr_zero {l : List S46} {main k : Int} (hS : SoundP l main) (k0 : 0 ≤ k) (k1 : k < (l.length : Int)) : RR l k 0 0 := by
  obtain ⟨kn, rfl⟩ : ∃ n : Nat, k = n := ⟨k.toNat, by omega⟩
  obtain ⟨t, ht, ht2⟩ := hS.2 kn (by omega)
  rcases ht with ⟨_, hs, hT, hW⟩ | ⟨rfl, _⟩
  · exact ⟨hs, .zero⟩
  · cases ht2
def GFr (l : List S46) (f : Fr) (ex : Int) : Prop := 0 ≤ f.pr ∧ f.pr < (l.length : Int) ∧ (f.cells.length : Int) = (rdC l f.pr).f1 ∧ ∃ p : Nat, f.at_ = p ∧ RR l f.pr p ((f.stack.length : Int) + ex)
def ansI (l : List S46) (k : Int) : Int := if (rdC l k).f3 = true then 1 else 0
def Chain (l : List S46) : List Fr → Int → Prop
  | [], _ => True
  | f :: r, ex => GFr l f ex ∧ Chain l r (ansI l f.pr)
structure GoodS (m : Mc) : Prop where
  sound : ∃ main, SoundP m.codes main
  chain : m.ended = false → Chain m.codes m.frames.reverse 0
  ne : m.ended = false → m.frames ≠ []
  deep : m.ended = false → m.frames.length ≤ 50
  fuel : 0 ≤ m.fuel ∧ 0 ≤ m.ticks ∧ m.fuel + m.ticks ≤ 1048576
  read : m.read ≤ m.input.length
  inp : m.input.length ≤ 1000
  evw : (m.events.length : Int) ≤ m.ticks * 1048577 + 1048577
/-- k instructions are still to come in this step, at most. -/
structure Inv (k : Nat) (m : Mc) : Prop where
  good : GoodS m
  evs : m.ended = false → (m.events.length : Int) + k ≤ m.ticks * 1048577 + 1048576
theorem chain_stack {l : List S46} {main : Int} (hS : SoundP l main) : ∀ {r : List Fr} {ex : Int}, Chain l r ex → 0 ≤ ex → ∀ g ∈ r, g.stack.length ≤ 4096
  | [], _, _, _, g, hg => by cases hg
  | f :: r, ex, h, h0, g, hg => by
    rcases List.mem_cons.1 hg with rfl | hg
    · obtain ⟨a, b, c, p, hp, hr⟩ := h.1
      have := (rr_ok hS a b hr).2.2.1
      have := okH_iff.1 this
      omega
    · exact chain_stack hS h.2 (by unfold ansI; split <;> omega) g hg
/-- The running frame, and its instruction. -/
theorem good_top {m : Mc} (G : GoodS m) (he : m.ended = false) : ∃ r f p main, m.frames = r ++ [f] ∧ SoundP m.codes main ∧ GFr m.codes f 0 ∧ Chain m.codes r.reverse (ansI m.codes f.pr) ∧ f.at_ = (p : Nat) ∧ RR m.codes f.pr p (f.stack.length : Int) ∧ m.ins f = rdI (rdC m.codes f.pr).f0 p := by
  obtain ⟨main, hS⟩ := G.sound
  rcases List.eq_nil_or_concat m.frames with e | ⟨r, f, e⟩
  · exact absurd e (G.ne he)
  · have e : m.frames = r ++ [f] := by simpa using e
    have hc := G.chain he
    rw [e, List.reverse_append] at hc
    obtain ⟨h1, h2⟩ := hc
    obtain ⟨a, b, c, p, hp, hr⟩ := id h1
    refine ⟨r, f, p, main, e, hS, h1, h2, hp, by simpa using hr, ?_⟩
    unfold Mc.ins
    rw [hp]
/-- What an instruction asks for. -/
theorem may_facts {l : List S46} {ins : List S43} {cells : Int} {ans : Bool} {x : S43} (h : May l ins cells ans x.f0 x.f1 x.f2) :
    (1 ≤ x.f0 ∧ x.f0 ≤ 25) ∧ (x.f0 = 2 ∨ x.f0 = 3 → Within cells x.f1 1) ∧ (x.f0 = 4 ∨ x.f0 = 5 ∨ x.f0 = 6 → x.f2 ≤ 64 ∧ Within cells x.f1 x.f2) ∧ (x.f0 = 17 ∨ x.f0 = 18 → 0 ≤ x.f1 ∧ x.f1 < (ins.length : Int)) ∧
      (x.f0 = 19 → 0 ≤ x.f1 ∧ x.f1 < (l.length : Int) ∧ 0 ≤ x.f2 ∧ x.f2 ≤ 8 ∧ x.f2 = (rdC l x.f1).f2) ∧ (x.f0 = 20 → (x.f1 = 0 ∧ ans = false) ∨ (x.f1 = 1 ∧ ans = true)) ∧ (x.f0 = 24 → 0 ≤ x.f1 ∧ 1 ≤ x.f2 ∧ x.f2 ≤ 3) := by
  have hv := may_valid l ins cells ans h
  have h2 := h.2
  unfold MayRest at h2
  refine ⟨⟨hv.op0, hv.op1⟩, fun e => ?_, fun e => ?_, fun e => ?_, fun e => ?_, fun e => ?_, fun e => ?_⟩
  · rw [if_pos e] at h2; exact of_decide_eq_true h2
  · rw [if_neg (by omega), if_pos e] at h2; exact of_decide_eq_true h2
  · rw [if_neg (by omega), if_neg (by omega), if_pos e] at h2; exact of_decide_eq_true h2
  · rw [if_neg (by omega), if_neg (by omega), if_neg (by omega), if_pos e] at h2; exact of_decide_eq_true h2
  · rw [if_neg (by omega), if_neg (by omega), if_neg (by omega), if_neg (by omega), if_pos e] at h2; exact of_decide_eq_true h2
  · rw [if_neg (by omega), if_neg (by omega), if_neg (by omega), if_neg (by omega), if_neg (by omega), if_pos e] at h2; exact of_decide_eq_true h2
end Go.Proofs.YthckiolgpgplpaaDoor
end
section
namespace Go.Proofs.YthckiolgpgplpaaDoor
open Go.RowKit Go.Proofs.YthckiolgpgplpaaDoorW.PrintWords Go.Proofs.YthckiolgpgplpaaDoorW.PrintLast Go.Proofs.YthckiolgpgplpaaDoorW.PrintMore Go.Proofs.YthckiolgpgplpaaDoor.P Go.Proofs.YthckiolgpgplpaaDoor.Q
set_option linter.unusedVariables false
set_option linter.unusedSimpArgs false
theorem mv_else {l : List S46} {x : S43} (h1 : x.f0 ≠ 19) (h2 : x.f0 ≠ 20) : mv l x = (rd code_STACK (x.f0 * 2), rd code_STACK (x.f0 * 2 + 1)) := by
  unfold mv
  rw [if_neg h1, if_neg h2]
theorem takes_one {op : Int} (h : op = 3 ∨ op = 4 ∨ op = 15 ∨ op = 16 ∨ op = 18 ∨ op = 21 ∨ op = 23 ∨ op = 25) : rd code_STACK (op * 2) = 1 := by
  rcases h with rfl | rfl | rfl | rfl | rfl | rfl | rfl | rfl <;> decide
theorem takes_two {op : Int} (h : op = 5 ∨ (7 ≤ op ∧ op ≤ 14)) : rd code_STACK (op * 2) = 2 := by
  have : op = 5 ∨ op = 7 ∨ op = 8 ∨ op = 9 ∨ op = 10 ∨ op = 11 ∨ op = 12 ∨ op = 13 ∨ op = 14 := by omega
  rcases this with rfl | rfl | rfl | rfl | rfl | rfl | rfl | rfl | rfl <;> decide
theorem takes_none {op : Int} (h : op = 1 ∨ op = 2 ∨ op = 6 ∨ op = 17 ∨ op = 22 ∨ op = 24) : rd code_STACK (op * 2) = 0 := by
  rcases h with rfl | rfl | rfl | rfl | rfl | rfl <;> decide
theorem leaves_one {op : Int} (h : op = 1 ∨ op = 2 ∨ op = 4 ∨ (7 ≤ op ∧ op ≤ 14) ∨ op = 15 ∨ op = 16 ∨ op = 22) : rd code_STACK (op * 2 + 1) = 1 := by
  have : op = 1 ∨ op = 2 ∨ op = 4 ∨ op = 7 ∨ op = 8 ∨ op = 9 ∨ op = 10 ∨ op = 11 ∨ op = 12 ∨ op = 13 ∨ op = 14 ∨ op = 15 ∨ op = 16 ∨ op = 22 := by omega
  rcases this with rfl | rfl | rfl | rfl | rfl | rfl | rfl | rfl | rfl | rfl | rfl | rfl | rfl | rfl <;> decide
theorem leaves_none {op : Int} (h : op = 3 ∨ op = 5 ∨ op = 6 ∨ op = 17 ∨ op = 18 ∨ op = 21 ∨ op = 23 ∨ op = 24 ∨ op = 25) : rd code_STACK (op * 2 + 1) = 0 := by
  rcases h with rfl | rfl | rfl | rfl | rfl | rfl | rfl | rfl | rfl <;> decide
/-- What is known of the running frame's instruction. -/
theorem top_facts {m : Mc} (G : GoodS m) (he : m.ended = false) : ∃ (r : List Fr) (f : Fr) (p : Nat) (main : Int), m.frames = r ++ [f] ∧ SoundP m.codes main ∧ f.at_ = (p : Int) ∧ 0 ≤ f.pr ∧ f.pr < (m.codes.length : Int) ∧ (f.cells.length : Int) = (rdC m.codes f.pr).f1 ∧ Chain m.codes r.reverse (ansI m.codes f.pr) ∧ RR m.codes f.pr p (f.stack.length : Int) ∧ m.ins f = rdI (rdC m.codes f.pr).f0 p ∧
    p < (rdC m.codes f.pr).f0.length ∧ ¬ ((f.stack.length : Int) < (mv m.codes (m.ins f)).1 ∨ 4096 < (f.stack.length : Int) ∨ ((m.ins f).f0 = 20 ∧ (f.stack.length : Int) ≠ (mv m.codes (m.ins f)).1) ∨ ((m.ins f).f0 = 24 ∧ (f.stack.length : Int) ≠ 0)) ∧
    (∀ q : Nat, (q : Int) ∈ nxt (m.ins f) p → RR m.codes f.pr q ((f.stack.length : Int) - (mv m.codes (m.ins f)).1 + (mv m.codes (m.ins f)).2)) ∧ Sized (rdC m.codes f.pr) ∧ May m.codes (rdC m.codes f.pr).f0 (rdC m.codes f.pr).f1 (rdC m.codes f.pr).f3 (m.ins f).f0 (m.ins f).f1 (m.ins f).f2 := by
  obtain ⟨r, f, p, main, e, hS, hg, hc, hp, hr, hi⟩ := good_top G he
  obtain ⟨a, b, c, d⟩ := hg
  obtain ⟨h1, h2, h3, h4, h5⟩ := rr_ok hS a b hr
  rw [← hi] at h3 h4
  refine ⟨r, f, p, main, e, hS, hp, a, b, c, hc, hr, hi, h1, okH_iff.1 h3, h4, h5.1, ?_⟩
  rw [hi, rdI_at _ _ h1]
  exact h5.2 _ (List.getElem_mem h1)
theorem inv_fits {k : Nat} {m : Mc} (I : Inv k m) (he : m.ended = false) : ∃ r f, Fits m r f := by
  obtain ⟨r, f, p, main, e, hS, hp, a, b, c, hc, hr, hi, h1, h2, h3, h4, h5⟩ := top_facts I.good he
  obtain ⟨q1, q2, q3, q4, q5, q6, q7⟩ := may_facts h5
  generalize hx : m.ins f = x at h2 h3 h5 q1 q2 q3 q4 q5 q6 q7
  have hev := I.evs he
  have hfu := I.good.fuel
  obtain ⟨s1, s2, s3, s4, s5, s6, s7⟩ := h4
  have h2a : ¬ (f.stack.length : Int) < (mv m.codes x).1 := fun h => h2 (.inl h)
  have h2b : ¬ 4096 < (f.stack.length : Int) := fun h => h2 (.inr (.inl h))
  have h2c : x.f0 = 20 → (f.stack.length : Int) = (mv m.codes x).1 := fun h => Classical.byContradiction (fun h' => h2 (.inr (.inr (.inl ⟨h, h'⟩))))
  refine ⟨r, f, e, ⟨a, b⟩, ⟨by omega, by rw [hp]; exact Int.ofNat_lt.2 h1⟩, by rw [hp]; omega, ?_, ?_, ?_, ?_, ?_, by have := I.good.deep he; rw [e] at this; simpa using this, ⟨hfu.1, by omega⟩, ⟨hfu.2.1, by omega⟩, ?_, I.good.read, by have := I.good.inp; omega⟩
  · rw [hx]
    intro n19 n20 n21 n22 n24
    have hm := mv_else (l := m.codes) n19 n20
    rw [hm] at h2a
    simp only at h2a
    refine ⟨by omega, fun h => ?_, fun h => ?_, fun h => ?_, fun h => ?_, by show f.stack.length ≤ 4096; omega, by show f.cells.length ≤ 65536; omega⟩
    · obtain ⟨w1, w2, w3, w4⟩ := q2 h
      show 0 ≤ x.f1 ∧ x.f1 < (f.cells.length : Int)
      omega
    · obtain ⟨w0, w1, w2, w3, w4⟩ := q3 h
      show 0 ≤ x.f1 ∧ 1 ≤ x.f2 ∧ x.f1 + x.f2 ≤ (f.cells.length : Int)
      omega
    · rw [takes_one (by omega)] at h2a
      show 1 ≤ f.stack.length
      omega
    · rw [takes_two h] at h2a
      show 2 ≤ f.stack.length
      omega
  · rw [hx]
    intro h
    obtain ⟨w1, w2, w3, w4, w5⟩ := q5 h
    have hm : (mv m.codes x).1 = x.f2 := by unfold mv; rw [if_pos h]
    obtain ⟨hs, _⟩ := rr_zero hS w1 w2
    obtain ⟨t1, t2, t3, t4, t5, t6, t7⟩ := hs.1
    exact ⟨w1, w2, w3, by omega, by show x.f2 ≤ (rdC m.codes x.f1).f1; omega, t4⟩
  · rw [hx]
    intro h
    have hm : (mv m.codes x).1 = x.f1 := by unfold mv; rw [if_neg (by omega), if_pos h]
    have := h2c h
    rcases q6 h with ⟨w, _⟩ | ⟨w, _⟩
    · exact .inl w
    · exact .inr ⟨w, by omega⟩
  · rw [hx]
    intro h
    have hm := mv_else (l := m.codes) (x := x) (by omega) (by omega)
    rw [hm] at h2a
    simp only at h2a
    rw [takes_one (by omega)] at h2a
    omega
  · intro g hg
    rw [e, List.mem_append, List.mem_singleton] at hg
    rcases hg with hg | rfl
    · exact chain_stack hS hc (by unfold ansI; split <;> omega) g (List.mem_reverse.2 hg)
    · omega
  · have h4 : m.ticks * 1048577 ≤ 1048576 * 1048577 := Int.mul_le_mul_of_nonneg_right (by omega) (by omega)
    omega
end Go.Proofs.YthckiolgpgplpaaDoor
end
section
namespace Go.Proofs.YthckiolgpgplpaaDoor
open Go.RowKit Go.Proofs.YthckiolgpgplpaaDoorW.PrintWords Go.Proofs.YthckiolgpgplpaaDoorW.PrintLast Go.Proofs.YthckiolgpgplpaaDoorW.PrintMore Go.Proofs.YthckiolgpgplpaaDoor.P Go.Proofs.YthckiolgpgplpaaDoor.Q
set_option linter.unusedVariables false
set_option linter.unusedSimpArgs false
theorem clear_len (l : List Int) (n m : Nat) : (clearR l n m).length = l.length := clearR_length m l n
/-- What data leaves of a frame: its cells' number, where it goes on, how high its stack is. -/
theorem data_top {f : Fr} {x : S43} (F : FitsD f x) (p : Nat) (hp : f.at_ = (p : Int) + 1) (hj : x.f0 = 17 ∨ x.f0 = 18 → 0 ≤ x.f1) (h0 : (dataR f x).2 = 0) :
    (dataR f x).1.pr = f.pr ∧ (dataR f x).1.cells.length = f.cells.length ∧ (∃ q : Nat, (dataR f x).1.at_ = (q : Int) ∧ (q : Int) ∈ nxt x p) ∧ ((dataR f x).1.stack.length : Int) = (f.stack.length : Int) - rd code_STACK (x.f0 * 2) + rd code_STACK (x.f0 * 2 + 1) := by
  obtain ⟨op, n, m⟩ := x
  have hop := F.op
  have h1 := F.one
  have h2 := F.two
  simp only at hop h1 h2 hj
  have hn : ∀ o : Int, o ≠ 17 → o ≠ 18 → o ≠ 20 → nxt ⟨o, n, m⟩ p = [(p : Int) + 1] := fun o a b c => by unfold nxt; rw [if_neg a, if_neg b, if_neg c]
  have hin : ∀ o : Int, o ≠ 17 → o ≠ 18 → o ≠ 20 → ∃ q : Nat, f.at_ = (q : Int) ∧ (q : Int) ∈ nxt ⟨o, n, m⟩ p := fun o a b c => ⟨p + 1, by rw [hp]; rfl, by rw [hn o a b c]; simp⟩
  rcases hop with rfl | rfl | rfl | rfl | rfl | rfl | ⟨h7, h14⟩ | rfl | rfl | rfl | rfl | rfl | rfl
  · exact ⟨rfl, rfl, hin 1 (by decide) (by decide) (by decide), by rw [show rd code_STACK (1 * 2) = 0 by decide, show rd code_STACK (1 * 2 + 1) = 1 by decide]; simp [dataR]⟩
  · exact ⟨rfl, rfl, hin 2 (by decide) (by decide) (by decide), by rw [show rd code_STACK (2 * 2) = 0 by decide, show rd code_STACK (2 * 2 + 1) = 1 by decide]; simp [dataR]⟩
  · refine ⟨rfl, by simp [dataR], hin 3 (by decide) (by decide) (by decide), ?_⟩
    rw [show rd code_STACK (3 * 2) = 1 by decide, show rd code_STACK (3 * 2 + 1) = 0 by decide]
    have := h1 (by simp)
    simp [dataR]
    omega
  · have := h1 (by simp)
    by_cases hx : f.stack.getLastD 0 < 0 ∨ m ≤ f.stack.getLastD 0
    · simp only [dataR] at h0
      rw [if_neg (by decide), if_neg (by decide), if_neg (by decide), if_pos trivial, if_pos hx] at h0
      exact absurd (show (2 : Int) = 0 from h0) (by decide)
    · have e : dataR f ⟨4, n, m⟩ = ({ f with stack := f.stack.dropLast ++ [f.cells.getD (n + f.stack.getLastD 0).toNat 0] }, 0) := by
        simp only [dataR]
        rw [if_neg (by decide), if_neg (by decide), if_neg (by decide), if_pos trivial, if_neg hx]
      rw [e, show rd code_STACK (4 * 2) = 1 by decide, show rd code_STACK (4 * 2 + 1) = 1 by decide]
      refine ⟨rfl, rfl, hin 4 (by decide) (by decide) (by decide), ?_⟩
      simp
      omega
  · have := h2 (by simp)
    by_cases hx : f.stack.dropLast.getLastD 0 < 0 ∨ m ≤ f.stack.dropLast.getLastD 0
    · simp only [dataR] at h0
      rw [if_neg (by decide), if_neg (by decide), if_neg (by decide), if_neg (by decide), if_pos trivial, if_pos hx] at h0
      exact absurd (show (2 : Int) = 0 from h0) (by decide)
    · have e : dataR f ⟨5, n, m⟩ = ({ f with cells := f.cells.set (n + f.stack.dropLast.getLastD 0).toNat (f.stack.getLastD 0), stack := f.stack.dropLast.dropLast }, 0) := by
        simp only [dataR]
        rw [if_neg (by decide), if_neg (by decide), if_neg (by decide), if_neg (by decide), if_pos trivial, if_neg hx]
      rw [e, show rd code_STACK (5 * 2) = 2 by decide, show rd code_STACK (5 * 2 + 1) = 0 by decide]
      refine ⟨rfl, by simp, hin 5 (by decide) (by decide) (by decide), ?_⟩
      simp
      omega
  · exact ⟨rfl, by simp [dataR, clear_len], hin 6 (by decide) (by decide) (by decide), by rw [show rd code_STACK (6 * 2) = 0 by decide, show rd code_STACK (6 * 2 + 1) = 0 by decide]; simp [dataR]⟩
  · have h3 := h2 (.inr ⟨h7, h14⟩)
    have e : (dataR f ⟨op, n, m⟩).1 = { f with stack := f.stack.dropLast.dropLast ++ [(twoR op (f.stack.dropLast.getLastD 0) (f.stack.getLastD 0)).1] } := by
      simp only [dataR]
      rw [if_neg (by omega), if_neg (by omega), if_neg (by omega), if_neg (by omega), if_neg (by omega), if_neg (by omega), if_neg (by omega), if_neg (by omega), if_neg (by omega), if_neg (by omega), if_neg (by omega), if_neg (by omega)]
    rw [e, show rd code_STACK ((⟨op, n, m⟩ : S43).f0 * 2) = 2 from takes_two (.inr ⟨h7, h14⟩), show rd code_STACK ((⟨op, n, m⟩ : S43).f0 * 2 + 1) = 1 from leaves_one (op := op) (by omega)]
    refine ⟨rfl, rfl, hin op (by omega) (by omega) (by omega), ?_⟩
    simp
    omega
  · have := h1 (by simp)
    refine ⟨rfl, rfl, hin 15 (by decide) (by decide) (by decide), ?_⟩
    rw [show rd code_STACK (15 * 2) = 1 by decide, show rd code_STACK (15 * 2 + 1) = 1 by decide]
    simp [dataR]
    omega
  · have := h1 (by simp)
    refine ⟨rfl, rfl, hin 16 (by decide) (by decide) (by decide), ?_⟩
    rw [show rd code_STACK (16 * 2) = 1 by decide, show rd code_STACK (16 * 2 + 1) = 1 by decide]
    simp [dataR]
    omega
  · have := hj (by simp)
    refine ⟨rfl, rfl, ⟨n.toNat, by simp [dataR]; omega, ?_⟩, ?_⟩
    · unfold nxt; rw [if_pos rfl, List.mem_singleton]; show ((n.toNat : Nat) : Int) = n; omega
    · rw [show rd code_STACK (17 * 2) = 0 by decide, show rd code_STACK (17 * 2 + 1) = 0 by decide]
      simp [dataR]
  · have := h1 (by simp)
    have hj := hj (by simp)
    refine ⟨rfl, rfl, ?_, ?_⟩
    · by_cases hz : f.stack.getLastD 0 = 0
      · refine ⟨n.toNat, by simp only [dataR]; rw [if_neg (by decide), if_neg (by decide), if_neg (by decide), if_neg (by decide), if_neg (by decide), if_neg (by decide), if_neg (by decide), if_neg (by decide), if_neg (by decide), if_pos trivial, if_pos hz]; show n = ((n.toNat : Nat) : Int); omega, ?_⟩
        have : nxt ⟨18, n, m⟩ p = [(p : Int) + 1, n] := rfl
        rw [this]; simp; omega
      · refine ⟨p + 1, by simp only [dataR]; rw [if_neg (by decide), if_neg (by decide), if_neg (by decide), if_neg (by decide), if_neg (by decide), if_neg (by decide), if_neg (by decide), if_neg (by decide), if_neg (by decide), if_pos trivial, if_neg hz]; exact hp, ?_⟩
        have : nxt ⟨18, n, m⟩ p = [(p : Int) + 1, n] := rfl
        rw [this]; simp
    · rw [show rd code_STACK (18 * 2) = 1 by decide, show rd code_STACK (18 * 2 + 1) = 0 by decide]
      simp [dataR]
      omega
  · have := h1 (by simp)
    refine ⟨rfl, rfl, hin 23 (by decide) (by decide) (by decide), ?_⟩
    rw [show rd code_STACK (23 * 2) = 1 by decide, show rd code_STACK (23 * 2 + 1) = 0 by decide]
    simp [dataR]
    omega
  · have := h1 (by simp)
    refine ⟨rfl, rfl, hin 25 (by decide) (by decide) (by decide), ?_⟩
    rw [show rd code_STACK (25 * 2) = 1 by decide, show rd code_STACK (25 * 2 + 1) = 0 by decide]
    simp [dataR]
    omega
theorem does_basic (m : Mc) (r : List Fr) (f : Fr) (i : S43) (hr : m.read ≤ m.input.length) (hf : 0 ≤ m.fuel) :
    (m.does r f i).1.codes = m.codes ∧ (m.does r f i).1.input = m.input ∧ (m.does r f i).1.read ≤ m.input.length ∧ 0 ≤ (m.does r f i).1.fuel ∧ (m.does r f i).1.ticks = m.ticks + (if (m.does r f i).2 = true then 1 else 0) ∧
      (m.does r f i).1.fuel + (m.does r f i).1.ticks = m.fuel + m.ticks ∧ (m.does r f i).1.events.length ≤ m.events.length + (if (m.does r f i).2 = true then 0 else 1) := by
  unfold Mc.does
  repeat' split
  all_goals simp_all [Mc.endM, Mc.beginM]
  all_goals omega
/-- The running frame has gone on: still a chain. -/
theorem chain_go {l : List S46} {main : Int} (hS : SoundP l main) {r : List Fr} {f f' : Fr} {p : Nat} {x : S43} (hc : Chain l r.reverse (ansI l f.pr)) (h0 : 0 ≤ f.pr) (h1 : f.pr < (l.length : Int)) (hcl : (f.cells.length : Int) = (rdC l f.pr).f1)
    (hn : ∀ q : Nat, (q : Int) ∈ nxt x p → RR l f.pr q ((f.stack.length : Int) - (mv l x).1 + (mv l x).2)) (e1 : f'.pr = f.pr) (e2 : f'.cells.length = f.cells.length) (hq : ∃ q : Nat, f'.at_ = (q : Int) ∧ (q : Int) ∈ nxt x p)
    (e3 : (f'.stack.length : Int) = (f.stack.length : Int) - (mv l x).1 + (mv l x).2) : Chain l (r ++ [f']).reverse 0 := by
  obtain ⟨q, hq, hqn⟩ := hq
  rw [List.reverse_append]
  refine ⟨⟨by rw [e1]; exact h0, by rw [e1]; exact h1, by rw [e1, e2]; exact hcl, q, hq, ?_⟩, by rw [e1]; exact hc⟩
  rw [e1, e3, Int.add_zero]
  exact hn q hqn
theorem does_chain {m : Mc} {r : List Fr} {f : Fr} {p : Nat} {main : Int} {x : S43} (hS : SoundP m.codes main) (hp : f.at_ = (p : Int)) (h0 : 0 ≤ f.pr) (h1 : f.pr < (m.codes.length : Int)) (hcl : (f.cells.length : Int) = (rdC m.codes f.pr).f1)
    (hc : Chain m.codes r.reverse (ansI m.codes f.pr)) (hok : ¬ ((f.stack.length : Int) < (mv m.codes x).1 ∨ 4096 < (f.stack.length : Int) ∨ (x.f0 = 20 ∧ (f.stack.length : Int) ≠ (mv m.codes x).1) ∨ (x.f0 = 24 ∧ (f.stack.length : Int) ≠ 0)))
    (hn : ∀ q : Nat, (q : Int) ∈ nxt x p → RR m.codes f.pr q ((f.stack.length : Int) - (mv m.codes x).1 + (mv m.codes x).2)) (hsz : Sized (rdC m.codes f.pr)) (hm : May m.codes (rdC m.codes f.pr).f0 (rdC m.codes f.pr).f1 (rdC m.codes f.pr).f3 x.f0 x.f1 x.f2)
    (hd : x.f0 ≠ 19 → x.f0 ≠ 20 → x.f0 ≠ 21 → x.f0 ≠ 22 → x.f0 ≠ 24 → FitsD { f with at_ := f.at_ + 1 } x) (hl : r.length + 1 ≤ 50) (he : m.ended = false)
    (hne : (m.does r { f with at_ := f.at_ + 1 } x).1.ended = false) :
    Chain m.codes (m.does r { f with at_ := f.at_ + 1 } x).1.frames.reverse 0 ∧ (m.does r { f with at_ := f.at_ + 1 } x).1.frames ≠ [] ∧ (m.does r { f with at_ := f.at_ + 1 } x).1.frames.length ≤ 50 := by
  obtain ⟨q1, q2, q3, q4, q5, q6, q7⟩ := may_facts hm
  have hx1 : x.f0 ≠ 17 → x.f0 ≠ 18 → x.f0 ≠ 20 → ∃ q : Nat, f.at_ + 1 = (q : Int) ∧ (q : Int) ∈ nxt x p := fun a b c => ⟨p + 1, by rw [hp]; rfl, by unfold nxt; rw [if_neg a, if_neg b, if_neg c]; simp⟩
  have hst1 : (f.stack.length : Int) < (mv m.codes x).1 → False := fun h => hok (.inl h)
  unfold Mc.does at hne ⊢
  by_cases h19 : x.f0 = 19
  · rw [if_pos h19] at hne ⊢
    by_cases h50 : r.length + 1 = 50
    · rw [if_pos h50] at hne; exact absurd (show true = false from hne) (by decide)
    · rw [if_neg h50]
      obtain ⟨w1, w2, w3, w4, w5⟩ := q5 h19
      have hmv : mv m.codes x = (x.f2, if (rdC m.codes x.f1).f3 = true then 1 else 0) := by unfold mv; rw [if_pos h19]
      rw [hmv] at hst1 hn
      obtain ⟨hs2, _⟩ := rr_zero hS w1 w2
      obtain ⟨t1, t2, t3, t4, t5, t6, t7⟩ := hs2.1
      obtain ⟨q, hq, hqn⟩ := hx1 (by omega) (by omega) (by omega)
      have hst1 : ¬ (f.stack.length : Int) < x.f2 := fun h => hst1 h
      refine ⟨?_, by simp [Mc.beginM], by simp [Mc.beginM]; omega⟩
      show Chain m.codes ((r ++ [_]) ++ [_]).reverse 0
      rw [List.reverse_append, List.reverse_append]
      refine ⟨⟨w1, w2, ?_, 0, rfl, ?_⟩, ⟨⟨h0, h1, hcl, q, hq, ?_⟩, hc⟩⟩
      · show (((f.stack.drop (f.stack.length - x.f2.toNat)) ++ List.replicate ((rdC m.codes x.f1).f1.toNat - (f.stack.drop (f.stack.length - x.f2.toNat)).length) 0).length : Int) = (rdC m.codes x.f1).f1
        simp only [List.length_append, List.length_drop, List.length_replicate]
        omega
      · exact rr_zero hS w1 w2
      · have := hn q hqn
        have e : ((f.stack.take (f.stack.length - x.f2.toNat)).length : Int) + ansI m.codes x.f1 = (f.stack.length : Int) - x.f2 + (if (rdC m.codes x.f1).f3 = true then 1 else 0) := by
          rw [List.length_take]; unfold ansI; omega
        show RR m.codes f.pr q (((f.stack.take (f.stack.length - x.f2.toNat)).length : Int) + ansI m.codes x.f1)
        rw [e]; exact this
  rw [if_neg h19] at hne ⊢
  by_cases h20 : x.f0 = 20
  · rw [if_pos h20] at hne ⊢
    by_cases hr : r = []
    · rw [if_pos hr] at hne; exact absurd (show true = false from hne) (by decide)
    · rw [if_neg hr]
      obtain ⟨r1, g, rfl⟩ : ∃ r1 g, r = r1 ++ [g] := by
        rcases List.eq_nil_or_concat r with e | ⟨s, y, e⟩
        · exact absurd e hr
        · exact ⟨s, y, by simpa using e⟩
      rw [List.reverse_append] at hc
      obtain ⟨⟨c1, c2, c3, q, c4, c5⟩, c6⟩ := hc
      rcases q6 h20 with ⟨w, wa⟩ | ⟨w, wa⟩
      · rw [if_neg (by omega)]
        refine ⟨?_, hr, by show (r1 ++ [g]).length ≤ 50; omega⟩
        show Chain m.codes (r1 ++ [g]).reverse 0
        rw [List.reverse_append]
        have hz : ansI m.codes f.pr = 0 := by unfold ansI; rw [wa]; rfl
        rw [hz] at c5
        exact ⟨⟨c1, c2, c3, q, c4, c5⟩, c6⟩
      · rw [if_pos w]
        have hz : ansI m.codes f.pr = 1 := by unfold ansI; rw [wa]; rfl
        rw [hz] at c5
        have ep : pushTop (r1 ++ [g]) (f.stack.getLastD 0) = r1 ++ [{ g with stack := g.stack ++ [f.stack.getLastD 0] }] := by simp [pushTop]
        show Chain m.codes (pushTop (r1 ++ [g]) (f.stack.getLastD 0)).reverse 0 ∧ pushTop (r1 ++ [g]) (f.stack.getLastD 0) ≠ [] ∧ (pushTop (r1 ++ [g]) (f.stack.getLastD 0)).length ≤ 50
        rw [ep]
        refine ⟨?_, by simp, by simp at hl ⊢; omega⟩
        rw [List.reverse_append]
        refine ⟨⟨c1, c2, c3, q, c4, ?_⟩, c6⟩
        have e : ((g.stack ++ [f.stack.getLastD 0]).length : Int) + 0 = (g.stack.length : Int) + 1 := by simp
        show RR m.codes g.pr q (((g.stack ++ [f.stack.getLastD 0]).length : Int) + 0)
        rw [e]; exact c5
  rw [if_neg h20] at hne ⊢
  have hmv := mv_else (l := m.codes) h19 h20
  rw [hmv] at hst1
  simp only at hst1
  have fin : ∀ f' : Fr, f'.pr = f.pr → f'.cells.length = f.cells.length → (∃ q : Nat, f'.at_ = (q : Int) ∧ (q : Int) ∈ nxt x p) → (f'.stack.length : Int) = (f.stack.length : Int) - rd code_STACK (x.f0 * 2) + rd code_STACK (x.f0 * 2 + 1) →
      Chain m.codes (r ++ [f']).reverse 0 ∧ r ++ [f'] ≠ [] ∧ (r ++ [f']).length ≤ 50 := fun f' e1 e2 e3 e4 =>
    ⟨chain_go hS hc h0 h1 hcl hn e1 e2 e3 (by rw [hmv]; exact e4), by simp, by simpa using hl⟩
  by_cases h21 : x.f0 = 21
  · rw [if_pos h21] at hne ⊢
    have ht := takes_one (op := x.f0) (by omega)
    rw [ht] at hst1
    have hst1 : ¬ (f.stack.length : Int) < 1 := fun h => hst1 h
    exact fin _ rfl rfl (hx1 (by omega) (by omega) h20) (by rw [ht, leaves_none (by omega)]; simp; omega)
  rw [if_neg h21] at hne ⊢
  by_cases h22 : x.f0 = 22
  · rw [if_pos h22] at hne ⊢
    by_cases hr : m.read = m.input.length
    · rw [if_pos hr] at hne; exact absurd (show true = false from hne) (by decide)
    · rw [if_neg hr]
      exact fin _ rfl rfl (hx1 (by omega) (by omega) h20) (by rw [takes_none (by omega), leaves_one (by omega)]; simp)
  rw [if_neg h22] at hne ⊢
  by_cases h24 : x.f0 = 24
  · rw [if_pos h24] at hne ⊢
    by_cases hr : m.fuel = 0
    · rw [if_pos hr] at hne; exact absurd (show true = false from hne) (by decide)
    · rw [if_neg hr]
      exact fin _ rfl rfl (hx1 (by omega) (by omega) h20) (by rw [takes_none (by omega), leaves_none (by omega)]; simp)
  rw [if_neg h24] at hne ⊢
  by_cases ht : (dataR { f with at_ := f.at_ + 1 } x).2 = 0
  · rw [if_pos ht]
    obtain ⟨d1, d2, d3, d4⟩ := data_top (hd h19 h20 h21 h22 h24) p (by show f.at_ + 1 = _; rw [hp]) (fun h => (q4 h).1) ht
    exact fin _ d1 d2 d3 d4
  · rw [if_neg ht] at hne; exact absurd (show true = false from hne) (by decide)
/-- What comes of an instruction. -/
theorem one_next {k : Nat} {m : Mc} (I : Inv (k + 1) m) (he : m.ended = false) :
    GoodS m.one.1 ∧ (m.one.2 = false → Inv k m.one.1) ∧ (m.one.2 = true → m.one.1.ended = false → (m.one.1.events.length : Int) ≤ m.one.1.ticks * 1048577) ∧ m.one.1.codes = m.codes ∧ m.one.1.input = m.input := by
  obtain ⟨r, f, p, main, e, hS, hp, a, b, c, hc, hr, hi, h1, h2, h3, h4, h5⟩ := top_facts I.good he
  obtain ⟨r', f', F⟩ := inv_fits I he
  have e' : r' = r ∧ f' = f := by
    have := F.fr.symm.trans e
    have := List.append_inj' this rfl
    exact ⟨this.1, by simpa using this.2⟩
  obtain ⟨rfl, rfl⟩ := e'
  have hev := I.evs he
  have hfu := I.good.fuel
  rw [one_is e]
  obtain ⟨b1, b2, b3, b4, b5, b6, b7⟩ := does_basic m r' { f' with at_ := f'.at_ + 1 } (m.ins f') I.good.read hfu.1
  have hch := does_chain (x := m.ins f') hS hp a b c hc h2 h3 h4 h5 F.data F.deep he
  generalize hd : m.does r' { f' with at_ := f'.at_ + 1 } (m.ins f') = d at *
  obtain ⟨m', t⟩ := d
  simp only at *
  have G : GoodS m' := by
    refine ⟨⟨main, by rw [b1]; exact hS⟩, fun h => by rw [b1]; exact (hch h).1, fun h => (hch h).2.1, fun h => (hch h).2.2, ?_, by rw [b2]; exact b3, by rw [b2]; exact I.good.inp, ?_⟩
    · cases t <;> simp at b5 <;> omega
    · cases t <;> simp at b5 b7 <;> omega
  refine ⟨G, fun ht => ⟨G, fun _ => ?_⟩, fun ht _ => ?_, b1, b2⟩
  · subst ht; simp at b5 b7; omega
  · subst ht; simp at b5 b7; omega
theorem road : Road (fun k m => Inv k m) := ⟨fun k m I he => inv_fits I he, fun k m I he ht _ => (one_next I he).2.1 ht⟩
end Go.Proofs.YthckiolgpgplpaaDoor
end
section
namespace Go.Proofs.YthckiolgpgplpaaDoor
open Go.RowKit Go.Proofs.YthckiolgpgplpaaDoorW.PrintWords Go.Proofs.YthckiolgpgplpaaDoorW.PrintLast Go.Proofs.YthckiolgpgplpaaDoorW.PrintMore Go.Proofs.YthckiolgpgplpaaDoor.P
set_option linter.unusedVariables false
set_option linter.unusedSimpArgs false
set_option maxRecDepth 1000000
set_option maxHeartbeats 1000000
theorem info43 : (Tryd.prog.info? 43).map (fun i => (i.zero, i.size, i.bytes)) = some (some (.agg #[.int .i64 0, .int .i64 0, .int .i64 0]), 3, 24) := by kernel_rfl
theorem info46 : (Tryd.prog.info? 46).map (fun i => (i.zero, i.size, i.bytes)) = some (some (.agg #[.slice none 0 0, .int .i64 0, .int .i64 0, .bool false]), 4, 48) := by kernel_rfl
/-- A machine that has just been made. -/
def mc0 (l : List S46) (input : List Int) (fuel : Int) : Mc := ⟨l, [], input, 0, fuel, 0, (0, 0, 0, 0), [], false⟩
section
variable (w : World) (A0 A2 : Option Addr) (c0 c2 : Nat) (l : List S46) (input : List Int) (main fuel : Int)
/-- Codes that are not sound. -/
theorem new_unsound (hl : Kd.C k46 w A0 l.length l) (hc : l.length ≤ c0) (hLd : Laid w) (k : Nat) (h : code_Sound.f k l main = some false) (v : Value) :
    Calls Tryd.prog 12 #[.slice A0 l.length c0, .int .i64 main, v, .int .i64 fuel] w fun e w' => e = .returned (.tuple #[.pointer none, .int .i64 60]) ∧ Below w.heap.size w w' := by
  have HL := Aside0.mk hl; have HLd := Aside0.mk hLd; have H := Aside0.mk h; have HC := Aside0.mk hc
  clear hl hLd h hc
  go_enter Tryd.func12, Tryd.ntmps12
  go_wp2_with ((with_reducible refine gate_callee (f := 32) rfl ?_); refine goesL_ (some 15) rfl rfl Tryd.func32 (by kernel_rfl) rfl #[.slice A0 l.length c0, .int .i64 main] rfl (by (try simp only [List.map_toArray, List.map_cons, List.map_nil]); first | done | rfl) ?_; refine (code_Sound.calls k A0 c0 l main false w HL.out HC.out HLd.out H.out).mono ?_; rintro e w1 ⟨rfl, hb⟩; have HB := Aside0.mk hb; clear hb; refine ⟨_, rfl, ?_⟩)
  go_ret2
  exact ⟨rfl, HB.out⟩
theorem new_args (hl : Kd.C k46 w A0 l.length l) (hc : l.length ≤ c0) (hLd : Laid w) (k : Nat) (h : code_Sound.f k l main = some true) (n2 : Nat) (hbad : fuel < 0 ∨ 1048576 < fuel ∨ 1000 < n2) :
    Calls Tryd.prog 12 #[.slice A0 l.length c0, .int .i64 main, .slice A2 n2 c2, .int .i64 fuel] w fun e w' => e = .returned (.tuple #[.pointer none, .int .i64 1]) ∧ Below w.heap.size w w' := by
  have HL := Aside0.mk hl; have HLd := Aside0.mk hLd; have H := Aside0.mk h; have HC := Aside0.mk hc
  clear hl hLd h hc
  by_cases d1 : fuel < 0
  · have e1 : decide (fuel < 0) = true := decide_eq_true d1
    clear hbad d1
    go_enter Tryd.func12, Tryd.ntmps12
    go_wp2_with ((with_reducible refine gate_callee (f := 32) rfl ?_); refine goesL_ (some 15) rfl rfl Tryd.func32 (by kernel_rfl) rfl #[.slice A0 l.length c0, .int .i64 main] rfl (by (try simp only [List.map_toArray, List.map_cons, List.map_nil]); first | done | rfl) ?_; refine (code_Sound.calls k A0 c0 l main true w HL.out HC.out HLd.out H.out).mono ?_; rintro e w1 ⟨rfl, hb⟩; have HB := Aside0.mk hb; clear hb; refine ⟨_, rfl, ?_⟩)
    go_ret2
    exact ⟨rfl, HB.out⟩
  have e1 : decide (fuel < 0) = false := decide_eq_false d1
  by_cases d2 : 1048576 < fuel
  · have e2 : decide (1048576 < fuel) = true := decide_eq_true d2
    clear hbad d1 d2
    go_enter Tryd.func12, Tryd.ntmps12
    go_wp2_with ((with_reducible refine gate_callee (f := 32) rfl ?_); refine goesL_ (some 15) rfl rfl Tryd.func32 (by kernel_rfl) rfl #[.slice A0 l.length c0, .int .i64 main] rfl (by (try simp only [List.map_toArray, List.map_cons, List.map_nil]); first | done | rfl) ?_; refine (code_Sound.calls k A0 c0 l main true w HL.out HC.out HLd.out H.out).mono ?_; rintro e w1 ⟨rfl, hb⟩; have HB := Aside0.mk hb; clear hb; refine ⟨_, rfl, ?_⟩)
    go_ret2
    exact ⟨rfl, HB.out⟩
  have e2 : decide (1048576 < fuel) = false := decide_eq_false d2
  have e3 : decide (1000 < (n2 : Int)) = true := decide_eq_true (by omega)
  clear hbad d1 d2
  go_enter Tryd.func12, Tryd.ntmps12
  go_wp2_with ((with_reducible refine gate_callee (f := 32) rfl ?_); refine goesL_ (some 15) rfl rfl Tryd.func32 (by kernel_rfl) rfl #[.slice A0 l.length c0, .int .i64 main] rfl (by (try simp only [List.map_toArray, List.map_cons, List.map_nil]); first | done | rfl) ?_; refine (code_Sound.calls k A0 c0 l main true w HL.out HC.out HLd.out H.out).mono ?_; rintro e w1 ⟨rfl, hb⟩; have HB := Aside0.mk hb; clear hb; refine ⟨_, rfl, ?_⟩)
  go_ret2
  exact ⟨rfl, HB.out⟩
theorem new_ok (hl : Kd.C k46 w A0 l.length l) (hc : l.length ≤ c0) (hLd : Laid w) (k : Nat) (h : code_Sound.f k l main = some true) (hin : Kd.C (Kd.int .i64) w A2 input.length input) (hc2 : input.length ≤ c2) (hf0 : 0 ≤ fuel) (hf1 : fuel ≤ 1048576) (hi1 : input.length ≤ 1000)
    (hlen : l.length ≤ 40) (hins : ∀ x ∈ l, x.f0.length ≤ 65536) (m0 : 0 ≤ main) (m1 : main < l.length) (hcells : 0 ≤ (rd_T46 l main).f1 ∧ (rd_T46 l main).f1 ≤ 65536) :
    Calls Tryd.prog 12 #[.slice A0 l.length c0, .int .i64 main, .slice A2 input.length c2, .int .i64 fuel] w fun e w' => ∃ Rd o, e = .returned (.tuple #[o.ptr, .int .i64 0]) ∧ MOn Rd w' o ((mc0 l input fuel).beginM main []) ∧ (∀ k, Rd k ∨ k ∈ o.own → w.heap.size ≤ k) ∧ Below w.heap.size w w' := by
  have e1 : decide (fuel < 0) = false := decide_eq_false (by omega)
  have e2 : decide (1048576 < fuel) = false := decide_eq_false (by omega)
  have e3 : decide (1000 < (input.length : Int)) = false := decide_eq_false (by omega)
  have HL := Aside0.mk hl; have HLd := Aside0.mk hLd; have H := Aside0.mk h; have HC := Aside0.mk hc; have HIN := Aside0.mk hin; have HINS := Aside0.mk hins; have HCE := Aside0.mk hcells
  clear hl hLd h hc hin hins hcells
  go_enter Tryd.func12, Tryd.ntmps12
  go_wp2_with (first
    | ((with_reducible refine gate_callee (f := 32) rfl ?_); refine goesL_ (some 15) rfl rfl Tryd.func32 (by kernel_rfl) rfl #[.slice A0 l.length c0, .int .i64 main] rfl (by (try simp only [List.map_toArray, List.map_cons, List.map_nil]); first | done | rfl) ?_; refine (code_Sound.calls k A0 c0 l main true w HL.out HC.out HLd.out H.out).mono ?_; rintro e w1 ⟨rfl, hb⟩; have HB := Aside0.mk hb; clear hb; refine ⟨_, rfl, ?_⟩)
    | ((with_reducible refine gate_builtin (b := .append) (xs := #[.const (.slice none 0 0), .tmp 28]) rfl ?_); at_builtin; refine Kd.R_append_rows (Kd.int .i64) (w0 := w) w.heap.size rfl (.const (.slice none 0 0)) (.tmp 28) 23 2 (.int .i64 0) 8 rfl Tryd.underlying23 info2 rfl (by decide) (by decide) (.slice none 0 0) ([] : List Int) input _ _ _ (fun _ => True) (fun _ => False) rfl rfl (Kd.R_nil _ _ _ _ (fun _ => True)) (Kd.C_below HIN.out HB.out) (fun _ _ h => h) (fun _ h => h.elim) (fun _ _ => trivial) HB.out (below_size HB.out) (by simp; omega) ?_; intro iv w2 ho hb hg hat; have ho : Kd.R (Kd.int .i64) 2 w2 w.heap.size (fun _ => True) iv input := ho; obtain ⟨iA, iC, rfl⟩ := Kd.R_slice ho; have HI := Aside0.mk ho; have HB2 := Aside0.mk hb; clear ho hb hg hat))
  have hwb := HB2.out.size
  obtain ⟨gm, hgm⟩ : ∃ gm, gm = w2.heap.size := ⟨_, rfl⟩
  rw [← hgm]
  have HGM := Aside0.mk hgm; clear hgm
  have HIV : Aside0 (∀ k, (Value.slice iA input.length iC).ownBlock = some k → w.heap.size ≤ k ∧ k < gm) := ⟨fun k e => ⟨Kd.R_base HI.out k e, by rw [HGM.out]; exact Kd.R_lt HI.out k e⟩⟩
  go_loopg [35] l.length (fun gk v35 W => ∃ (x : Nat) (cv : Value), v35 = .int .i64 (x : Int) ∧ Aside0 (gk + x = l.length) ∧ Aside0 (Kd.R k46 46 W w.heap.size (fun k => k ≠ gm ∧ some k ≠ (Value.slice iA input.length iC).ownBlock) cv (l.take x)) ∧ Aside0 (W.heap[gm]? = some (.cells #[cv, .slice none 0 0, .slice iA input.length iC, .int .i64 0, .int .i64 fuel, .int .i64 0, .int .i64 0, .int .i64 0, .int .i64 0, .int .i64 0, .slice none 0 0, .bool false] 67 (0, 0))) ∧ Aside0 (W.ownsRow w.heap.size 2 1 (.slice iA input.length iC) input.length (ints input)) ∧ Aside0 (Below w.heap.size w W))
  case atStart =>
    exact ⟨0, .slice none 0 0, rfl, ⟨rfl⟩, ⟨Kd.R_nil _ _ _ _ _⟩, ⟨by rw [HGM.out]; exact blk_new w2 _⟩, ⟨(Kd.own_of_R HI.out).alloc _⟩, ⟨below_alloc HB2.out _⟩⟩
  case round =>
    obtain ⟨x, cv, rfl, A1, A2, A3, A4, A5⟩ := hrel
    obtain ⟨cA, cn, cC, rfl⟩ : ∃ A n c, cv = .slice A n c := by obtain ⟨A, c, e⟩ := Kd.R_slice A2.out; exact ⟨_, _, _, e⟩
    obtain ⟨T, hT⟩ : ∃ T, T = l.take x := ⟨_, rfl⟩
    rw [← hT] at A2
    have HT := Aside0.mk hT; clear hT
    by_cases hx : x < l.length
    · obtain ⟨gk, rfl⟩ : ∃ j, gk = j + 1 := ⟨gk - 1, by have := A1.out; omega⟩
      have hxb : (x : Int) ≤ 40 := by omega
      obtain ⟨ad, B0, d0, rfl, hx0, hx1, hx2, hx3, hl0, hi0⟩ := at_T46 (Kd.C_below HL.out A5.out) (x : Int) (by omega) (by omega)
      simp only [Int.toNat_natCast] at hx0 hx1 hx2 hx3
      obtain ⟨y, hy⟩ : ∃ y, y = rd_T46 l (x : Int) := ⟨_, rfl⟩
      rw [← hy] at hx0 hx1 hx2 hx3 hl0 hi0
      have HY := Aside0.mk hy; have HI0 := Aside0.mk hi0; have HL0 := Aside0.mk hl0; clear hy hi0 hl0
      have p1 := eq_true (show (0 : Int) ≤ (x : Int) by omega); have p2 := eq_true (show (x : Int) < (l.length : Int) by omega)
      obtain ⟨gb, hgb⟩ : ∃ gb, gb = wr.heap.size := ⟨_, rfl⟩
      have hgl : gm < gb := by rw [hgb]; exact blk_lt A3.out
      have HGB := Aside0.mk hgb; clear hgb
      go_wp2_with ((with_reducible refine gate_builtin (b := .append) (xs := #[.const (.slice none 0 0), .tmp 40]) rfl ?_); at_builtin; refine Kd.R_append_rows k43 (w0 := w) w.heap.size rfl (.const (.slice none 0 0)) (.tmp 40) 44 43 (.agg #[.int .i64 0, .int .i64 0, .int .i64 0]) 24 rfl Tryd.underlying44 info43 rfl (by decide) (by decide) (.slice none 0 0) ([] : List S43) y.f0 _ _ _ (fun k => gb ≤ k) (fun _ => False) rfl rfl (Kd.R_nil _ _ _ _ _) (Kd.C_alloc HI0.out _) (fun x cs h => by obtain rfl := k43_open h; exact k43_mkM _ _ _ _) (fun _ h => h.elim) (fun k hk => by have := HGB.out; simp at hk; omega) (below_alloc A5.out _) (below_size (below_alloc A5.out _)) (by have := HINS.out y (by rw [HY.out]; have hxl := of_eq_true p2; rw [show rd_T46 l (x : Int) = l[x]'(by omega) by simp [rd_T46, List.getD, show x < l.length by omega]]; exact List.getElem_mem _); simp; omega) ?_; intro nv w3 ho hb hg hat; have ho : Kd.R k43 43 w3 w.heap.size (fun k => gb ≤ k) nv y.f0 := ho; obtain ⟨nA, nC, rfl⟩ := Kd.R_slice ho; have B3 : w3.heap[gb]? = some (.cells #[.slice B0 y.f0.length d0, .int .i64 y.f1, .int .i64 y.f2, .bool y.f3] 46 (0, 0)) := by { rw [HGB.out]; exact blk_grown (blk_new wr _) hg (by simp [Value.ownBlock]) }; have G3 := blk_grown (blk_alloc A3.out (.cells #[.slice B0 y.f0.length d0, .int .i64 y.f1, .int .i64 y.f2, .bool y.f3] 46)) hg (by simp [Value.ownBlock]); have b0 : w3.cell? ⟨gb, 0, none⟩ = some (.slice B0 y.f0.length d0) := blk_cell B3 0; have b0f : w3.frozen? ⟨gb, 0, none⟩ = false := blk_frozen B3 0; rw [HGB.out] at b0 b0f; have HB3 := Aside0.mk B3; have HG3 := Aside0.mk G3; have HN := Aside0.mk ho; have HBE := Aside0.mk hb; have HGR := Aside0.mk hg; clear ho hb hg hat B3 G3)
      rw [← HGB.out]
      obtain ⟨w4, hw4⟩ : ∃ w4, w4 = w3.setCell ⟨gb, 0, none⟩ (.slice nA y.f0.length nC) := ⟨_, rfl⟩
      rw [← hw4]
      have ne1 : gm ≠ gb := Nat.ne_of_lt hgl
      have B4 : w4.heap[gb]? = some (.cells #[.slice nA y.f0.length nC, .int .i64 y.f1, .int .i64 y.f2, .bool y.f3] 46 (0, 0)) := by rw [hw4]; exact blk_set HB3.out 0 _
      have G4 : w4.heap[gm]? = some (.cells #[.slice cA cn cC, .slice none 0 0, .slice iA input.length iC, .int .i64 0, .int .i64 fuel, .int .i64 0, .int .i64 0, .int .i64 0, .int .i64 0, .int .i64 0, .slice none 0 0, .bool false] 67 (0, 0)) := by rw [hw4]; exact blk_far HG3.out ne1 _
      have HGB4 : Aside0 (Below w.heap.size w w4) := ⟨by rw [hw4]; exact below_set HBE.out (by have := HGB.out; have := A5.out.size; omega)⟩
      have HBW := below_alloc (Below.refl wr.heap.size wr) (.cells #[.slice B0 y.f0.length d0, .int .i64 y.f1, .int .i64 y.f2, .bool y.f3] 46)
      have hne0 : ∀ k, gb ≤ k → k ≠ gm := fun k h => by omega
      have CV4 : Aside0 (Kd.R k46 46 w4 w.heap.size (fun k => k ≠ gm ∧ some k ≠ (Value.slice iA input.length iC).ownBlock) (.slice cA cn cC) T) := ⟨by
        rw [hw4]
        refine Kd.R_mono (Kd.R_far (p := ⟨gb, 0, none⟩) (Kd.R_grown (Kd.R_below (Kd.R_bound A2.out) HBW) HGR.out (fun k _ => by simp [Value.ownBlock])) (fun k hk => ?_) _) (fun k hk => hk.1)
        have := hk.2.2.1; have := HGB.out; show k ≠ gb; omega⟩
      have HOLD : ∀ k, k < gb → w4.heap[k]? = wr.heap[k]? := fun k hk => by
        have h1 : k < wr.heap.size := by have := HGB.out; omega
        rw [hw4, Below.heap_setCell _ _ _ _ (show k ≠ gb by omega), HGR.out.block k (by show k < (wr.heap.push _).size; rw [Array.size_push]; omega) (by simp [Value.ownBlock])]
        exact Below.heap_alloc _ _ _ h1
      have IN4 : Aside0 (w4.ownsRow w.heap.size 2 1 (.slice iA input.length iC) input.length (ints input)) := ⟨own_move A4.out (fun k e => HOLD k (by have := (HIV.out k e).2; omega))⟩
      have NW4 : Aside0 (Kd.R k43 43 w4 w.heap.size (fun k => gb ≤ k) (.slice nA y.f0.length nC) y.f0) := ⟨by
        rw [hw4]
        exact Kd.R_set HN.out HB3.out (by simp [k43, Kd.iso, Kd.pair, Kd.int, Kd.scalar]) 0 _⟩
      have z0 : w4.drew.cell? ⟨gm, 0, none⟩ = some (.slice cA cn cC) := blk_cell G4 0
      have z1 : w4.drew.cell? ⟨gb, 0, none⟩ = some (.slice nA y.f0.length nC) := blk_cell B4 0
      have z2 : w4.drew.cell? ⟨gb, 1, none⟩ = some (.int .i64 y.f1) := blk_cell B4 1
      have z3 : w4.drew.cell? ⟨gb, 2, none⟩ = some (.int .i64 y.f2) := blk_cell B4 2
      have z4 : w4.drew.cell? ⟨gb, 3, none⟩ = some (.bool y.f3) := blk_cell B4 3
      have u0 : w4.cell? ⟨gm, 0, none⟩ = some (.slice cA cn cC) := z0
      have u1 : w4.cell? ⟨gb, 0, none⟩ = some (.slice nA y.f0.length nC) := z1
      have u2 : w4.cell? ⟨gb, 1, none⟩ = some (.int .i64 y.f1) := z2
      have u3 : w4.cell? ⟨gb, 2, none⟩ = some (.int .i64 y.f2) := z3
      have u4 : w4.cell? ⟨gb, 3, none⟩ = some (.bool y.f3) := z4
      have u5 : (w4.alloc (.cells #[.slice nA y.f0.length nC, .int .i64 y.f1, .int .i64 y.f2, .bool y.f3] 46)).cell? ⟨gm, 0, none⟩ = some (.slice cA cn cC) := Lib.cell?_alloc_some _ u0
      have HG4 := Aside0.mk G4; have HB4 := Aside0.mk B4; have HX := Aside0.mk hx; have HW4 := Aside0.mk hw4
      have HOK : Aside0 (∀ k, gb ≤ k → (k ≠ gm ∧ some k ≠ (Value.slice iA input.length iC).ownBlock) ∧ some k ≠ (Value.slice cA cn cC).ownBlock) := ⟨fun k hk => ⟨⟨hne0 k hk, fun e => by have := (HIV.out k e.symm).2; omega⟩, fun e => by have := Kd.R_lt A2.out k e.symm; have := HGB.out; omega⟩⟩
      have HSZ : Aside0 (gb ≤ w4.heap.size) := ⟨Nat.le_of_lt (blk_lt B4)⟩
      have HTL : Aside0 ((T.length + 1) * 48 ≤ 140737488355328) := ⟨by have h1 : T.length ≤ l.length := by { rw [HT.out, List.length_take]; omega }; omega⟩
      clear B4 G4 HBW hne0 hw4 hx
      go_region_law (refine Kd.R_append_step k46 (w0 := w) w.heap.size (by rfl) (.tmp 47) (.tmp 49) 22 46 (.agg #[.slice none 0 0, .int .i64 0, .int .i64 0, .bool false]) 48 rfl Tryd.underlying22 info46 rfl (by decide) (by decide) (.slice cA cn cC) T y [.slice nA y.f0.length nC, .int .i64 y.f1, .int .i64 y.f2, .bool y.f3] (fun k => k ≠ gm ∧ some k ≠ (Value.slice iA input.length iC).ownBlock) (fun k => gb ≤ k) rfl rfl (k46_mkM _ _ _ _ (Kd.R_drew NW4.out)) HOK.out (fun k hk => (HOK.out k (Nat.le_trans HSZ.out hk)).1) (Kd.R_drew CV4.out) (below_drew1 HGB4.out) (below_size (below_drew1 HGB4.out)) (HTL.out) ?_; intro v1 w5 ho hb hg hat; have HB5 := Aside0.mk hb; have G5 := blk_grown (blk_drew HG4.out) hg (Kd.R_ne CV4.out HG4.out (by decide)); obtain ⟨vA, vn, vC, rfl⟩ : ∃ A n c, v1 = .slice A n c := (by obtain ⟨A, c, e⟩ := Kd.R_slice ho; exact ⟨_, _, _, e⟩); have t0 := blk_cell G5 0; have t0f := blk_frozen G5 0; have HG5 := Aside0.mk G5; have HGR5 := Aside0.mk hg; have HO5 := Aside0.mk ho; clear ho hb hg hat G5)
      all_goals
        go_wp2
        go_roundg gk
        case measure => omega
        case rel =>
          have hx := HX.out
          have ht : l.take (x + 1) = T ++ [y] := by
            rw [HT.out, HY.out, List.take_succ_eq_append_getElem hx]
            simp [rd_T46, List.getD, hx]
          have hcg : ∀ k, (Value.slice cA cn cC).ownBlock = some k → k ≠ gm ∧ some k ≠ (Value.slice iA input.length iC).ownBlock := A2.out.1
          refine ⟨x + 1, .slice vA vn vC, by go_num, ⟨by have := A1.out; omega⟩, ⟨?_⟩, ⟨blk_set HG5.out 0 _⟩, ⟨?_⟩, ⟨below_set HB5.out (by have := HGM.out; have := HB2.out.size; omega)⟩⟩
          · rw [ht]; exact Kd.R_far (p := ⟨gm, 0, none⟩) HO5.out (fun k hk => hk.1) _
          · refine own_move (own_move IN4.out (w1 := w5) (fun k e => HGR5.out.block k (IN4.out.lt k e).2 (fun e2 => (hcg k e2.symm).2 e.symm))) (fun k e => Below.heap_setCell _ _ _ _ (by have := (HIV.out k e).2; show k ≠ gm; omega))
    · obtain rfl : T = l := by rw [HT.out]; exact List.take_of_length_le (by omega)
      have HRD : Aside0 (MOn (fun k => k ≠ gm ∧ w.heap.size ≤ k ∧ k < wr.heap.size) wr ⟨gm, .slice cA cn cC, .slice none 0 0, .slice iA input.length iC, .slice none 0 0, []⟩ (mc0 T input fuel)) := ⟨by
        refine ⟨A3.out, ⟨rfl, .inl ⟨rfl, rfl⟩⟩, ⟨rfl, .inl ⟨rfl, rfl⟩⟩, .nil, by simp [MHo.own, Value.ownBlock], fun k hk h => ?_, fun k h => h.2.2, ?_, ?_⟩
        · have : k = gm := by simpa [MHo.own, Value.ownBlock] using hk
          exact h.1 this
        · exact Kd.R_V (Kd.R_mono (Kd.R_bound A2.out) (fun k hk => ⟨hk.1.1, hk.2.1, hk.2.2.1⟩))
        · exact Kd.R_V (base := w.heap.size) (Kd.R_of_own A4.out (fun k e => ⟨by have := (HIV.out k e).2; omega, (HIV.out k e).1, (A4.out.lt k e).2⟩))⟩
      have HBG : Aside0 (Calls Tryd.prog 33 #[.pointer (some ⟨gm, 0, none⟩), .int .i64 main, .slice none 0 0] wr _) := ⟨begin_on HRD.out main m0 m1 (rd_T46 T main).f1.toNat (by have := HCE.out; show (rd_T46 T main).f1 = _; omega) (by have := HCE.out; omega) (.slice none 0 0) [] ⟨rfl, .inl ⟨rfl, rfl⟩⟩ (Nat.zero_le _) (by show (0 : Nat) + 1 ≤ 1000; decide)⟩
      go_wp2_with ((with_reducible refine gate_callee (f := 33) rfl ?_); refine goesL_ (some 56) rfl rfl Tryd.func33 (by kernel_rfl) rfl #[.pointer (some ⟨gm, 0, none⟩), .int .i64 main, .slice none 0 0] rfl (by (try simp only [List.map_toArray, List.map_cons, List.map_nil]); first | done | rfl) ?_; refine HBG.out.mono ?_; rintro e w3 ⟨rfl, o3, hsub3, HM3, hmod⟩; have HP := Aside0.mk (And.intro hsub3 (And.intro HM3 hmod)); clear hsub3 HM3 hmod; refine ⟨_, rfl, ?_⟩)
      go_ret2
      obtain ⟨hsub3, HM3, hmod⟩ := HP.out
      have hsz := A5.out.size
      have hgs : w.heap.size ≤ gm := by rw [HGM.out]; exact HB2.out.size
      have hown : ∀ k ∈ o3.own, w.heap.size ≤ k := fun k hk => by
        rcases hsub3.2 k hk with h | h
        · have : k = gm := by simpa [MHo.own, Value.ownBlock] using h
          omega
        · omega
      refine ⟨_, o3, ?_, HM3, fun k hk => ?_, A5.out.trans (hmod.below (a := w) hsz (fun k hk => ?_))⟩
      · simp [MHo.ptr, hsub3.1]
      · rcases hk with hk | hk
        · exact hk.2.1
        · exact hown k hk
      · have : k = gm := by simpa [MHo.own, Value.ownBlock] using hk
        omega
end
end Go.Proofs.YthckiolgpgplpaaDoor
end
section
namespace Go.Proofs.YthckiolgpgplpaaDoor
open Go.RowKit Go.Proofs.YthckiolgpgplpaaDoorW.PrintWords Go.Proofs.YthckiolgpgplpaaDoorW.PrintLast Go.Proofs.YthckiolgpgplpaaDoorW.PrintMore Go.Proofs.YthckiolgpgplpaaDoor.P
set_option linter.unusedVariables false
set_option linter.unusedSimpArgs false
set_option maxRecDepth 1000000
set_option maxHeartbeats 1000000
section
variable (w : World)
end
section
variable {Rd : Nat → Prop} {w : World} {o : MHo} {m : Mc}
theorem ended_on (H : MOn Rd w o m) : Calls Tryd.prog 30 #[o.ptr] w fun e w' => e = .returned (.bool m.ended) ∧ Below w.heap.size w w' := by
  have hu24 := Tryd.underlying24
  have c0 : w.cell? ⟨o.g, 11, none⟩ = some (.bool m.ended) := blk_cell H.blk 11
  clear H
  show Calls Tryd.prog 30 #[.pointer (some ⟨o.g, 0, none⟩)] w _
  go_enter Tryd.func30, Tryd.ntmps30
  go_wp2
  go_ret
  exact ⟨rfl, Below.refl _ _⟩
theorem ticks_on (H : MOn Rd w o m) : Calls Tryd.prog 18 #[o.ptr] w fun e w' => e = .returned (.int .i64 m.ticks) ∧ Below w.heap.size w w' := by
  have hu24 := Tryd.underlying24
  have c0 : w.cell? ⟨o.g, 5, none⟩ = some (.int .i64 m.ticks) := blk_cell H.blk 5
  clear H
  show Calls Tryd.prog 18 #[.pointer (some ⟨o.g, 0, none⟩)] w _
  go_enter Tryd.func18, Tryd.ntmps18
  go_wp2
  go_ret
  exact ⟨rfl, Below.refl _ _⟩
theorem row_form {w : World} {base e size n : Nat} {v : Value} {xs : List Value} (h : w.ownsRow base e size v n xs) : ∃ A c, v = .slice A n c ∧ n ≤ c ∧ c ≤ 9223372036854775807 ∧ (A = none → n = 0 ∧ c = 0) ∧ ∀ ad, A = some ad → ∀ j u, xs[j]? = some u → w.cell? (ad.add j) = some u := by
  rcases h.2 with ⟨rfl, h0⟩ | ⟨sg, cap, cur, rfl, _, hh, hn, hcap, hsz, htk⟩
  · exact ⟨none, 0, by rw [h0], by omega, by omega, fun _ => ⟨h0, rfl⟩, fun ad e => by cases e⟩
  · refine ⟨_, cap, rfl, hn, by simp only [maxLen] at hcap; omega, (fun e => by cases e), fun ad e j u hj => ?_⟩
    cases e
    exact h.cells (g := sg) rfl j u hj
theorem count_on (H : MOn Rd w o m) : Calls Tryd.prog 22 #[o.ptr] w fun e w' => e = .returned (.int .i64 (m.events.length : Nat)) ∧ Below w.heap.size w w' := by
  have hu24 := Tryd.underlying24
  obtain ⟨A, c, he, _⟩ := row_form H.ev
  have c0 : w.cell? ⟨o.g, 10, none⟩ = some (.slice A m.events.length c) := by rw [blk_cell H.blk 10, ← he]; rfl
  clear H
  show Calls Tryd.prog 22 #[.pointer (some ⟨o.g, 0, none⟩)] w _
  go_enter Tryd.func22, Tryd.ntmps22
  go_wp2
  go_ret
  exact ⟨rfl, Below.refl _ _⟩
theorem frames_on (H : MOn Rd w o m) : Calls Tryd.prog 20 #[o.ptr] w fun e w' => e = .returned (.int .i64 (m.frames.length : Nat)) ∧ Below w.heap.size w w' := by
  have hu24 := Tryd.underlying24
  obtain ⟨A, c, he, _⟩ := row_form H.fr
  have c0 : w.cell? ⟨o.g, 1, none⟩ = some (.slice A m.frames.length c) := by rw [blk_cell H.blk 1, ← he]; rfl
  clear H
  show Calls Tryd.prog 20 #[.pointer (some ⟨o.g, 0, none⟩)] w _
  go_enter Tryd.func20, Tryd.ntmps20
  go_wp2
  go_ret
  exact ⟨rfl, Below.refl _ _⟩
theorem evs_length (l : List (Int × Int)) : (evs l).length = l.length * 2 := by
  induction l with
  | nil => rfl
  | cons a t ih => simp only [evs, List.flatMap_cons, List.length_append, List.length_cons, List.length_nil] at ih ⊢; omega
theorem evs_one (l : List (Int × Int)) : ∀ u ∈ evs l, u.oneCell' = true := by
  intro u hu
  simp only [evs, List.mem_flatMap] at hu
  obtain ⟨p, _, hu⟩ := hu
  simp at hu
  rcases hu with rfl | rfl <;> rfl
theorem events_on (H : MOn Rd w o m) (hl : m.events.length ≤ 4398046511104) : Calls Tryd.prog 16 #[o.ptr] w fun e w' => ∃ v1, e = .returned v1 ∧ w'.ownsRow 0 38 2 v1 m.events.length (evs m.events) ∧ (∀ k, v1.ownBlock = some k → w.heap.size ≤ k) ∧ Below w.heap.size w w' := by
  have hu24 := Tryd.underlying24
  obtain ⟨A, c, he, _, _, hnone, hcell⟩ := row_form H.ev
  obtain ⟨n, hn⟩ : ∃ n, n = m.events.length := ⟨_, rfl⟩
  rw [← hn] at he hnone hl
  have c0 : w.cell? ⟨o.g, 10, none⟩ = some (.slice A n c) := by rw [blk_cell H.blk 10, ← he]; rfl
  have HNO := Aside0.mk hnone; have HCE := Aside0.mk hcell; have HN := Aside0.mk hn; have HE := Aside0.mk (show (evs m.events).length = n * 2 by rw [evs_length, hn]); have HL := Aside0.mk hl
  clear H hnone hcell hn he hl
  show Calls Tryd.prog 16 #[.pointer (some ⟨o.g, 0, none⟩)] w _
  go_enter Tryd.func16, Tryd.ntmps16
  go_wp2_with (at_builtin; refine wpList_append_fresh rfl (.const (.slice none 0 0)) (.tmp 8) 35 rfl 38 (.agg #[.int .i64 0, .int .i64 0]) 2 16 Tryd.underlying35 info38 rfl (by decide) rfl A n c rfl (evs m.events) HE.out HNO.out HCE.out (evs_one _) (by have := HL.out; omega) (by have := HL.out; omega) ?fresh)
  case fresh =>
    intro v1 w1 hown hg hv1
    have HO := Aside0.mk hown; have HG := Aside0.mk hg; have HV := Aside0.mk hv1; clear hown hg hv1
    go_wp2
    go_ret
    exact ⟨v1, rfl, by rw [← HN.out]; exact HO.out, HV.out, HG.out.os, HG.out.tape, HG.out.output, HG.out.size, fun k hk => HG.out.block k hk (by simp)⟩
end
end Go.Proofs.YthckiolgpgplpaaDoor
end
