/- Texts as lists of byte values. -/
import Derived.Test.YtdbpdcjlbopkbaaDoorWAll
import Derived.Test.YtdbpdcjlbopkbaaDoorQBits
-- use: QBits
namespace Go.Proofs.YtdbpdcjlbopkbaaDoor.Q
set_option linter.unusedVariables false
set_option linter.unusedSimpArgs false
open Go.RowKit Go.Proofs.YtdbpdcjlbopkbaaDoorW.PrintWords Go.Proofs.YtdbpdcjlbopkbaaDoorW.PrintLast Go.Proofs.YtdbpdcjlbopkbaaDoorW.PrintMore Go.Proofs.YtdbpdcjlbopkbaaDoor.P

theorem toList_loop (s : ByteArray) : ∀ (d i : Nat) (r : List UInt8), i + d = s.size → ByteArray.toList.loop s i r = r.reverse ++ s.data.toList.drop i := by
  intro d
  induction d with
  | zero =>
    intro i r h
    have h2 : s.data.toList.length = s.size := data_length s
    rw [ByteArray.toList.loop, if_neg (by omega), List.drop_of_length_le (by omega), List.append_nil]
  | succ d ih =>
    intro i r h
    have h2 : s.data.toList.length = s.size := data_length s
    rw [ByteArray.toList.loop, if_pos (by omega), ih (i + 1) _ (by omega), List.drop_eq_getElem_cons (show i < s.data.toList.length by omega)]
    have e : s.get! i = s.data.toList[i] := by
      have h3 : i < s.data.size := by rw [Array.length_toList] at h2; omega
      rw [ByteArray.get!, Array.getElem_toList]
      exact getElem!_pos s.data i h3
    rw [e]
    simp
theorem toList_data (s : ByteArray) : s.toList = s.data.toList := by
  rw [ByteArray.toList, toList_loop s s.size 0 [] (by omega)]
  simp
theorem data_inj {a b : ByteArray} (h : a.data.toList = b.data.toList) : a = b := by
  cases a; cases b; simp at h; simp [h]
theorem toList_iff (a b : ByteArray) : a.toList = b.toList ↔ a = b := by
  rw [toList_data, toList_data]
  exact ⟨data_inj, fun h => by rw [h]⟩
theorem toNat_inj : ∀ {a b : List UInt8}, (a.map fun x => ((x.toNat : Nat) : Int)) = (b.map fun x => ((x.toNat : Nat) : Int)) → a = b
  | [], [], _ => rfl
  | [], _ :: _, h => by simp at h
  | _ :: _, [], h => by simp at h
  | x :: a, y :: b, h => by
    simp only [List.map_cons, List.cons.injEq] at h
    obtain ⟨h1, h2⟩ := h
    have : x = y := UInt8.toNat_inj.mp (by omega)
    rw [this, toNat_inj h2]
theorem bytesOf_inj {a b : ByteArray} (h : bytesOf a = bytesOf b) : a = b := data_inj (toNat_inj h)
theorem bytesOf_iff (a b : ByteArray) : bytesOf a = bytesOf b ↔ a = b := ⟨bytesOf_inj, fun h => by rw [h]⟩
theorem toList_bytes (a b : ByteArray) : a.toList = b.toList ↔ bytesOf a = bytesOf b := by rw [toList_iff, bytesOf_iff]
theorem toList_nil (a : ByteArray) : a.toList = ([] : List UInt8) ↔ bytesOf a = [] := by
  rw [toList_data, bytesOf]
  simp
def Byte (c : Int) : Prop := 0 ≤ c ∧ c ≤ 255
theorem bytesOf_byte {s : ByteArray} {c : Int} (h : c ∈ bytesOf s) : Byte c := by
  obtain ⟨x, _, rfl⟩ := List.mem_map.1 h
  have := x.toNat_lt
  exact ⟨by omega, by omega⟩
theorem bytesOf_strOfNums {l : List Int} (h : ∀ c ∈ l, Byte c) : bytesOf (strOfNums l) = l := by
  unfold bytesOf strOfNums
  simp only [List.map_map]
  rw [List.map_congr_left (g := id) (fun c hc => ?_), List.map_id]
  obtain ⟨h0, h1⟩ := h c hc
  simp only [Function.comp, id]
  rw [UInt8.toNat_ofNat', Nat.mod_eq_of_lt (by omega)]
  omega
theorem strOfNums_bytesOf (s : ByteArray) : strOfNums (bytesOf s) = s := bytesOf_inj (bytesOf_strOfNums (fun _ h => bytesOf_byte h))
theorem bytesOf_append (a b : ByteArray) : bytesOf (a ++ b) = bytesOf a ++ bytesOf b := by
  unfold bytesOf
  rw [← List.map_append]
  congr 1
theorem bytesOf_extract (s : ByteArray) (i j : Nat) : bytesOf (s.extract i j) = ((bytesOf s).take j).drop i := by
  unfold bytesOf
  rw [← List.map_take, ← List.map_drop]
  congr 1
  simp [List.drop_take]
theorem bt_cast (s : ByteArray) (i : Nat) : bt s i = rd (bytesOf s) i := (rd_bytesOf s i).symm
theorem rd_get {l : List Int} {i : Nat} (h : i < l.length) : rd l i = l[i] := by simp [rd, List.getD, h]
theorem size_len (s : ByteArray) : s.size = (bytesOf s).length := (bytesOf_length s).symm
theorem drop_rd {l : List Int} {i : Nat} (h : i < l.length) : l.drop i = rd l i :: l.drop (i + 1) := by
  rw [List.drop_eq_getElem_cons h, rd_get h]
theorem rd_byte (s : ByteArray) {i : Nat} (h : i < s.size) : Byte (rd (bytesOf s) i) := by
  rw [rd_get (by rw [bytesOf_length]; exact h)]
  exact bytesOf_byte (List.getElem_mem _)
end Go.Proofs.YtdbpdcjlbopkbaaDoor.Q
