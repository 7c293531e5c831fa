/- Lemmas for a proof in several parts. -/
import Derived.Test.YtgendpinmmmfjaaBaseCB5
import Derived.WalkKit
import Derived.ProofKit
import Derived.OpenShut
import Derived.ShutString
import Derived.ChangeOld
import Derived.Below
import Derived.SizedLaws
import Derived.SliceStrings
import Derived.Carry
set_option linter.unusedVariables false
set_option linter.unusedSimpArgs false
/-
  From a walk's contract to what a row asks; a list of strings, as the row reads it.
-/
namespace Dn
open Go Go.ChangeShapes Go.WideShapes Go.RowKit

def frameOf (W : World) : Fr := ⟨W.os, W.tape, W.output, fun b => W.heap[b]?⟩
theorem sep_frame (W : World) : Sep W [] (frameOf W) := ⟨rfl, rfl, rfl, List.nodup_nil, fun b o h => by simp at h, fun b o h => h, fun b o h => by simp at h⟩
theorem below_frame {W w' : World} {L : List (Nat × Obj)} (S : Sep w' L (frameOf W)) : Below W.heap.size W w' := by
  refine ⟨S.os, S.tape, S.out, ?_, fun k hk => ?_⟩
  · rcases Nat.eq_zero_or_pos W.heap.size with h | h
    · omega
    · have hlt : W.heap.size - 1 < W.heap.size := by omega
      have := S.fr (W.heap.size - 1) W.heap[W.heap.size - 1] (Array.getElem?_eq_getElem hlt)
      have := (Array.getElem?_eq_some_iff.1 this).1
      omega
  · have := S.fr k W.heap[k] (Array.getElem?_eq_getElem hk)
    rw [this, Array.getElem?_eq_getElem hk]

theorem calls_of {P : Program} {f : FuncId} {args : List Value} {Φ : Fr → Prop} {u : Value} (h : DSpecF P f args [] Φ fun v _ => v = u) {W : World} (hΦ : Φ (frameOf W)) :
    Calls P f ⟨args⟩ W fun e w' => e = .returned u ∧ Below W.heap.size W w' :=
  Calls.mono (h W (frameOf W) hΦ (sep_frame W)) fun e w' ⟨v, he, L', hv, S⟩ => ⟨by rw [he, hv], below_frame S⟩

theorem fcell_of {W : World} {a : Addr} {v : Value} (h : W.cell? a = some v) : a = ⟨a.block, a.off, none⟩ ∧ FCell (frameOf W) a.block a.off v := by
  unfold World.cell? at h
  split at h
  · rename_i c ty fr hb
    split at h
    · simp at h
    · rename_i hs
      obtain ⟨b, off, spot⟩ := a
      have : spot = none := by simpa using hs
      subst this
      refine ⟨rfl, c.toList, ty, fr, hb, by simpa using h⟩
  · simp at h

theorem weights_mem {H : Type} {P : Program} {e : TypeId} {s : List UInt8} : ∀ {ds : List (DataW H)}, (DataW.lit (.string s) : DataW H) ∈ ds → s.length ∈ DataW.weightsAll P e ds
  | [], h => by simp at h
  | d :: r, h => by
    simp only [DataW.weightsAll, List.mem_append]
    rcases List.mem_cons.1 h with h | h
    · subst h; left; simp [DataW.weights]
    · exact .inr (weights_mem h)

/-- A list of strings, as the row reads it. -/
theorem open_strsF {H : Type} {enc : TypeId × Value → H} {P : Program} {W : World} {held : Bool} {t e : TypeId} {a : Option Addr} {len cap : Nat} {d : DataW H} {ps : List MemPlace} {ts : List TypeId} {ds : List (DataW H)} {j : Nat}
    (ht : P.underlying t = some (.slice e)) (he : P.underlying e = some .string) (hc : P.cellsOf e = 1) (hby : P.bytesOf e = 16) (h : DataW.Trod enc P W 0 (fun _ => true) held t (.slice a len cap) d ps)
    (hsz : (DataW.weightsEach P ts ds).all (· ≤ reachBytes) = true) (hj : ts[j]? = some t) (hd : ds[j]? = some d) :
    ∃ l : List Sec, l.length = len ∧ l.length < 140737488355328 ∧ (∀ r ∈ l, r.length < 140737488355328) ∧ FSl (frameOf W) a (l.map fun r => .string ⟨⟨r⟩⟩) := by
  obtain ⟨fuel, hf⟩ := h
  rcases open_strings ht he hc hf with ⟨hcs, _⟩ | ⟨x, l, c, ss, hcs, _, hl, hm, hz, hx, hcell, hwz⟩
  · simp [Value.cells] at hcs
    obtain ⟨rfl, rfl, rfl⟩ := hcs
    exact ⟨[], rfl, by simp, by simp, FSl.nil⟩
  · simp [Value.cells] at hcs
    obtain ⟨rfl, rfl, rfl⟩ := hcs
    simp only [if_true] at hz
    have hd' := congrArg Prod.fst hx
    simp only at hd'
    rw [hd'] at hd
    have hlt := reachBytes_lt
    have h1 := sized_slice hsz hj hd ht
    have h2 : ∀ s ∈ ss.take len, s.data.toList.length ≤ reachBytes := by
      intro s hs
      have hm : (DataW.lit (.string s.data.toList) : DataW H) ∈ strs (ss.take len) := by
        unfold strs
        exact List.mem_map.2 ⟨s, hs, rfl⟩
      have := List.all_eq_true.1 hsz _ (DataW.weights_mem_each hj hd s.data.toList.length (by
        simp only [DataW.weights, ht, List.mem_cons, List.mem_append]
        exact .inr (.inl (weights_mem hm))))
      simpa using this
    refine ⟨(ss.take len).map fun s => s.data.toList, by simp; omega, ?_, ?_, ?_⟩
    · have : (strs (H := H) (ss.take len)).length = len := by simp [strs]; omega
      rw [this, hby] at h1
      simp; omega
    · intro r hr
      obtain ⟨s, hs, rfl⟩ := List.mem_map.1 hr
      have := h2 s hs
      omega
    · intro i v hi
      rw [List.getElem?_map, List.getElem?_map] at hi
      cases hsi : (ss.take len)[i]? with
      | none => rw [hsi] at hi; simp at hi
      | some s =>
        rw [hsi] at hi
        simp only [Option.map_some, Option.some.injEq] at hi
        have hil : i < len := by
          have := (List.getElem?_eq_some_iff.1 hsi).1
          simp at this; omega
        rw [List.getElem?_take_of_lt hil] at hsi
        have hc := hcell i (by omega)
        rw [List.getD_eq_getElem?_getD, hsi] at hc
        obtain ⟨k1, k2⟩ := fcell_of hc
        have hc0 := hcell 0 (by omega)
        have e0 : x.add 0 = x := by unfold Addr.add; rw [if_pos rfl]
        rw [e0] at hc0
        obtain ⟨k3, -⟩ := fcell_of hc0
        obtain ⟨b, off, spot⟩ := x
        injection k3 with _ _ ks
        subst ks
        refine ⟨b, off, rfl, ?_⟩
        rw [← hi]
        have e1 : (⟨b, off, none⟩ : Addr).add i = ⟨b, off + i, none⟩ := by
          unfold Addr.add; split
          · rename_i h0; subst h0; rfl
          · rfl
        rw [e1] at k2
        exact k2

end Dn

/-
  Slices of ints and of bools, as the row reads them.
-/
namespace Dn
open Go Go.ChangeShapes Go.WideShapes Go.RowKit

theorem open_slF {H α : Type} {enc : TypeId × Value → H} {P : Program} {W : World} {held : Bool} {t e : TypeId} {a : Option Addr} {len cap : Nat} {d : DataW H} {ps : List MemPlace} {ts : List TypeId} {ds : List (DataW H)} {j : Nat} (f : α → Value)
    (ht : P.underlying t = some (.slice e)) (one : ∀ n cs y, DataW.trod enc P W 0 (fun _ => true) held n e cs = some y → ∃ x, cs = [f x]) (hc : P.cellsOf e = 1) (hby : 1 ≤ P.bytesOf e) (h : DataW.Trod enc P W 0 (fun _ => true) held t (.slice a len cap) d ps)
    (hsz : (DataW.weightsEach P ts ds).all (· ≤ reachBytes) = true) (hj : ts[j]? = some t) (hd : ds[j]? = some d) :
    ∃ l : List α, l.length = len ∧ len ≤ cap ∧ l.length < 140737488355328 ∧ FSl (frameOf W) a (l.map f) := by
  obtain ⟨fuel, hf⟩ := h
  rcases DataW.trod_slice ht hf with ⟨hcs, _⟩ | ⟨x, ln, cp, elems, rest, n, _, hcs, hx, _, hl, hm, hlen, hel, _, _⟩
  · simp [Value.cells] at hcs
    obtain ⟨rfl, rfl, rfl⟩ := hcs
    exact ⟨[], rfl, Nat.le_refl _, by simp, FSl.nil⟩
  · simp [Value.cells] at hcs
    obtain ⟨rfl, rfl, rfl⟩ := hcs
    have hd' := congrArg Prod.fst hx
    simp only at hd'
    rw [hd'] at hd
    have hlt := reachBytes_lt
    have h1 := sized_slice hsz hj hd ht
    simp only [List.length_map] at h1
    have hcell : ∀ i, i < len → ∃ y, W.cell? (x.add i) = some (f y) := by
      intro i hi
      have h2 := hel i hi
      rw [List.getElem?_eq_getElem (by omega), hc, Nat.mul_one, Option.bind_eq_some_iff] at h2
      obtain ⟨cs', hcs, hy'⟩ := h2
      obtain ⟨y, rfl⟩ := one _ _ _ hy'
      exact ⟨y, cell_of_cells?_one hcs⟩
    have hlist : ∀ k, k ≤ len → ∃ l : List α, l.length = k ∧ ∀ i y, l[i]? = some y → W.cell? (x.add i) = some (f y) := by
      intro k
      induction k with
      | zero => intro _; exact ⟨[], rfl, fun i y h => by simp at h⟩
      | succ k ih =>
        intro hk
        obtain ⟨l, h1, h2⟩ := ih (by omega)
        obtain ⟨y, hy⟩ := hcell k (by omega)
        refine ⟨l ++ [y], by simp [h1], fun i z hz => ?_⟩
        by_cases e : i < l.length
        · rw [List.getElem?_append_left e] at hz; exact h2 i z hz
        · rw [List.getElem?_append_right (by omega)] at hz
          obtain ⟨k1, k2⟩ := List.getElem?_eq_some_iff.1 hz
          simp at k1 k2
          have : i = k := by omega
          rw [this, ← k2]; exact hy
    obtain ⟨l, k1, k2⟩ := hlist len (Nat.le_refl _)
    have hle : len * 1 ≤ (elems.length + rest.length) * P.bytesOf e := Nat.mul_le_mul (by omega) hby
    refine ⟨l, k1, hl, by omega, ?_⟩
    intro i v hi
    rw [List.getElem?_map] at hi
    cases hsi : l[i]? with
    | none => rw [hsi] at hi; simp at hi
    | some s =>
      rw [hsi] at hi
      simp only [Option.map_some, Option.some.injEq] at hi
      have hil : i < len := by
        have := (List.getElem?_eq_some_iff.1 hsi).1
        omega
      have hcl := k2 i s hsi
      obtain ⟨m1, m2⟩ := fcell_of hcl
      obtain ⟨y0, hc0⟩ := hcell 0 (by omega)
      have e0 : x.add 0 = x := by unfold Addr.add; rw [if_pos rfl]
      rw [e0] at hc0
      obtain ⟨m3, -⟩ := fcell_of hc0
      obtain ⟨b, off, spot⟩ := x
      injection m3 with _ _ ks
      subst ks
      refine ⟨b, off, rfl, ?_⟩
      rw [← hi]
      have e1 : (⟨b, off, none⟩ : Addr).add i = ⟨b, off + i, none⟩ := by
        unfold Addr.add; split
        · rename_i h0; subst h0; rfl
        · rfl
      rw [e1] at m2
      exact m2

theorem open_intsF {H : Type} {enc : TypeId × Value → H} {P : Program} {W : World} {held : Bool} {t e : TypeId} {a : Option Addr} {len cap : Nat} {d : DataW H} {ps : List MemPlace} {ts : List TypeId} {ds : List (DataW H)} {j : Nat}
    (ht : P.underlying t = some (.slice e)) (he : P.underlying e = some (.int .i64)) (hc : P.cellsOf e = 1) (hby : Nat.ble 1 (P.bytesOf e) = true) (h : DataW.Trod enc P W 0 (fun _ => true) held t (.slice a len cap) d ps)
    (hsz : (DataW.weightsEach P ts ds).all (· ≤ reachBytes) = true) (hj : ts[j]? = some t) (hd : ds[j]? = some d) :
    ∃ l : List Int, l.length = len ∧ len ≤ cap ∧ l.length < 140737488355328 ∧ FSl (frameOf W) a (l.map (Value.int .i64)) :=
  open_slF (Value.int .i64) ht (fun n cs y h => by obtain ⟨m, h1, _⟩ := DataW.trod_int he h; exact ⟨m, h1⟩) hc (Nat.le_of_ble_eq_true hby) h hsz hj hd
theorem open_boolsF {H : Type} {enc : TypeId × Value → H} {P : Program} {W : World} {held : Bool} {t e : TypeId} {a : Option Addr} {len cap : Nat} {d : DataW H} {ps : List MemPlace} {ts : List TypeId} {ds : List (DataW H)} {j : Nat}
    (ht : P.underlying t = some (.slice e)) (he : P.underlying e = some .bool) (hc : P.cellsOf e = 1) (hby : Nat.ble 1 (P.bytesOf e) = true) (h : DataW.Trod enc P W 0 (fun _ => true) held t (.slice a len cap) d ps)
    (hsz : (DataW.weightsEach P ts ds).all (· ≤ reachBytes) = true) (hj : ts[j]? = some t) (hd : ds[j]? = some d) :
    ∃ l : List Bool, l.length = len ∧ len ≤ cap ∧ l.length < 140737488355328 ∧ FSl (frameOf W) a (l.map Value.bool) :=
  open_slF Value.bool ht (fun n cs y h => by obtain ⟨m, h1, _⟩ := DataW.trod_bool he h; exact ⟨m, h1⟩) hc (Nat.le_of_ble_eq_true hby) h hsz hj hd

theorem int_rng {n : Int} (h : (Lit.int .i64 n).wf = true) : -9223372036854775808 ≤ n ∧ n < 9223372036854775808 := by
  simp [Lit.wf, IntKind.min, IntKind.max, IntKind.signed, IntKind.bits] at h
  omega

theorem open_capF {H : Type} {enc : TypeId × Value → H} {P : Program} {W : World} {held : Bool} {t e : TypeId} {a : Option Addr} {len cap : Nat} {d : DataW H} {ps : List MemPlace}
    (ht : P.underlying t = some (.slice e)) (h : DataW.Trod enc P W 0 (fun _ => true) held t (.slice a len cap) d ps) : len ≤ cap := by
  obtain ⟨fuel, hf⟩ := h
  rcases DataW.trod_slice ht hf with ⟨hcs, _⟩ | ⟨x, ln, cp, elems, rest, n, _, hcs, hx, _, hl, hm, hlen, hel, _, _⟩
  · simp [Value.cells] at hcs; omega
  · simp [Value.cells] at hcs
    obtain ⟨rfl, rfl, rfl⟩ := hcs
    exact hl

end Dn
