/- Lemmas for a proof in several parts. -/
import Derived.Test.YtjnogknjdjphaaaGreatBaseCB4
import Derived.WalkKit
import Derived.ProofKit
import Derived.OpenShut
import Derived.ShutString
import Derived.ChangeOld
import Derived.Below
import Derived.SizedLaws
import Derived.SliceStrings
import Derived.Carry
set_option linter.unusedVariables false
set_option linter.unusedSimpArgs false
/-
  The walks of the reference's Small, sectors and Places (layer 17).
-/
namespace Dn
open Go
def sectX (c : Cfg) : Int := IntKind.i64.wrap (IntKind.i64.wrap (c.log + IntKind.i64.wrap (2 * c.image)) + c.rows)
def smallX (c : Cfg) : Prop := c.disks ≤ 6 ∧ c.log ≤ 24 ∧ c.image ≤ 24 ∧ c.rows ≤ 24 ∧ sectX c ≤ 24
@[irreducible] instance (c : Cfg) : Decidable (smallX c) := by unfold smallX; infer_instance
theorem sectX_ok {c : Cfg} (h : c.ok) : sectX c = c.total := by
  unfold Cfg.ok at h
  unfold sectX Cfg.total
  rw [wrap_id (show (-9223372036854775808 : Int) ≤ 2 * c.image by omega) (by omega), wrap_id (show (-9223372036854775808 : Int) ≤ c.log + 2 * c.image by omega) (by omega), wrap_id (by omega) (by omega)]
  omega
/-- the places of an area, of a disk, of all -/
def placesA (d a n : Nat) : List Pl := (List.range n).map fun i : Nat => ⟨(d : Int), (a : Int) + 1, (i : Int)⟩
def placesD (c : Cfg) (d : Nat) (k : Nat) : List Pl := (List.range k).flatMap fun a => placesA d a (c.szs.getD a 0).toNat
def places (c : Cfg) (n : Nat) : List Pl := (List.range n).flatMap fun d => placesD c d 4
end Dn
namespace Go.Proofs.YtjnogknjdjphaaaGreat
open Dn
attribute [local irreducible] Evs Ev EvT DSpec PSpec CallTo
set_option maxRecDepth 10000
set_option maxHeartbeats 2000000

theorem r_sectors (c : Cfg) : PSpec Tryz.prog 88 [.agg ⟨c.v⟩] (.int .i64 (sectX c)) := by
  refine pspec_of mix Tryz.func88 c88_eq rfl rfl fun w F Q S hQ => ?_
  (repeat first|refine Nv.r ?_|refine Jk rfl ?_|(refine JX ?_;conv=>whnf)|(refine JV ?_;(conv=>whnf);show Evs _ _ _ _ _)|refine JJ rfl ?_|refine JK rfl ?_|refine JQ rfl ?_|refine JL rfl rfl ?_|refine JM rfl rfl ?_|refine JN rfl ?_|refine JO rfl ?_|refine JP rfl ?_)
  refine e_bx S rfl fun b w S => ?_
  (repeat first|refine Nv.r ?_|refine Jk rfl ?_|(refine JX ?_;conv=>whnf)|(refine JV ?_;(conv=>whnf);show Evs _ _ _ _ _)|refine JJ rfl ?_|refine JK rfl ?_|refine JQ rfl ?_|refine JL rfl rfl ?_|refine JM rfl rfl ?_|refine JN rfl ?_|refine JO rfl ?_|refine JP rfl ?_)
  refine e_ld (v := .int .i64 c.log) (S.cell 0 rfl rfl) ?_
  (repeat first|refine Nv.r ?_|refine Jk rfl ?_|(refine JX ?_;conv=>whnf)|(refine JV ?_;(conv=>whnf);show Evs _ _ _ _ _)|refine JJ rfl ?_|refine JK rfl ?_|refine JQ rfl ?_|refine JL rfl rfl ?_|refine JM rfl rfl ?_|refine JN rfl ?_|refine JO rfl ?_|refine JP rfl ?_)
  refine e_ld (v := .int .i64 c.image) (S.cell 0 rfl rfl) ?_
  refine e_arv (u := .int .i64 2) (v := .int .i64 c.image) (r := .int .i64 (IntKind.i64.wrap (2 * c.image))) rfl rfl rfl ?_
  refine e_arv (u := .int .i64 c.log) (v := .int .i64 (IntKind.i64.wrap (2 * c.image))) (r := .int .i64 (IntKind.i64.wrap (c.log + IntKind.i64.wrap (2 * c.image)))) rfl rfl rfl ?_
  (repeat first|refine Nv.r ?_|refine Jk rfl ?_|(refine JX ?_;conv=>whnf)|(refine JV ?_;(conv=>whnf);show Evs _ _ _ _ _)|refine JJ rfl ?_|refine JK rfl ?_|refine JQ rfl ?_|refine JL rfl rfl ?_|refine JM rfl rfl ?_|refine JN rfl ?_|refine JO rfl ?_|refine JP rfl ?_)
  refine e_ld (v := .int .i64 c.rows) (S.cell 0 rfl rfl) ?_
  refine e_arv (u := .int .i64 (IntKind.i64.wrap (c.log + IntKind.i64.wrap (2 * c.image)))) (v := .int .i64 c.rows) (r := .int .i64 (sectX c)) rfl rfl rfl ?_
  refine e_mvI rfl ?_
  (repeat first|refine Nv.r ?_|refine Jk rfl ?_)
  exact f_ret rfl rfl (hQ _ _ _ rfl S)

theorem r_small (c : Cfg) : PSpec Tryz.prog 86 [.agg ⟨c.v⟩] (.bool (decide (smallX c))) := by
  refine pspec_of mix Tryz.func86 c86_eq rfl rfl fun w F Q S hQ => ?_
  have key : ∀ b : Bool, (b = true ↔ smallX c) → Value.bool b = Value.bool (decide (smallX c)) := fun b h => congrArg Value.bool (Bool.eq_iff_iff.2 (by rw [h, decide_eq_true_iff]))
  (repeat first|refine Nv.r ?_|refine Jk rfl ?_|(refine JX ?_;conv=>whnf)|(refine JV ?_;(conv=>whnf);show Evs _ _ _ _ _)|refine JJ rfl ?_|refine JK rfl ?_|refine JQ rfl ?_|refine JL rfl rfl ?_|refine JM rfl rfl ?_|refine JN rfl ?_|refine JO rfl ?_|refine JP rfl ?_)
  refine e_bx S rfl fun b w S => ?_
  repeat' first
    | (refine e_ld (v := .int .i64 c.disks) (S.cell 0 rfl rfl) ?_)
    | (refine e_ld (v := .int .i64 c.log) (S.cell 0 rfl rfl) ?_)
    | (refine e_ld (v := .int .i64 c.image) (S.cell 0 rfl rfl) ?_)
    | (refine e_ld (v := .int .i64 c.rows) (S.cell 0 rfl rfl) ?_)
    | (refine e_ld (v := .agg ⟨c.v⟩) (S.row 0 rfl (by simp [Cfg.v]) rfl) ?_)
    | (refine e_callP rfl (r_sectors c) S fun w S => ?_)
    | (first|refine Nv.r ?_|refine Jk rfl ?_|(refine JX ?_;conv=>whnf)|(refine JV ?_;(conv=>whnf);show Evs _ _ _ _ _)|refine JJ rfl ?_|refine JK rfl ?_|refine JQ rfl ?_|refine JL rfl rfl ?_|refine JM rfl rfl ?_|refine JN rfl ?_|refine JO rfl ?_|refine JP rfl ?_)
    | (refine e_brD rfl (fun _ => ?_) (fun _ => ?_))
  all_goals
    refine f_ret rfl rfl (hQ _ _ _ (key _ ?_) S)
    unfold smallX
    simp
    try omega

abbrev OwnP (ad : Option Addr) (n cap : Nat) (l : List Pl) (Lb : List (Nat × Obj)) : Prop := OwnS 53 3 ad n cap (l.flatMap Pl.v) Lb
theorem pl_flat (l : List Pl) : (l.flatMap Pl.v).length = l.length * 3 := by
  induction l with
  | nil => rfl
  | cons p l ih => rw [List.flatMap_cons, List.length_append, ih]; simp [Pl.v]; omega
theorem pl_row {l : List Pl} {i : Nat} (h : i < l.length) : ((l.flatMap Pl.v).drop (i * 3)).take 3 = (l[i]).v := by
  induction l generalizing i with
  | nil => simp at h
  | cons p l ih =>
    cases i with
    | zero => simp [Pl.v]
    | succ i =>
      have e : (i + 1) * 3 = (Pl.v p).length + i * 3 := by simp [Pl.v]; omega
      rw [List.flatMap_cons, e, ← List.drop_drop, List.drop_left]
      simpa using ih (by simpa using h)

theorem r_places (c : Cfg) (hc : c.ok) (hs : smallX c) : DSpec Tryz.prog 28 [.agg ⟨c.v⟩] [] fun v L => ∃ ad cap, v = .slice ad (places c c.disks.toNat).length cap ∧ OwnP ad (places c c.disks.toNat).length cap (places c c.disks.toNat) L := by
  refine spec_of mix Tryz.func28 c28_eq rfl rfl fun w F Q S hQ => ?_
  have hc' := hc
  unfold Cfg.ok at hc'
  have hs' := hs
  unfold smallX at hs'
  have hsz : ∀ a : Nat, a < 4 → 0 ≤ c.szs.getD a 0 ∧ c.szs.getD a 0 ≤ 24 := by
    intro a ha
    have : a = 0 ∨ a = 1 ∨ a = 2 ∨ a = 3 := by omega
    rcases this with rfl | rfl | rfl | rfl <;> simp [Cfg.szs] <;> omega
  have hlA : ∀ d a n, (placesA d a n).length = n := fun d a n => by simp [placesA]
  have hlD : ∀ d k, k ≤ 4 → (placesD c d k).length ≤ 24 * k := by
    intro d k
    induction k with
    | zero => intro _; simp [placesD]
    | succ k ih =>
      intro hk
      have h1 := hsz k (by omega)
      have h2 := ih (by omega)
      unfold placesD at h2 ⊢
      rw [List.range_succ, List.flatMap_append, List.length_append]
      simp only [List.flatMap_cons, List.flatMap_nil, List.append_nil, hlA]
      omega
  have hlP : ∀ n, (places c n).length ≤ 96 * n := by
    intro n
    induction n with
    | zero => simp [places]
    | succ n ih =>
      have h2 := hlD n 4 (by omega)
      unfold places at ih ⊢
      rw [List.range_succ, List.flatMap_append, List.length_append]
      simp only [List.flatMap_cons, List.flatMap_nil, List.append_nil]
      omega
  (repeat first|refine Nv.r ?_|refine Jk rfl ?_)
  refine e_bx S rfl fun b1 w S => ?_
  refine e_mvL rfl ?_
  (repeat first|refine Nv.r ?_|refine Jk rfl ?_|(refine JX ?_;conv=>whnf)|(refine JV ?_;(conv=>whnf);show Evs _ _ _ _ _)|refine JJ rfl ?_|refine JK rfl ?_|refine JQ rfl ?_|refine JL rfl rfl ?_|refine JM rfl rfl ?_|refine JN rfl ?_|refine JO rfl ?_|refine JP rfl ?_)
  refine e_ld (v := .int .i64 c.log) (S.cell 0 rfl rfl) ?_
  (repeat first|refine Nv.r ?_|refine Jk rfl ?_|(refine JX ?_;conv=>whnf)|(refine JV ?_;(conv=>whnf);show Evs _ _ _ _ _)|refine JJ rfl ?_|refine JK rfl ?_|refine JQ rfl ?_|refine JL rfl rfl ?_|refine JM rfl rfl ?_|refine JN rfl ?_|refine JO rfl ?_|refine JP rfl ?_)
  refine e_ld (v := .int .i64 c.image) (S.cell 0 rfl rfl) ?_
  (repeat first|refine Nv.r ?_|refine Jk rfl ?_|(refine JX ?_;conv=>whnf)|(refine JV ?_;(conv=>whnf);show Evs _ _ _ _ _)|refine JJ rfl ?_|refine JK rfl ?_|refine JQ rfl ?_|refine JL rfl rfl ?_|refine JM rfl rfl ?_|refine JN rfl ?_|refine JO rfl ?_|refine JP rfl ?_)
  refine e_ld (v := .int .i64 c.image) (S.cell 0 rfl rfl) ?_
  (repeat first|refine Nv.r ?_|refine Jk rfl ?_|(refine JX ?_;conv=>whnf)|(refine JV ?_;(conv=>whnf);show Evs _ _ _ _ _)|refine JJ rfl ?_|refine JK rfl ?_|refine JQ rfl ?_|refine JL rfl rfl ?_|refine JM rfl rfl ?_|refine JN rfl ?_|refine JO rfl ?_|refine JP rfl ?_)
  refine e_ld (v := .int .i64 c.rows) (S.cell 0 rfl rfl) ?_
  refine e_bsl (size := 1) (xs := c.szs.map (Value.int .i64)) S Tryz.underlying54 rfl rfl ⟨_, rfl⟩ (by omega) (by omega) (fun zs hz => (match zs, hz with | [_, _, _, _], _ => rfl)) fun b3 w S => ?_
  replace S : Dn.Sep w ([(b1, .cells ⟨c.v⟩ 31), (b3, .cells ⟨c.szs.map (Value.int .i64)⟩ 3)] ++ []) F := S
  (repeat first|refine Nv.r ?_|refine Jk rfl ?_|(refine JX ?_;conv=>whnf)|(refine JV ?_;(conv=>whnf);show Evs _ _ _ _ _)|refine JJ rfl ?_|refine JK rfl ?_|refine JQ rfl ?_|refine JL rfl rfl ?_|refine JM rfl rfl ?_|refine JN rfl ?_|refine JO rfl ?_|refine JP rfl ?_)
  refine s_loop (σ := Nat × Option Addr × Nat × List (Nat × Obj)) (fun q => [(5, .int .i64 (q.1 : Int)), (4, .slice q.2.1 (places c q.1).length q.2.2.1), (3, .slice (some ⟨b3, 0, none⟩) 4 4), (1, .pointer (some ⟨b1, 0, none⟩))])
    (fun q w => q.1 ≤ c.disks.toNat ∧ OwnP q.2.1 (places c q.1).length q.2.2.1 (places c q.1) q.2.2.2 ∧ Dn.Sep w ([(b1, .cells ⟨c.v⟩ 31), (b3, .cells ⟨c.szs.map (Value.int .i64)⟩ 3)] ++ q.2.2.2) F) (fun q => c.disks.toNat - q.1) (0, none, 0, [])
    ⟨rfl, rfl, rfl, rfl, trivial⟩ rfl ⟨by simp, OwnS.nil, S⟩ ?_
  rintro g ⟨d, ad, cap, Lb⟩ w ⟨hd, hO, S⟩
  simp only [setL] at hd hO S ⊢
  (repeat first|refine Nv.r ?_|refine Jk rfl ?_|(refine JX ?_;conv=>whnf)|(refine JV ?_;(conv=>whnf);show Evs _ _ _ _ _)|refine JJ rfl ?_|refine JK rfl ?_|refine JQ rfl ?_|refine JL rfl rfl ?_|refine JM rfl rfl ?_|refine JN rfl ?_|refine JO rfl ?_|refine JP rfl ?_)
  refine e_ld (v := .int .i64 c.disks) (S.cell 0 rfl rfl) ?_
  (repeat first|refine Nv.r ?_|refine Jk rfl ?_|(refine JX ?_;conv=>whnf)|(refine JV ?_;(conv=>whnf);show Evs _ _ _ _ _)|refine JJ rfl ?_|refine JK rfl ?_|refine JQ rfl ?_|refine JL rfl rfl ?_|refine JM rfl rfl ?_|refine JN rfl ?_|refine JO rfl ?_|refine JP rfl ?_)
  refine s_iteD rfl (fun h => ?_) (fun h => ?_)
  rotate_left
  · have e : d = c.disks.toNat := by omega
    subst e
    (repeat first|refine Nv.r ?_|refine Jk rfl ?_|(refine JX ?_;conv=>whnf)|(refine JV ?_;(conv=>whnf);show Evs _ _ _ _ _)|refine JJ rfl ?_|refine JK rfl ?_|refine JQ rfl ?_|refine JL rfl rfl ?_|refine JM rfl rfl ?_|refine JN rfl ?_|refine JO rfl ?_|refine JP rfl ?_)
    exact f_ret rfl rfl (hQ _ _ _ ⟨ad, cap, rfl, hO⟩ S.drop)
  have hPd := hlP d
  (repeat first|refine Nv.r ?_|refine Jk rfl ?_|(refine JX ?_;conv=>whnf)|(refine JV ?_;(conv=>whnf);show Evs _ _ _ _ _)|refine JJ rfl ?_|refine JK rfl ?_|refine JQ rfl ?_|refine JL rfl rfl ?_|refine JM rfl rfl ?_|refine JN rfl ?_|refine JO rfl ?_|refine JP rfl ?_)
  refine s_loop (σ := Nat × Option Addr × Nat × List (Nat × Obj)) (fun q => [(6, .int .i64 (q.1 : Int)), (5, .int .i64 (d : Int)), (4, .slice q.2.1 (places c d ++ placesD c d q.1).length q.2.2.1), (3, .slice (some ⟨b3, 0, none⟩) 4 4), (1, .pointer (some ⟨b1, 0, none⟩))])
    (fun q w => q.1 ≤ 4 ∧ OwnP q.2.1 (places c d ++ placesD c d q.1).length q.2.2.1 (places c d ++ placesD c d q.1) q.2.2.2 ∧ Dn.Sep w ([(b1, .cells ⟨c.v⟩ 31), (b3, .cells ⟨c.szs.map (Value.int .i64)⟩ 3)] ++ q.2.2.2) F) (fun q => 4 - q.1) (0, ad, cap, Lb)
    ⟨rfl, rfl, ?_, rfl, rfl, trivial⟩ rfl ⟨by simp, by simpa [placesD] using hO, S⟩ ?_
  · simp [placesD]; rfl
  rintro g ⟨a, ad, cap, Lb⟩ w ⟨ha, hO, S⟩
  simp only [setL] at ha hO S ⊢
  (repeat first|refine Nv.r ?_|refine Jk rfl ?_|(refine JX ?_;conv=>whnf)|(refine JV ?_;(conv=>whnf);show Evs _ _ _ _ _)|refine JJ rfl ?_|refine JK rfl ?_|refine JQ rfl ?_|refine JL rfl rfl ?_|refine JM rfl rfl ?_|refine JN rfl ?_|refine JO rfl ?_|refine JP rfl ?_)
  refine s_iteD rfl (fun h2 => ?_) (fun h2 => ?_)
  rotate_left
  · have e : a = 4 := by omega
    subst e
    have e2 : places c d ++ placesD c d 4 = places c (d + 1) := by unfold places; rw [List.range_succ, List.flatMap_append]; simp
    rw [e2] at hO ⊢
    (repeat first|refine Nv.r ?_|refine Jk rfl ?_|(refine JX ?_;conv=>whnf)|(refine JV ?_;(conv=>whnf);show Evs _ _ _ _ _)|refine JJ rfl ?_|refine JK rfl ?_|refine JQ rfl ?_|refine JL rfl rfl ?_|refine JM rfl rfl ?_|refine JN rfl ?_|refine JO rfl ?_|refine JP rfl ?_)
    refine e_add (a := (d : Int)) (b := 1) rfl rfl (by omega) (by omega) ?_
    (repeat first|refine Nv.r ?_|refine Jk rfl ?_|(refine JX ?_;conv=>whnf)|(refine JV ?_;(conv=>whnf);show Evs _ _ _ _ _)|refine JJ rfl ?_|refine JK rfl ?_|refine JQ rfl ?_|refine JL rfl rfl ?_|refine JM rfl rfl ?_|refine JN rfl ?_|refine JO rfl ?_|refine JP rfl ?_)
    exact ⟨rfl, (d + 1, ad, cap, Lb), ⟨rfl, rfl, rfl, rfl, trivial⟩, ⟨by simp only; omega, hO, S⟩, by simp only; omega⟩
  have ha4 : a < 4 := by omega
  have hDa := hlD d a ha
  obtain ⟨n, hn⟩ : ∃ n : Nat, c.szs.getD a 0 = n := ⟨(c.szs.getD a 0).toNat, by have := hsz a ha4; omega⟩
  have hn24 : n ≤ 24 := by have := hsz a ha4; omega
  obtain ⟨B, hB⟩ : ∃ B, places c d ++ placesD c d a = B := ⟨_, rfl⟩
  have hBl : B.length ≤ 1000 := by rw [← hB, List.length_append]; omega
  have hcellA : (c.szs.map (Value.int .i64))[a]? = some (.int .i64 (n : Int)) := by
    rw [← hn]
    have : a = 0 ∨ a = 1 ∨ a = 2 ∨ a = 3 := by omega
    rcases this with rfl | rfl | rfl | rfl <;> rfl
  rw [hB] at hO ⊢
  (repeat first|refine Nv.r ?_|refine Jk rfl ?_|(refine JX ?_;conv=>whnf)|(refine JV ?_;(conv=>whnf);show Evs _ _ _ _ _)|refine JJ rfl ?_|refine JK rfl ?_|refine JQ rfl ?_|refine JL rfl rfl ?_|refine JM rfl rfl ?_|refine JN rfl ?_|refine JO rfl ?_|refine JP rfl ?_)
  refine s_loop (σ := Nat × Option Addr × Nat × List (Nat × Obj)) (fun q => [(7, .int .i64 (q.1 : Int)), (6, .int .i64 (a : Int)), (5, .int .i64 (d : Int)), (4, .slice q.2.1 (B ++ placesA d a q.1).length q.2.2.1), (3, .slice (some ⟨b3, 0, none⟩) 4 4), (1, .pointer (some ⟨b1, 0, none⟩))])
    (fun q w => q.1 ≤ n ∧ OwnP q.2.1 (B ++ placesA d a q.1).length q.2.2.1 (B ++ placesA d a q.1) q.2.2.2 ∧ Dn.Sep w ([(b1, .cells ⟨c.v⟩ 31), (b3, .cells ⟨c.szs.map (Value.int .i64)⟩ 3)] ++ q.2.2.2) F) (fun q => n - q.1) (0, ad, cap, Lb)
    ⟨rfl, rfl, rfl, ?_, rfl, rfl, trivial⟩ rfl ⟨by simp, by simpa [placesA] using hO, S⟩ ?_
  · simp [placesA]; rfl
  rintro g ⟨i, ad, cap, Lb⟩ w ⟨hi, hO, S⟩
  simp only [setL] at hi hO S ⊢
  (repeat first|refine Nv.r ?_|refine Jk rfl ?_|(refine JX ?_;conv=>whnf)|(refine JV ?_;(conv=>whnf);show Evs _ _ _ _ _)|refine JJ rfl ?_|refine JK rfl ?_|refine JQ rfl ?_|refine JL rfl rfl ?_|refine JM rfl rfl ?_|refine JN rfl ?_|refine JO rfl ?_|refine JP rfl ?_)
  refine e_ixa (j := (a : Int)) rfl rfl (by omega) (by omega) ?_
  refine e_ld (v := .int .i64 (n : Int)) (S.cell 1 rfl (by rw [show 0 + ((a : Int)).toNat * 1 = a by omega]; exact hcellA)) ?_
  (repeat first|refine Nv.r ?_|refine Jk rfl ?_|(refine JX ?_;conv=>whnf)|(refine JV ?_;(conv=>whnf);show Evs _ _ _ _ _)|refine JJ rfl ?_|refine JK rfl ?_|refine JQ rfl ?_|refine JL rfl rfl ?_|refine JM rfl rfl ?_|refine JN rfl ?_|refine JO rfl ?_|refine JP rfl ?_)
  refine s_iteD rfl (fun h3 => ?_) (fun h3 => ?_)
  rotate_left
  · have e : i = n := by omega
    subst e
    have e2 : B ++ placesA d a i = places c d ++ placesD c d (a + 1) := by
      rw [← hB]; unfold placesD
      rw [List.range_succ, List.flatMap_append]
      simp only [List.flatMap_cons, List.flatMap_nil, List.append_nil, hn, Int.toNat_natCast, List.append_assoc]
    rw [e2] at hO ⊢
    (repeat first|refine Nv.r ?_|refine Jk rfl ?_|(refine JX ?_;conv=>whnf)|(refine JV ?_;(conv=>whnf);show Evs _ _ _ _ _)|refine JJ rfl ?_|refine JK rfl ?_|refine JQ rfl ?_|refine JL rfl rfl ?_|refine JM rfl rfl ?_|refine JN rfl ?_|refine JO rfl ?_|refine JP rfl ?_)
    refine e_add (a := (a : Int)) (b := 1) rfl rfl (by omega) (by omega) ?_
    (repeat first|refine Nv.r ?_|refine Jk rfl ?_|(refine JX ?_;conv=>whnf)|(refine JV ?_;(conv=>whnf);show Evs _ _ _ _ _)|refine JJ rfl ?_|refine JK rfl ?_|refine JQ rfl ?_|refine JL rfl rfl ?_|refine JM rfl rfl ?_|refine JN rfl ?_|refine JO rfl ?_|refine JP rfl ?_)
    exact ⟨rfl, (a + 1, ad, cap, Lb), ⟨rfl, rfl, rfl, rfl, rfl, trivial⟩, ⟨by simp only; omega, hO, S⟩, by simp only; omega⟩
  obtain ⟨C, hC⟩ : ∃ C, B ++ placesA d a i = C := ⟨_, rfl⟩
  have hCl : C.length ≤ 1100 := by rw [← hC, List.length_append, hlA]; omega
  have hnx : B ++ placesA d a (i + 1) = C ++ [⟨(d : Int), (a : Int) + 1, (i : Int)⟩] := by rw [← hC]; unfold placesA; rw [List.range_succ]; simp
  rw [hC] at hO ⊢
  (repeat first|refine Nv.r ?_|refine Jk rfl ?_|(refine JX ?_;conv=>whnf)|(refine JV ?_;(conv=>whnf);show Evs _ _ _ _ _)|refine JJ rfl ?_|refine JK rfl ?_|refine JQ rfl ?_|refine JL rfl rfl ?_|refine JM rfl rfl ?_|refine JN rfl ?_|refine JO rfl ?_|refine JP rfl ?_)
  refine e_add (a := (a : Int)) (b := 1) rfl rfl (by omega) (by omega) ?_
  (repeat first|refine Nv.r ?_|refine Jk rfl ?_|(refine JX ?_;conv=>whnf)|(refine JV ?_;(conv=>whnf);show Evs _ _ _ _ _)|refine JJ rfl ?_|refine JK rfl ?_|refine JQ rfl ?_|refine JL rfl rfl ?_|refine JM rfl rfl ?_|refine JN rfl ?_|refine JO rfl ?_|refine JP rfl ?_)
  refine e_bsl (size := 3) (xs := (⟨(d : Int), (a : Int) + 1, (i : Int)⟩ : Pl).v) S Tryz.underlying50 rfl rfl ⟨_, rfl⟩ (by omega) (by omega) (fun zs hz => (match zs, hz with | [_, _, _], _ => rfl)) fun bs w S => ?_
  replace S : Dn.Sep w (((bs, .cells ⟨(⟨(d : Int), (a : Int) + 1, (i : Int)⟩ : Pl).v⟩ 53) :: [(b1, .cells ⟨c.v⟩ 31), (b3, .cells ⟨c.szs.map (Value.int .i64)⟩ 3)]) ++ Lb) F := S.perm (List.perm_append_singleton _ _)
  refine e_app (size := 3) (k := 1) (ys := (⟨(d : Int), (a : Int) + 1, (i : Int)⟩ : Pl).v) S hO rfl (src_row Tryz.underlying50 (rowOf_sep S 0 rfl (by simp [Pl.v]) rfl) (by simp [Pl.v, Value.flat])) Tryz.underlying50 rfl rfl rfl rfl (by show (C.length + 1) * 24 ≤ _; omega) (by omega) fun ad' cap' Lb' w hO' S => ?_
  refine e_mvL rfl ?_
  (repeat first|refine Nv.r ?_|refine Jk rfl ?_|(refine JX ?_;conv=>whnf)|(refine JV ?_;(conv=>whnf);show Evs _ _ _ _ _)|refine JJ rfl ?_|refine JK rfl ?_|refine JQ rfl ?_|refine JL rfl rfl ?_|refine JM rfl rfl ?_|refine JN rfl ?_|refine JO rfl ?_|refine JP rfl ?_)
  refine e_add (a := (i : Int)) (b := 1) rfl rfl (by omega) (by omega) ?_
  (repeat first|refine Nv.r ?_|refine Jk rfl ?_|(refine JX ?_;conv=>whnf)|(refine JV ?_;(conv=>whnf);show Evs _ _ _ _ _)|refine JJ rfl ?_|refine JK rfl ?_|refine JQ rfl ?_|refine JL rfl rfl ?_|refine JM rfl rfl ?_|refine JN rfl ?_|refine JO rfl ?_|refine JP rfl ?_)
  refine ⟨rfl, (i + 1, ad', cap', Lb'), ⟨rfl, rfl, rfl, ?_, rfl, rfl, trivial⟩, ⟨by simp only; omega, ?_, Sep.drop (L2 := [_]) S⟩, by simp only; omega⟩
  · simp only [hnx, List.length_append]; rfl
  · simp only [hnx, OwnP, List.flatMap_append, List.length_append]; simpa using hO'

end Go.Proofs.YtjnogknjdjphaaaGreat

/-
  The walks of the laws of layer 20: sanity, short, later, trailer, ready.
-/
namespace Dn
open Go
theorem ckSaveF_ff {c : Ck} : ∀ (k : Nat) (d : Int) (s : Sh) (l : List (Int × Int)), s.ff → (ckSaveF c k d s l).2.1.ff ∧ (ckSaveF c k d s l).2.1.cfg = s.cfg ∧ (ckSaveF c k d s l).2.1.q = s.q
  | 0, _, _, _, h => ⟨h, rfl, rfl⟩
  | k + 1, d, s, l, h => by
    obtain ⟨h1, h2, h3⟩ := ckWrite_ff h d (ckArea s d) c
    simp only [ckSaveF]
    split
    · exact ckSaveF_ff k (d + 1) s l h
    · split
      · exact ⟨h1, h2, h3⟩
      · obtain ⟨k1, k2, k3⟩ := ckSaveF_ff (c := c) k (d + 1) _ (l ++ [(d, ckArea s d)]) h1
        exact ⟨k1, k2.trans h2, k3.trans h3⟩
theorem ckSave_ff {s : Sh} (h : s.ff) (c : Ck) : (ckSave s c).2.2.ff ∧ (ckSave s c).2.2.cfg = s.cfg ∧ (ckSave s c).2.2.q = s.q := by
  have hk := ckSaveF_ff (c := c) s.cfg.disks.toNat 0 s [] h
  unfold ckSave
  repeat' split
  · exact ⟨h, rfl, rfl⟩
  · exact ⟨h, rfl, rfl⟩
  · exact ⟨h, rfl, rfl⟩
  · exact hk
  · exact hk
  · exact hk
def trailN (s : Sec) : Nat := if s.length ≠ 64 then 0 else leN ((s.drop 56).take 4)
def laterC (k : Nat) (s : Sec) : Ck := ⟨⟨1048576, (k : Int)⟩, (k : Int), s⟩
end Dn
namespace Go.Proofs.YtjnogknjdjphaaaGreat
open Dn
attribute [local irreducible] Evs Ev EvT DSpec PSpec CallTo
set_option maxRecDepth 10000
set_option maxHeartbeats 4000000

theorem l20_later (k : Nat) (s : Sec) (hk : k < 65536) : PSpec Tryz.prog 44 [.int .u16 (k : Int), .string ⟨⟨s⟩⟩] (.agg ⟨(laterC k s).v⟩) := by
  refine pspec_of mix Tryz.func44 c44_eq rfl rfl fun w F Q S hQ => ?_
  (repeat first|refine Nv.r ?_|refine Jk rfl ?_)
  refine e_nwE S (cs' := zC.v) rfl fun b4 w S => ?_
  (repeat first|refine Nv.r ?_|refine Jk rfl ?_)
  refine e_mvI rfl ?_
  refine e_p (v := .int .i64 (k : Int)) (congrArg (fun x => some (Value.int .i64 x)) (wrap_id (by omega) (by omega))) ?_
  (first|refine Nv.r ?_|refine Jk rfl ?_|(refine JX ?_;conv=>whnf)|(refine JV ?_;(conv=>whnf);show Evs _ _ _ _ _)|refine JJ rfl ?_|refine JK rfl ?_|refine JQ rfl ?_|refine JL rfl rfl ?_|refine JM rfl rfl ?_|refine JN rfl ?_|refine JO rfl ?_|refine JP rfl ?_)
  refine e_mvI rfl ?_
  refine e_p (v := .int .i64 (k : Int)) (congrArg (fun x => some (Value.int .i64 x)) (wrap_id (by omega) (by omega))) ?_
  (repeat first|refine Nv.r ?_|refine Jk rfl ?_|(refine JX ?_;conv=>whnf)|(refine JV ?_;(conv=>whnf);show Evs _ _ _ _ _)|refine JJ rfl ?_|refine JK rfl ?_|refine JQ rfl ?_|refine JL rfl rfl ?_|refine JM rfl rfl ?_|refine JN rfl ?_|refine JO rfl ?_|refine JP rfl ?_)
  refine e_st (vs := (laterC k s).v) S 0 rfl rfl rfl rfl (by simp [laterC, Ck.v, Value.flat]) (by simp [zC, Ck.v]) fun w S => ?_
  (repeat first|refine Nv.r ?_|refine Jk rfl ?_|(refine JX ?_;conv=>whnf)|(refine JV ?_;(conv=>whnf);show Evs _ _ _ _ _)|refine JJ rfl ?_|refine JK rfl ?_|refine JQ rfl ?_|refine JL rfl rfl ?_|refine JM rfl rfl ?_|refine JN rfl ?_|refine JO rfl ?_|refine JP rfl ?_)
  refine f_ret (vs := [.agg ⟨(laterC k s).v⟩]) rfl (rvs1 ?_) (hQ _ _ _ rfl S)
  exact S.row (vs := (laterC k s).v) 0 rfl (by simp [Ck.v, putAt, laterC, zC]) rfl

theorem l20_trailer (s : Sec) : PSpec Tryz.prog 131 [.string ⟨⟨s⟩⟩] (.int .i64 (trailN s : Int)) := by
  refine pspec_of mix Tryz.func131 c131_eq rfl rfl fun w F Q S hQ => ?_
  (repeat first|refine Nv.r ?_|refine Jk rfl ?_)
  refine e_mvI rfl ?_
  (repeat first|refine Nv.r ?_|refine Jk rfl ?_)
  refine e_mvS rfl ?_
  refine e_p (v := .int .i64 (s.length : Int)) rfl ?_
  refine e_p (cmp_neqD (a := (s.length : Int)) (b := 64) rfl rfl) ?_
  (repeat first|refine Nv.r ?_|refine Jk rfl ?_)
  refine s_iteN rfl (fun h => ?_) (fun h => ?_)
  · (repeat first|refine Nv.r ?_|refine Jk rfl ?_|(refine JX ?_;conv=>whnf)|(refine JV ?_;(conv=>whnf);show Evs _ _ _ _ _)|refine JJ rfl ?_|refine JK rfl ?_|refine JQ rfl ?_|refine JL rfl rfl ?_|refine JM rfl rfl ?_|refine JN rfl ?_|refine JO rfl ?_|refine JP rfl ?_)
    exact f_ret rfl rfl (hQ _ _ _ (by unfold trailN; rw [if_pos (by omega)]; rfl) S)
  have hs : s.length = 64 := by omega
  (repeat first|refine Nv.r ?_|refine Jk rfl ?_|(refine JX ?_;conv=>whnf)|(refine JV ?_;(conv=>whnf);show Evs _ _ _ _ _)|refine JJ rfl ?_|refine JK rfl ?_|refine JQ rfl ?_|refine JL rfl rfl ?_|refine JM rfl rfl ?_|refine JN rfl ?_|refine JO rfl ?_|refine JP rfl ?_)
  refine s_loop (σ := Nat) (fun j => [(4, .int .i64 ((59 : Int) - j)), (3, .int .i64 (leN ((s.drop (60 - j)).take j) : Int)), (0, .string ⟨⟨s⟩⟩)]) (fun j w => j ≤ 4 ∧ Dn.Sep w [] F) (fun j => 4 - j) 0 ⟨rfl, rfl, rfl, trivial⟩ rfl ⟨by omega, S⟩ ?_
  rintro g j w ⟨hj, S⟩
  simp only [setL]
  (repeat first|refine Nv.r ?_|refine Jk rfl ?_|(refine JX ?_;conv=>whnf)|(refine JV ?_;(conv=>whnf);show Evs _ _ _ _ _)|refine JJ rfl ?_|refine JK rfl ?_|refine JQ rfl ?_|refine JL rfl rfl ?_|refine JM rfl rfl ?_|refine JN rfl ?_|refine JO rfl ?_|refine JP rfl ?_)
  refine s_iteD rfl (fun h => ?_) (fun h => ?_)
  rotate_left
  · have e : j = 4 := by omega
    subst e
    (repeat first|refine Nv.r ?_|refine Jk rfl ?_|(refine JX ?_;conv=>whnf)|(refine JV ?_;(conv=>whnf);show Evs _ _ _ _ _)|refine JJ rfl ?_|refine JK rfl ?_|refine JQ rfl ?_|refine JL rfl rfl ?_|refine JM rfl rfl ?_|refine JN rfl ?_|refine JO rfl ?_|refine JP rfl ?_)
    exact f_ret rfl rfl (hQ _ _ _ (by unfold trailN; rw [if_neg (by omega)]; rfl) S)
  obtain ⟨i, hi⟩ : ∃ i : Nat, (59 : Int) - j = i := ⟨59 - j, by omega⟩
  have hil : i < s.length := by omega
  have hnx : (s.drop (60 - (j + 1))).take (j + 1) = s[i] :: (s.drop (60 - j)).take j := by
    rw [show 60 - (j + 1) = i by omega, List.drop_eq_getElem_cons hil, List.take_succ_cons, show 60 - j = i + 1 by omega]
  have hb := UInt8.toNat_lt s[i]
  have hlt := leN_lt ((s.drop (60 - j)).take j)
  have hp : 256 ^ ((s.drop (60 - j)).take j).length ≤ 256 ^ 4 := Nat.pow_le_pow_right (by omega) (by simp; omega)
  rw [hi]
  (repeat first|refine Nv.r ?_|refine Jk rfl ?_|(refine JX ?_;conv=>whnf)|(refine JV ?_;(conv=>whnf);show Evs _ _ _ _ _)|refine JJ rfl ?_|refine JK rfl ?_|refine JQ rfl ?_|refine JL rfl rfl ?_|refine JM rfl rfl ?_|refine JN rfl ?_|refine JO rfl ?_|refine JP rfl ?_)
  refine e_mul rfl rfl (by omega) (by omega) ?_
  (repeat first|refine Nv.r ?_|refine Jk rfl ?_|(refine JX ?_;conv=>whnf)|(refine JV ?_;(conv=>whnf);show Evs _ _ _ _ _)|refine JJ rfl ?_|refine JK rfl ?_|refine JQ rfl ?_|refine JL rfl rfl ?_|refine JM rfl rfl ?_|refine JN rfl ?_|refine JO rfl ?_|refine JP rfl ?_)
  refine e_ixs (u := s[i]) rfl rfl (by omega) (by show (i : Int) < ((s.length : Nat) : Int); omega) (by simp [hil, List.getD_eq_getElem?_getD]) ?_
  refine e_p (v := .int .i64 (s[i].toNat : Int)) (congrArg (fun x => some (Value.int .i64 x)) (wrap_id (by omega) (by omega))) ?_
  refine e_add rfl rfl (by omega) (by omega) ?_
  (repeat first|refine Nv.r ?_|refine Jk rfl ?_|(refine JX ?_;conv=>whnf)|(refine JV ?_;(conv=>whnf);show Evs _ _ _ _ _)|refine JJ rfl ?_|refine JK rfl ?_|refine JQ rfl ?_|refine JL rfl rfl ?_|refine JM rfl rfl ?_|refine JN rfl ?_|refine JO rfl ?_|refine JP rfl ?_)
  refine e_sub (a := (i : Int)) (b := 1) rfl rfl (by omega) (by omega) ?_
  (repeat first|refine Nv.r ?_|refine Jk rfl ?_|(refine JX ?_;conv=>whnf)|(refine JV ?_;(conv=>whnf);show Evs _ _ _ _ _)|refine JJ rfl ?_|refine JK rfl ?_|refine JQ rfl ?_|refine JL rfl rfl ?_|refine JM rfl rfl ?_|refine JN rfl ?_|refine JO rfl ?_|refine JP rfl ?_)
  refine ⟨rfl, j + 1, ⟨?_, ?_, rfl, trivial⟩, ⟨by omega, S⟩, by omega⟩
  · show Value.int .i64 _ = Value.int .i64 _
    congr 1; omega
  · show Value.int .i64 _ = Value.int .i64 _
    congr 1; rw [hnx]; simp only [leN]; omega

theorem l20_short (c : Cfg) : PSpec Tryz.prog 26 [.agg ⟨c.v⟩, .slice none 0 0] (.bool (decide (smallX c))) := by
  refine pspec_of mix Tryz.func26 c26_eq rfl rfl fun w F Q S hQ => ?_
  (repeat first|refine Nv.r ?_|refine Jk rfl ?_|(refine JX ?_;conv=>whnf)|(refine JV ?_;(conv=>whnf);show Evs _ _ _ _ _)|refine JJ rfl ?_|refine JK rfl ?_|refine JQ rfl ?_|refine JL rfl rfl ?_|refine JM rfl rfl ?_|refine JN rfl ?_|refine JO rfl ?_|refine JP rfl ?_)
  refine e_bx S rfl fun b w S => ?_
  (repeat first|refine Nv.r ?_|refine Jk rfl ?_|(refine JX ?_;conv=>whnf)|(refine JV ?_;(conv=>whnf);show Evs _ _ _ _ _)|refine JJ rfl ?_|refine JK rfl ?_|refine JQ rfl ?_|refine JL rfl rfl ?_|refine JM rfl rfl ?_|refine JN rfl ?_|refine JO rfl ?_|refine JP rfl ?_)
  refine e_ld (v := .agg ⟨c.v⟩) (S.row 0 rfl (by simp [Cfg.v]) rfl) ?_
  refine e_callP rfl (r_small c) S fun w S => ?_
  (repeat first|refine Nv.r ?_|refine Jk rfl ?_|(refine JX ?_;conv=>whnf)|(refine JV ?_;(conv=>whnf);show Evs _ _ _ _ _)|refine JJ rfl ?_|refine JK rfl ?_|refine JQ rfl ?_|refine JL rfl rfl ?_|refine JM rfl rfl ?_|refine JN rfl ?_|refine JO rfl ?_|refine JP rfl ?_)
  refine e_brN rfl (fun h => ?_) (fun h => ?_)
  rotate_left
  · (repeat first|refine Nv.r ?_|refine Jk rfl ?_|(refine JX ?_;conv=>whnf)|(refine JV ?_;(conv=>whnf);show Evs _ _ _ _ _)|refine JJ rfl ?_|refine JK rfl ?_|refine JQ rfl ?_|refine JL rfl rfl ?_|refine JM rfl rfl ?_|refine JN rfl ?_|refine JO rfl ?_|refine JP rfl ?_)
    exact f_ret rfl rfl (hQ _ _ _ (congrArg Value.bool (decide_eq_false h).symm) S)
  (repeat first|refine Nv.r ?_|refine Jk rfl ?_|(refine JX ?_;conv=>whnf)|(refine JV ?_;(conv=>whnf);show Evs _ _ _ _ _)|refine JJ rfl ?_|refine JK rfl ?_|refine JQ rfl ?_|refine JL rfl rfl ?_|refine JM rfl rfl ?_|refine JN rfl ?_|refine JO rfl ?_|refine JP rfl ?_)
  refine s_loop (σ := Unit) (fun _ => [(5, .int .i64 0), (1, .slice none 0 0)]) (fun _ w => ∃ L, Dn.Sep w L F) (fun _ => 0) () ⟨rfl, rfl, trivial⟩ rfl ⟨_, S⟩ ?_
  rintro g _ w ⟨L, S⟩
  simp only [setL]
  (repeat first|refine Nv.r ?_|refine Jk rfl ?_|(refine JX ?_;conv=>whnf)|(refine JV ?_;(conv=>whnf);show Evs _ _ _ _ _)|refine JJ rfl ?_|refine JK rfl ?_|refine JQ rfl ?_|refine JL rfl rfl ?_|refine JM rfl rfl ?_|refine JN rfl ?_|refine JO rfl ?_|refine JP rfl ?_)
  exact f_ret rfl rfl (hQ _ _ _ (congrArg Value.bool (decide_eq_true h).symm) S)

end Go.Proofs.YtjnogknjdjphaaaGreat

/-
  The walks of the laws of layer 20: sanity, ready.
-/
namespace Go.Proofs.YtjnogknjdjphaaaGreat
open Dn
attribute [local irreducible] Evs Ev EvT DSpec PSpec CallTo
set_option maxRecDepth 10000
set_option maxHeartbeats 4000000

def sanC : Cfg := ⟨2, 1, 1, 0, 1, 3⟩
def sanK : Ck := ⟨⟨1, 0⟩, 5, [97, 98, 99]⟩
theorem sanC_ok : sanC.ok := by unfold Cfg.ok sanC; decide
theorem l20_sanity : DSpec Tryz.prog 25 [] [] fun v L => v = .bool true ∧ L = [] := by
  refine spec_of mix Tryz.func25 c25_eq rfl rfl fun w F Q S hQ => ?_
  have hnew := sh_newOK sanC_ok (by decide)
  (repeat first|refine Nv.r ?_|refine Jk rfl ?_|(refine JX ?_;conv=>whnf)|(refine JV ?_;(conv=>whnf);show Evs _ _ _ _ _)|refine JJ rfl ?_|refine JK rfl ?_|refine JQ rfl ?_|refine JL rfl rfl ?_|refine JM rfl rfl ?_|refine JN rfl ?_|refine JO rfl ?_|refine JP rfl ?_)
  refine e_callN (vs := [.agg ⟨sanC.v⟩]) rfl hnew S ?_
  rintro _ _ w ⟨s, rfl, rfl, hfr⟩ S
  have hb := fresh_blank sanC_ok hfr
  have hld := w_ckload s hb.cl.ok
  rw [load_blank sanC_ok hb] at hld
  replace S : Dn.Sep w s.L F := S
  (repeat first|refine Nv.r ?_|refine Jk rfl ?_|(refine JX ?_;conv=>whnf)|(refine JV ?_;(conv=>whnf);show Evs _ _ _ _ _)|refine JJ rfl ?_|refine JK rfl ?_|refine JQ rfl ?_|refine JL rfl rfl ?_|refine JM rfl rfl ?_|refine JN rfl ?_|refine JO rfl ?_|refine JP rfl ?_)
  refine e_call (L2 := []) rfl hld S ?_
  rintro _ _ w ⟨rfl, rfl⟩ S
  replace S : Dn.Sep w s.L F := S
  (repeat first|refine Nv.r ?_|refine Jk rfl ?_)
  refine e_mvT rfl ?_
  refine e_p (v := .agg ⟨zC.v⟩) rfl ?_
  refine e_p (v := .int .i64 12) rfl ?_
  refine e_nwE S (cs' := zC.v) rfl fun b3 w S => ?_
  refine e_st (vs := zC.v) S 0 rfl rfl rfl rfl (by simp [zC, Ck.v, Value.flat]) (by simp [zC, Ck.v]) fun w S => ?_
  replace S := Sep.drop (L2 := [_]) S
  (repeat first|refine Nv.r ?_|refine Jk rfl ?_|(refine JX ?_;conv=>whnf)|(refine JV ?_;(conv=>whnf);show Evs _ _ _ _ _)|refine JJ rfl ?_|refine JK rfl ?_|refine JQ rfl ?_|refine JL rfl rfl ?_|refine JM rfl rfl ?_|refine JN rfl ?_|refine JO rfl ?_|refine JP rfl ?_)
  refine e_nwE S (cs' := zC.v) rfl fun b5 w S => ?_
  refine e_st (vs := sanK.v) S 0 rfl rfl rfl rfl (by simp [sanK, Ck.v, Value.flat]) (by simp [zC, Ck.v]) fun w S => ?_
  replace S : Dn.Sep w ([(b5, .cells ⟨sanK.v⟩ 60)] ++ s.L) F := S
  (repeat first|refine Nv.r ?_|refine Jk rfl ?_|(refine JX ?_;conv=>whnf)|(refine JV ?_;(conv=>whnf);show Evs _ _ _ _ _)|refine JJ rfl ?_|refine JK rfl ?_|refine JQ rfl ?_|refine JL rfl rfl ?_|refine JM rfl rfl ?_|refine JN rfl ?_|refine JO rfl ?_|refine JP rfl ?_)
  refine e_ld (v := .agg ⟨sanK.v⟩) (S.row 0 rfl (by simp [Ck.v]) rfl) ?_
  have hcap : (sanK.image.length : Int) ≤ capC sanC := by decide
  have hgo : sanK.gen.ok := by unfold Gn.ok Gn.ok0 sanK; decide
  obtain ⟨s', hsv, hlo, hq⟩ := save_blank (blank_ckj sanC_ok hb sanK) sanC_ok hcap hgo (by decide)
  have hsav := w_cksave s sanK hb.cl.ff (by decide) (by decide)
  have hff := (ckSave_ff hb.cl.ff sanK).1
  rw [hsv] at hsav hff
  simp only at hsav hff
  have hsq : s.v = s'.v := by simp only [Sh.v, hq]
  refine e_call (L2 := [_]) rfl hsav S ?_
  rintro _ _ w ⟨rfl, X, rfl⟩ S
  replace S : Dn.Sep w (((b5, .cells ⟨sanK.v⟩ 60) :: X) ++ s'.L) F := S
  (repeat first|refine Nv.r ?_|refine Jk rfl ?_)
  refine e_mvT rfl ?_
  refine e_p (v := .int .i64 2) rfl ?_
  refine e_p (v := .int .i64 0) rfl ?_
  (repeat first|refine Nv.r ?_|refine Jk rfl ?_|(refine JX ?_;conv=>whnf)|(refine JV ?_;(conv=>whnf);show Evs _ _ _ _ _)|refine JJ rfl ?_|refine JK rfl ?_|refine JQ rfl ?_|refine JL rfl rfl ?_|refine JM rfl rfl ?_|refine JN rfl ?_|refine JO rfl ?_|refine JP rfl ?_)
  have hld2 := w_ckload s' hff.ok
  rw [hlo, ← hsq] at hld2
  refine e_call (L2 := (b5, .cells ⟨sanK.v⟩ 60) :: X) rfl hld2 S ?_
  rintro _ _ w ⟨rfl, rfl⟩ S
  (repeat first|refine Nv.r ?_|refine Jk rfl ?_)
  refine e_mvT rfl ?_
  refine e_p (v := .agg ⟨sanK.v⟩) rfl ?_
  refine e_p (v := .int .i64 0) rfl ?_
  refine e_nwE S (cs' := zC.v) rfl fun b8 w S => ?_
  refine e_st (vs := sanK.v) S 0 rfl rfl rfl rfl (by simp [sanK, Ck.v, Value.flat]) (by simp [zC, Ck.v]) fun w S => ?_
  replace S : Dn.Sep w (((b8, .cells ⟨sanK.v⟩ 60) :: (b5, .cells ⟨sanK.v⟩ 60) :: X) ++ s'.L) F := S
  (repeat first|refine Nv.r ?_|refine Jk rfl ?_|(refine JX ?_;conv=>whnf)|(refine JV ?_;(conv=>whnf);show Evs _ _ _ _ _)|refine JJ rfl ?_|refine JK rfl ?_|refine JQ rfl ?_|refine JL rfl rfl ?_|refine JM rfl rfl ?_|refine JN rfl ?_|refine JO rfl ?_|refine JP rfl ?_)
  refine e_ld (v := .agg ⟨sanK.v⟩) (S.row 0 rfl (by simp [Ck.v]) rfl) ?_
  refine e_gdT rfl ?_
  refine e_ld (v := .agg ⟨sanK.v⟩) (S.row 1 rfl (by simp [Ck.v]) rfl) ?_
  refine e_gdT rfl ?_
  refine e_p (v := .bool true) (by rw [eqs_ck (p := sanK) (q := sanK) rfl rfl, decide_eq_true rfl]) ?_
  (repeat first|refine Nv.r ?_|refine Jk rfl ?_|(refine JX ?_;conv=>whnf)|(refine JV ?_;(conv=>whnf);show Evs _ _ _ _ _)|refine JJ rfl ?_|refine JK rfl ?_|refine JQ rfl ?_|refine JL rfl rfl ?_|refine JM rfl rfl ?_|refine JN rfl ?_|refine JO rfl ?_|refine JP rfl ?_)
  have hcf := sh_config s'
  rw [← hsq] at hcf
  refine e_call (L2 := (b8, .cells ⟨sanK.v⟩ 60) :: (b5, .cells ⟨sanK.v⟩ 60) :: X) rfl hcf S ?_
  rintro _ _ w ⟨rfl, rfl⟩ S
  have hcfg : s'.cfg = sanC := by
    have := (ckSave_ff hb.cl.ff sanK).2.1
    rw [hsv] at this
    rw [this, hb.cfg]
  rw [hcfg]
  refine e_gdT rfl ?_
  refine e_callP rfl (w_capacity sanC (by decide) (by decide)) S fun w S => ?_
  (repeat first|refine Nv.r ?_|refine Jk rfl ?_|(refine JX ?_;conv=>whnf)|(refine JV ?_;(conv=>whnf);show Evs _ _ _ _ _)|refine JJ rfl ?_|refine JK rfl ?_|refine JQ rfl ?_|refine JL rfl rfl ?_|refine JM rfl rfl ?_|refine JN rfl ?_|refine JO rfl ?_|refine JP rfl ?_)
  refine f_ret rfl rfl (hQ _ _ _ ⟨?_, rfl⟩ (Sep.drop (L2 := ((b8, .cells ⟨sanK.v⟩ 60) :: (b5, .cells ⟨sanK.v⟩ 60) :: X) ++ s'.L) (L1 := []) (by rw [List.append_nil]; exact S)))
  show Value.bool (capC sanC == 80) = _
  congr 1

theorem places_len {c : Cfg} (hc : c.ok) (hs : smallX c) (n : Nat) : (places c n).length ≤ 96 * n := by
  have hc' := hc
  unfold Cfg.ok at hc'
  have hs' := hs
  unfold smallX at hs'
  have hsz : ∀ a : Nat, a < 4 → 0 ≤ c.szs.getD a 0 ∧ c.szs.getD a 0 ≤ 24 := by
    intro a ha
    have : a = 0 ∨ a = 1 ∨ a = 2 ∨ a = 3 := by omega
    rcases this with rfl | rfl | rfl | rfl <;> simp [Cfg.szs] <;> omega
  have hlA : ∀ d a n, (placesA d a n).length = n := fun d a n => by simp [placesA]
  have hlD : ∀ d k, k ≤ 4 → (placesD c d k).length ≤ 24 * k := by
    intro d k
    induction k with
    | zero => intro _; simp [placesD]
    | succ k ih =>
      intro hk
      have h1 := hsz k (by omega)
      have h2 := ih (by omega)
      unfold placesD at h2 ⊢
      rw [List.range_succ, List.flatMap_append, List.length_append]
      simp only [List.flatMap_cons, List.flatMap_nil, List.append_nil, hlA]
      omega
  induction n with
  | zero => simp [places]
  | succ n ih =>
    have h2 := hlD n 4 (by omega)
    unfold places at ih ⊢
    rw [List.range_succ, List.flatMap_append, List.length_append]
    simp only [List.flatMap_cons, List.flatMap_nil, List.append_nil]
    omega
theorem l20_ready (c : Cfg) (hs : smallX c) : DSpec Tryz.prog 43 [.agg ⟨c.v⟩, .slice none 0 0] [] fun v L =>
    if c.ok then ∃ s : Sh, v = .tuple ⟨[s.v, .int .i64 c.disks]⟩ ∧ L = s.L ∧ Blank s c else v = .tuple ⟨[.pointer none, .int .i64 0]⟩ ∧ L = [] := by
  refine spec_of mix Tryz.func43 c43_eq rfl rfl fun w F Q S hQ => ?_
  (repeat first|refine Nv.r ?_|refine Jk rfl ?_)
  refine e_bx S rfl fun b2 w S => ?_
  refine e_mvP rfl ?_
  refine e_mvI rfl ?_
  (repeat first|refine Nv.r ?_|refine Jk rfl ?_)
  refine e_ld (v := .agg ⟨c.v⟩) (S.row 0 rfl (by simp [Cfg.v]) rfl) ?_
  by_cases hok : c.ok
  rotate_left
  · refine e_callN rfl (sh_newNo hok) S ?_
    rintro _ _ w ⟨rfl, rfl⟩ S
    (repeat first|refine Nv.r ?_|refine Jk rfl ?_|(refine JX ?_;conv=>whnf)|(refine JV ?_;(conv=>whnf);show Evs _ _ _ _ _)|refine JJ rfl ?_|refine JK rfl ?_|refine JQ rfl ?_|refine JL rfl rfl ?_|refine JM rfl rfl ?_|refine JN rfl ?_|refine JO rfl ?_|refine JP rfl ?_)
    exact f_ret rfl rfl (hQ _ _ [] (by rw [if_neg hok]; exact ⟨rfl, rfl⟩) (Sep.drop (L2 := [_]) S))
  have hok' := hok
  unfold Cfg.ok at hok'
  have hs' := hs
  unfold smallX at hs'
  rw [sectX_ok hok] at hs'
  simp only [if_pos hok] at hQ
  refine e_callN rfl (sh_newOK hok (by omega)) S ?_
  rintro _ _ w ⟨s0, rfl, rfl, hfr⟩ S
  have hb0 := fresh_blank hok hfr
  obtain ⟨d0, hd0⟩ : ∃ n : Nat, c.disks = n := ⟨c.disks.toNat, by omega⟩
  (repeat first|refine Nv.r ?_|refine Jk rfl ?_|(refine JX ?_;conv=>whnf)|(refine JV ?_;(conv=>whnf);show Evs _ _ _ _ _)|refine JJ rfl ?_|refine JK rfl ?_|refine JQ rfl ?_|refine JL rfl rfl ?_|refine JM rfl rfl ?_|refine JN rfl ?_|refine JO rfl ?_|refine JP rfl ?_)
  refine s_loop (σ := Unit) (fun _ => [(8, .int .i64 0), (1, .slice none 0 0), (2, .pointer (some ⟨b2, 0, none⟩)), (6, s0.v)]) (fun _ w => Dn.Sep w ([(b2, .cells ⟨c.v⟩ 31)] ++ s0.L) F) (fun _ => 0) () ⟨rfl, rfl, rfl, rfl, trivial⟩ rfl S ?_
  rintro g _ w S
  simp only [setL]
  (repeat first|refine Nv.r ?_|refine Jk rfl ?_|(refine JX ?_;conv=>whnf)|(refine JV ?_;(conv=>whnf);show Evs _ _ _ _ _)|refine JJ rfl ?_|refine JK rfl ?_|refine JQ rfl ?_|refine JL rfl rfl ?_|refine JM rfl rfl ?_|refine JN rfl ?_|refine JO rfl ?_|refine JP rfl ?_)
  refine e_callF (L2 := [_]) rfl (sh_mount s0 none 0 [] hb0.cl.ok hb0.cl.wf (by simp) (by simp)) S FSl.nil ?_
  rintro v L w rfl S
  obtain ⟨hb, hq⟩ := mount_blank hb0 []
  have hsv : s0.v = (mountW s0 []).v := by simp only [Sh.v, hq]
  rw [hsv]
  obtain ⟨s, hse⟩ : ∃ s, mountW s0 [] = s := ⟨_, rfl⟩
  rw [hse] at hb S ⊢
  (repeat first|refine Nv.r ?_|refine Jk rfl ?_|(refine JX ?_;conv=>whnf)|(refine JV ?_;(conv=>whnf);show Evs _ _ _ _ _)|refine JJ rfl ?_|refine JK rfl ?_|refine JQ rfl ?_|refine JL rfl rfl ?_|refine JM rfl rfl ?_|refine JN rfl ?_|refine JO rfl ?_|refine JP rfl ?_)
  refine s_loop (σ := Nat) (fun k => [(10, .int .i64 (k : Int)), (9, .int .i64 (k : Int)), (2, .pointer (some ⟨b2, 0, none⟩)), (6, s.v)]) (fun k w => k ≤ d0 ∧ Dn.Sep w ([(b2, .cells ⟨c.v⟩ 31)] ++ s.L) F) (fun k => d0 - k) 0 ⟨rfl, rfl, rfl, rfl, trivial⟩ rfl ⟨by omega, S⟩ ?_
  rintro g k w ⟨hk, S⟩
  simp only [setL]
  (repeat first|refine Nv.r ?_|refine Jk rfl ?_|(refine JX ?_;conv=>whnf)|(refine JV ?_;(conv=>whnf);show Evs _ _ _ _ _)|refine JJ rfl ?_|refine JK rfl ?_|refine JQ rfl ?_|refine JL rfl rfl ?_|refine JM rfl rfl ?_|refine JN rfl ?_|refine JO rfl ?_|refine JP rfl ?_)
  refine e_ld (v := .int .i64 (d0 : Int)) (S.cell 0 rfl (by rw [← hd0]; rfl)) ?_
  (repeat first|refine Nv.r ?_|refine Jk rfl ?_|(refine JX ?_;conv=>whnf)|(refine JV ?_;(conv=>whnf);show Evs _ _ _ _ _)|refine JJ rfl ?_|refine JK rfl ?_|refine JQ rfl ?_|refine JL rfl rfl ?_|refine JM rfl rfl ?_|refine JN rfl ?_|refine JO rfl ?_|refine JP rfl ?_)
  refine s_iteD rfl (fun h => ?_) (fun h => ?_)
  · (repeat first|refine Nv.r ?_|refine Jk rfl ?_|(refine JX ?_;conv=>whnf)|(refine JV ?_;(conv=>whnf);show Evs _ _ _ _ _)|refine JJ rfl ?_|refine JK rfl ?_|refine JQ rfl ?_|refine JL rfl rfl ?_|refine JM rfl rfl ?_|refine JN rfl ?_|refine JO rfl ?_|refine JP rfl ?_)
    refine e_call (L2 := [_]) rfl (sh_state s (k : Int)) S ?_
    rintro _ _ w ⟨rfl, rfl⟩ S
    rw [hb.st (k : Int) (by omega) (by omega)]
    (repeat first|refine Nv.r ?_|refine Jk rfl ?_|(refine JX ?_;conv=>whnf)|(refine JV ?_;(conv=>whnf);show Evs _ _ _ _ _)|refine JJ rfl ?_|refine JK rfl ?_|refine JQ rfl ?_|refine JL rfl rfl ?_|refine JM rfl rfl ?_|refine JN rfl ?_|refine JO rfl ?_|refine JP rfl ?_)
    refine e_add (a := (k : Int)) (b := 1) rfl rfl (by omega) (by omega) ?_
    (repeat first|refine Nv.r ?_|refine Jk rfl ?_|(refine JX ?_;conv=>whnf)|(refine JV ?_;(conv=>whnf);show Evs _ _ _ _ _)|refine JJ rfl ?_|refine JK rfl ?_|refine JQ rfl ?_|refine JL rfl rfl ?_|refine JM rfl rfl ?_|refine JN rfl ?_|refine JO rfl ?_|refine JP rfl ?_)
    refine e_add (a := (k : Int)) (b := 1) rfl rfl (by omega) (by omega) ?_
    (repeat first|refine Nv.r ?_|refine Jk rfl ?_|(refine JX ?_;conv=>whnf)|(refine JV ?_;(conv=>whnf);show Evs _ _ _ _ _)|refine JJ rfl ?_|refine JK rfl ?_|refine JQ rfl ?_|refine JL rfl rfl ?_|refine JM rfl rfl ?_|refine JN rfl ?_|refine JO rfl ?_|refine JP rfl ?_)
    exact ⟨rfl, k + 1, ⟨rfl, rfl, rfl, rfl, trivial⟩, ⟨by omega, S⟩, by omega⟩
  have hke : k = d0 := by omega
  subst hke
  (repeat first|refine Nv.r ?_|refine Jk rfl ?_|(refine JX ?_;conv=>whnf)|(refine JV ?_;(conv=>whnf);show Evs _ _ _ _ _)|refine JJ rfl ?_|refine JK rfl ?_|refine JQ rfl ?_|refine JL rfl rfl ?_|refine JM rfl rfl ?_|refine JN rfl ?_|refine JO rfl ?_|refine JP rfl ?_)
  refine e_ld (v := .agg ⟨c.v⟩) (S.row 0 rfl (by simp [Cfg.v]) rfl) ?_
  refine e_callN rfl (r_places c hok hs) S ?_
  rintro _ Lp w ⟨ad, cap, rfl, hO⟩ S
  have hpb := places_len hok hs c.disks.toNat
  obtain ⟨ps, hps⟩ : ∃ ps, places c c.disks.toNat = ps := ⟨_, rfl⟩
  rw [hps] at hO hpb ⊢
  have hpl : ps.length ≤ cap := hO.le
  (repeat first|refine Nv.r ?_|refine Jk rfl ?_|(refine JX ?_;conv=>whnf)|(refine JV ?_;(conv=>whnf);show Evs _ _ _ _ _)|refine JJ rfl ?_|refine JK rfl ?_|refine JQ rfl ?_|refine JL rfl rfl ?_|refine JM rfl rfl ?_|refine JN rfl ?_|refine JO rfl ?_|refine JP rfl ?_)
  refine s_loop (σ := Nat × List (Nat × Obj)) (fun q => [(12, .int .i64 (q.1 : Int)), (11, .slice ad ps.length cap), (6, s.v), (9, .int .i64 (k : Int))]) (fun q w => q.1 ≤ ps.length ∧ Dn.Sep w ((Lp ++ ((b2, .cells ⟨c.v⟩ 31) :: q.2)) ++ s.L) F) (fun q => ps.length - q.1) (0, []) ⟨rfl, rfl, rfl, rfl, trivial⟩ rfl ⟨by omega, S.perm ?_⟩ ?_
  · simp only [List.append_assoc, List.cons_append, List.nil_append]
    exact (List.perm_append_comm (l₁ := _ :: s.L) (l₂ := Lp))
  rintro g ⟨i, Y⟩ w ⟨hi, S⟩
  simp only [setL] at hi S ⊢
  (repeat first|refine Nv.r ?_|refine Jk rfl ?_|(refine JX ?_;conv=>whnf)|(refine JV ?_;(conv=>whnf);show Evs _ _ _ _ _)|refine JJ rfl ?_|refine JK rfl ?_|refine JQ rfl ?_|refine JL rfl rfl ?_|refine JM rfl rfl ?_|refine JN rfl ?_|refine JO rfl ?_|refine JP rfl ?_)
  refine s_iteD rfl (fun h => ?_) (fun h => ?_)
  rotate_left
  · have e : i = ps.length := by omega
    subst e
    (repeat first|refine Nv.r ?_|refine Jk rfl ?_|(refine JX ?_;conv=>whnf)|(refine JV ?_;(conv=>whnf);show Evs _ _ _ _ _)|refine JJ rfl ?_|refine JK rfl ?_|refine JQ rfl ?_|refine JL rfl rfl ?_|refine JM rfl rfl ?_|refine JN rfl ?_|refine JO rfl ?_|refine JP rfl ?_)
    exact f_ret rfl rfl (hQ (.tuple ⟨[s.v, .int .i64 (k : Int)]⟩) _ _ ⟨s, by rw [hd0], rfl, hb⟩ (Sep.drop S))
  have hii : i < ps.length := by omega
  have hpk := blank_peek hok hb ps[i]
  have hlv : ∃ (P : Pl) (e : Int), (e = 0 ∨ e = 1 ∨ e = 7) ∧ labelV (s.peekO ps[i]).1 = .tuple ⟨[.agg ⟨P.v⟩, .agg ⟨zG.v⟩, .int .i64 e]⟩ := by
    rcases hpk with e | e <;> rw [e]
    · exact ⟨zP, 1, by omega, rfl⟩
    · unfold labelV
      rw [if_neg (by decide)]
      split
      · exact ⟨lblP zsec, 0, by omega, by rw [show lblG zsec = zG by decide]⟩
      · exact ⟨zP, 7, by omega, rfl⟩
  have htr : trailN (s.peekO ps[i]).1 = 0 := by
    rcases hpk with e | e <;> rw [e] <;> decide
  obtain ⟨P, e, he, hlv⟩ := hlv
  (repeat first|refine Nv.r ?_|refine Jk rfl ?_|(refine JX ?_;conv=>whnf)|(refine JV ?_;(conv=>whnf);show Evs _ _ _ _ _)|refine JJ rfl ?_|refine JK rfl ?_|refine JQ rfl ?_|refine JL rfl rfl ?_|refine JM rfl rfl ?_|refine JN rfl ?_|refine JO rfl ?_|refine JP rfl ?_)
  obtain ⟨bp, sp, lo, hi', rfl, -, -, rfl⟩ : ∃ b sp lo hi, ad = some ⟨b, 0, none⟩ ∧ True ∧ True ∧ Lp = [(b, .cells ⟨ps.flatMap Pl.v ++ sp⟩ 53 (lo, hi))] := by
    rcases hO.own with ⟨_, h2, _⟩ | ⟨b, sp, lo, hi, h1, _, _, h2⟩
    · omega
    · exact ⟨b, sp, lo, hi, h1, trivial, trivial, h2⟩
  have hfl := pl_flat ps
  have hrow : ((ps.flatMap Pl.v ++ sp).drop (0 + i * 3)).take 3 = (ps[i]).v := by
    rw [Nat.zero_add, List.drop_append_of_le_length (by omega), List.take_append_of_le_length (by simp only [List.length_drop]; omega)]
    exact pl_row hii
  refine e_ixa (j := (i : Int)) rfl rfl (by omega) (by omega) ?_
  refine e_ld (v := .agg ⟨(ps[i]).v⟩) (S.row 0 rfl (by simp only [List.length_append]; omega) hrow) ?_
  refine e_call (L2 := _ :: _ :: Y) rfl (sh_peek s ps[i] hb.cl.ok) S ?_
  rintro _ _ w ⟨rfl, rfl⟩ S
  (repeat first|refine Nv.r ?_|refine Jk rfl ?_)
  refine e_mvT rfl ?_
  refine e_p (v := .string ⟨⟨(s.peekO ps[i]).1⟩⟩) rfl ?_
  refine e_p (v := .bool (s.peekO ps[i]).2) rfl ?_
  refine e_mvS rfl ?_
  refine e_mvB rfl ?_
  (repeat first|refine Nv.r ?_|refine Jk rfl ?_)
  refine e_mvS rfl ?_
  refine e_callP rfl (r_label (s.peekO ps[i]).1) S fun w S => ?_
  rw [hlv]
  refine e_mvT rfl ?_
  refine e_p (v := .agg ⟨P.v⟩) rfl ?_
  refine e_p (v := .agg ⟨zG.v⟩) rfl ?_
  refine e_p (v := .int .i64 e) rfl ?_
  refine e_nwE S (cs' := zP.v) rfl fun b15 w S => ?_
  refine e_nwE S (cs' := zG.v) rfl fun b16 w S => ?_
  refine e_st (vs := P.v) S 1 rfl rfl rfl rfl (by simp [Pl.v, Value.flat]) (by simp [zP, Pl.v]) fun w S => ?_
  refine e_st (vs := zG.v) S 0 rfl rfl rfl rfl (by simp [zG, Gn.v, Value.flat]) (by simp [zG, Gn.v]) fun w S => ?_
  replace S : Dn.Sep w (((b16, .cells ⟨zG.v⟩ 58) :: (b15, .cells ⟨P.v⟩ 53) :: (bp, .cells ⟨ps.flatMap Pl.v ++ sp⟩ 53 (lo, hi')) :: (b2, .cells ⟨c.v⟩ 31) :: (Y ++ s.L))) F := S
  (repeat first|refine Nv.r ?_|refine Jk rfl ?_|(refine JX ?_;conv=>whnf)|(refine JV ?_;(conv=>whnf);show Evs _ _ _ _ _)|refine JJ rfl ?_|refine JK rfl ?_|refine JQ rfl ?_|refine JL rfl rfl ?_|refine JM rfl rfl ?_|refine JN rfl ?_|refine JO rfl ?_|refine JP rfl ?_)
  rcases he with rfl | rfl | rfl
  all_goals
    (repeat first|refine Nv.r ?_|refine Jk rfl ?_|(refine JX ?_;conv=>whnf)|(refine JV ?_;(conv=>whnf);show Evs _ _ _ _ _)|refine JJ rfl ?_|refine JK rfl ?_|refine JQ rfl ?_|refine JL rfl rfl ?_|refine JM rfl rfl ?_|refine JN rfl ?_|refine JO rfl ?_|refine JP rfl ?_)
    try
      refine e_ld (v := .int .i64 0) (S.cell 0 rfl rfl) ?_
      (repeat first|refine Nv.r ?_|refine Jk rfl ?_|(refine JX ?_;conv=>whnf)|(refine JV ?_;(conv=>whnf);show Evs _ _ _ _ _)|refine JJ rfl ?_|refine JK rfl ?_|refine JQ rfl ?_|refine JL rfl rfl ?_|refine JM rfl rfl ?_|refine JN rfl ?_|refine JO rfl ?_|refine JP rfl ?_)
    refine e_callP rfl (l20_trailer (s.peekO ps[i]).1) S fun w S => ?_
    rw [htr]
    (repeat first|refine Nv.r ?_|refine Jk rfl ?_|(refine JX ?_;conv=>whnf)|(refine JV ?_;(conv=>whnf);show Evs _ _ _ _ _)|refine JJ rfl ?_|refine JK rfl ?_|refine JQ rfl ?_|refine JL rfl rfl ?_|refine JM rfl rfl ?_|refine JN rfl ?_|refine JO rfl ?_|refine JP rfl ?_)
    refine e_add (a := (i : Int)) (b := 1) rfl rfl (by omega) (by omega) ?_
    (repeat first|refine Nv.r ?_|refine Jk rfl ?_|(refine JX ?_;conv=>whnf)|(refine JV ?_;(conv=>whnf);show Evs _ _ _ _ _)|refine JJ rfl ?_|refine JK rfl ?_|refine JQ rfl ?_|refine JL rfl rfl ?_|refine JM rfl rfl ?_|refine JN rfl ?_|refine JO rfl ?_|refine JP rfl ?_)
    refine ⟨rfl, (i + 1, (b16, .cells ⟨zG.v⟩ 58) :: (b15, .cells ⟨P.v⟩ 53) :: Y), ⟨rfl, rfl, rfl, rfl, trivial⟩, ⟨by simp only; omega, S.perm ?_⟩, by simp only; omega⟩
    exact List.perm_append_comm (l₁ := [_, _]) (l₂ := _ :: _ :: []) |>.append_right (Y ++ s.L)

end Go.Proofs.YtjnogknjdjphaaaGreat

/-
  The walk of CkptCapacityIsReached.
-/
namespace Dn
open Go
def fillB (f : UInt8) (n : Nat) : List UInt8 := (List.range n).map fun i => f + UInt8.ofNat i
def fillV (f : UInt8) (n i : Nat) : List Value := bcells (fillB f i) ++ List.replicate (n - i) (.int .u8 0)
theorem fillB_len (f : UInt8) (n : Nat) : (fillB f n).length = n := by simp [fillB]
theorem fillB_succ (f : UInt8) (n : Nat) : fillB f (n + 1) = fillB f n ++ [f + UInt8.ofNat n] := by simp [fillB, List.range_succ]
theorem fillV_len (f : UInt8) {n i : Nat} (h : i ≤ n) : (fillV f n i).length = n := by
  simp only [fillV, List.length_append, bcells_len, fillB_len, List.length_replicate]; omega
theorem fillV_put (f : UInt8) {n i : Nat} (h : i < n) : putAt (fillV f n i) (0 + i * 1) [.int .u8 ((f + UInt8.ofNat i).toNat : Int)] = fillV f n (i + 1) := by
  rw [Nat.zero_add, Nat.mul_one]
  have hl : (bcells (fillB f i)).length = i := by rw [bcells_len, fillB_len]
  unfold putAt fillV
  rw [List.take_append_of_le_length (by omega), List.take_of_length_le (by omega), List.drop_append, List.drop_of_length_le (by omega), hl, fillB_succ, show ∀ a b : List UInt8, bcells (a ++ b) = bcells a ++ bcells b from fun a b => by simp [bcells], List.nil_append, List.append_assoc]
  congr 1
  show _ :: _ = _ :: _
  congr 1
  rw [List.drop_replicate]
  show List.replicate (n - i - (i + 1 - i)) _ = [] ++ _
  rw [List.nil_append]; congr 1; omega
theorem u8_fill (f : UInt8) (i : Nat) : IntKind.u8.wrap ((f.toNat : Int) + IntKind.u8.wrap (i : Int)) = ((f + UInt8.ofNat i).toNat : Int) := by
  have := UInt8.toNat_lt f
  simp [IntKind.wrap, IntKind.bits, IntKind.signed, IntKind.min]
end Dn
namespace Go.Proofs.YtjnogknjdjphaaaGreat
open Dn
attribute [local irreducible] Evs Ev EvT DSpec PSpec CallTo
set_option maxRecDepth 10000
set_option maxHeartbeats 4000000

theorem law_capacity (c : Cfg) (f : UInt8) : DSpecF Tryz.prog 6 [.agg ⟨c.v⟩, .int .u8 (f.toNat : Int)] [] (fun _ => True) fun v _ => v = .bool true := by
  refine specF_of mix Tryz.func6 c6_eq rfl rfl fun w F Q _ S hQ => ?_
  (repeat first|refine Nv.r ?_|refine Jk rfl ?_)
  refine e_bx S rfl fun b2 w S => ?_
  (repeat first|refine Nv.r ?_|refine Jk rfl ?_|(refine JX ?_;conv=>whnf)|(refine JV ?_;(conv=>whnf);show Evs _ _ _ _ _)|refine JJ rfl ?_|refine JK rfl ?_|refine JQ rfl ?_|refine JL rfl rfl ?_|refine JM rfl rfl ?_|refine JN rfl ?_|refine JO rfl ?_|refine JP rfl ?_)
  refine e_callN rfl l20_sanity S ?_
  rintro _ _ w ⟨rfl, rfl⟩ S
  rw [List.append_nil] at S
  (repeat first|refine Nv.r ?_|refine Jk rfl ?_|(refine JX ?_;conv=>whnf)|(refine JV ?_;(conv=>whnf);show Evs _ _ _ _ _)|refine JJ rfl ?_|refine JK rfl ?_|refine JQ rfl ?_|refine JL rfl rfl ?_|refine JM rfl rfl ?_|refine JN rfl ?_|refine JO rfl ?_|refine JP rfl ?_)
  refine e_ld (v := .agg ⟨c.v⟩) (S.row 0 rfl (by simp [Cfg.v]) rfl) ?_
  (repeat first|refine Nv.r ?_|refine Jk rfl ?_|(refine JX ?_;conv=>whnf)|(refine JV ?_;(conv=>whnf);show Evs _ _ _ _ _)|refine JJ rfl ?_|refine JK rfl ?_|refine JQ rfl ?_|refine JL rfl rfl ?_|refine JM rfl rfl ?_|refine JN rfl ?_|refine JO rfl ?_|refine JP rfl ?_)
  refine e_callP rfl (l20_short c) S fun w S => ?_
  by_cases hs : smallX c
  rotate_left
  · rw [decide_eq_false hs]
    (repeat first|refine Nv.r ?_|refine Jk rfl ?_|(refine JX ?_;conv=>whnf)|(refine JV ?_;(conv=>whnf);show Evs _ _ _ _ _)|refine JJ rfl ?_|refine JK rfl ?_|refine JQ rfl ?_|refine JL rfl rfl ?_|refine JM rfl rfl ?_|refine JN rfl ?_|refine JO rfl ?_|refine JP rfl ?_)
    exact f_ret rfl rfl (hQ _ _ _ rfl S)
  rw [decide_eq_true hs]
  (repeat first|refine Nv.r ?_|refine Jk rfl ?_|(refine JX ?_;conv=>whnf)|(refine JV ?_;(conv=>whnf);show Evs _ _ _ _ _)|refine JJ rfl ?_|refine JK rfl ?_|refine JQ rfl ?_|refine JL rfl rfl ?_|refine JM rfl rfl ?_|refine JN rfl ?_|refine JO rfl ?_|refine JP rfl ?_)
  refine e_ld (v := .agg ⟨c.v⟩) (S.row 0 rfl (by simp [Cfg.v]) rfl) ?_
  refine e_callN rfl (l20_ready c hs) S ?_
  by_cases hok : c.ok
  rotate_left
  · simp only [if_neg hok]
    rintro _ _ w ⟨rfl, rfl⟩ S
    (repeat first|refine Nv.r ?_|refine Jk rfl ?_|(refine JX ?_;conv=>whnf)|(refine JV ?_;(conv=>whnf);show Evs _ _ _ _ _)|refine JJ rfl ?_|refine JK rfl ?_|refine JQ rfl ?_|refine JL rfl rfl ?_|refine JM rfl rfl ?_|refine JN rfl ?_|refine JO rfl ?_|refine JP rfl ?_)
    exact f_ret rfl rfl (hQ _ _ _ rfl S)
  simp only [if_pos hok]
  rintro _ _ w ⟨s, rfl, rfl, hb⟩ S
  have hok' := hok
  unfold Cfg.ok at hok'
  have hs' := hs
  unfold smallX at hs'
  rw [sectX_ok hok] at hs'
  obtain ⟨n, hn⟩ : ∃ n : Nat, capC c = n := ⟨(capC c).toNat, by unfold capC; split <;> omega⟩
  have hn2 : (n : Int) = 40 * (c.image - 1) := by rw [← hn]; unfold capC; rw [if_neg (by omega)]; omega
  (repeat first|refine Nv.r ?_|refine Jk rfl ?_|(refine JX ?_;conv=>whnf)|(refine JV ?_;(conv=>whnf);show Evs _ _ _ _ _)|refine JJ rfl ?_|refine JK rfl ?_|refine JQ rfl ?_|refine JL rfl rfl ?_|refine JM rfl rfl ?_|refine JN rfl ?_|refine JO rfl ?_|refine JP rfl ?_)
  refine e_ld (v := .agg ⟨c.v⟩) (S.row 0 rfl (by simp [Cfg.v]) rfl) ?_
  refine e_callP rfl (w_capacity c (by omega) (by omega)) S fun w S => ?_
  rw [hn]
  refine e_add (a := (n : Int)) (b := 1) rfl rfl (by omega) (by omega) ?_
  rw [show ((n : Int) + 1) = ((n + 1 : Nat) : Int) by omega]
  refine e_mksl (n := n + 1) (size := 1) S rfl rfl Tryz.underlying43 rfl rfl ⟨_, rfl, rfl⟩ (by omega) (by decide) fun b8 w S => ?_
  have e0 : List.replicate ((n + 1) * 1) (Value.int .u8 0) = fillV f (n + 1) 0 := by simp [fillV, fillB, bcells]
  rw [e0] at S
  replace S : Dn.Sep w ([(b8, .cells ⟨fillV f (n + 1) 0⟩ 5), (b2, .cells ⟨c.v⟩ 31)] ++ s.L) F := S.perm (List.perm_append_comm (l₂ := [_]))
  (repeat first|refine Nv.r ?_|refine Jk rfl ?_|(refine JX ?_;conv=>whnf)|(refine JV ?_;(conv=>whnf);show Evs _ _ _ _ _)|refine JJ rfl ?_|refine JK rfl ?_|refine JQ rfl ?_|refine JL rfl rfl ?_|refine JM rfl rfl ?_|refine JN rfl ?_|refine JO rfl ?_|refine JP rfl ?_)
  refine s_loop (σ := Nat) (fun i => [(9, .int .i64 (i : Int)), (8, .slice (some ⟨b8, 0, none⟩) (n + 1) (n + 1)), (1, .int .u8 (f.toNat : Int)), (2, .pointer (some ⟨b2, 0, none⟩)), (5, .bool true), (6, s.v), (7, .int .i64 c.disks)])
    (fun i w => i ≤ n + 1 ∧ Dn.Sep w ([(b8, .cells ⟨fillV f (n + 1) i⟩ 5), (b2, .cells ⟨c.v⟩ 31)] ++ s.L) F) (fun i => n + 1 - i) 0 ⟨rfl, rfl, rfl, rfl, rfl, rfl, rfl, trivial⟩ rfl ⟨by omega, S⟩ ?_
  rintro g i w ⟨hi, S⟩
  simp only [setL]
  (repeat first|refine Nv.r ?_|refine Jk rfl ?_|(refine JX ?_;conv=>whnf)|(refine JV ?_;(conv=>whnf);show Evs _ _ _ _ _)|refine JJ rfl ?_|refine JK rfl ?_|refine JQ rfl ?_|refine JL rfl rfl ?_|refine JM rfl rfl ?_|refine JN rfl ?_|refine JO rfl ?_|refine JP rfl ?_)
  refine s_iteD rfl (fun h => ?_) (fun h => ?_)
  · (repeat first|refine Nv.r ?_|refine Jk rfl ?_|(refine JX ?_;conv=>whnf)|(refine JV ?_;(conv=>whnf);show Evs _ _ _ _ _)|refine JJ rfl ?_|refine JK rfl ?_|refine JQ rfl ?_|refine JL rfl rfl ?_|refine JM rfl rfl ?_|refine JN rfl ?_|refine JO rfl ?_|refine JP rfl ?_)
    refine e_arv (u := .int .u8 (f.toNat : Int)) (v := .int .u8 (IntKind.u8.wrap (i : Int))) (r := .int .u8 (IntKind.u8.wrap ((f.toNat : Int) + IntKind.u8.wrap (i : Int)))) rfl rfl rfl ?_
    rw [u8_fill]
    (repeat first|refine Nv.r ?_|refine Jk rfl ?_|(refine JX ?_;conv=>whnf)|(refine JV ?_;(conv=>whnf);show Evs _ _ _ _ _)|refine JJ rfl ?_|refine JK rfl ?_|refine JQ rfl ?_|refine JL rfl rfl ?_|refine JM rfl rfl ?_|refine JN rfl ?_|refine JO rfl ?_|refine JP rfl ?_)
    refine e_ixa (j := (i : Int)) rfl rfl (by omega) (by omega) ?_
    refine e_st (vs := [.int .u8 ((f + UInt8.ofNat i).toNat : Int)]) S 0 rfl rfl rfl rfl (by simp [Value.flat]) (by rw [fillV_len f hi]; show 0 + i * 1 + 1 ≤ _; omega) fun w S => ?_
    rw [show (0 + (i : Int).toNat * 1) = 0 + i * 1 by simp, fillV_put f (by omega)] at S
    (repeat first|refine Nv.r ?_|refine Jk rfl ?_|(refine JX ?_;conv=>whnf)|(refine JV ?_;(conv=>whnf);show Evs _ _ _ _ _)|refine JJ rfl ?_|refine JK rfl ?_|refine JQ rfl ?_|refine JL rfl rfl ?_|refine JM rfl rfl ?_|refine JN rfl ?_|refine JO rfl ?_|refine JP rfl ?_)
    refine e_add (a := (i : Int)) (b := 1) rfl rfl (by omega) (by omega) ?_
    (repeat first|refine Nv.r ?_|refine Jk rfl ?_|(refine JX ?_;conv=>whnf)|(refine JV ?_;(conv=>whnf);show Evs _ _ _ _ _)|refine JJ rfl ?_|refine JK rfl ?_|refine JQ rfl ?_|refine JL rfl rfl ?_|refine JM rfl rfl ?_|refine JN rfl ?_|refine JO rfl ?_|refine JP rfl ?_)
    exact ⟨rfl, i + 1, ⟨rfl, rfl, rfl, rfl, rfl, rfl, rfl, trivial⟩, ⟨by omega, S⟩, by omega⟩
  have e : i = n + 1 := by omega
  subst e
  have e1 : fillV f (n + 1) (n + 1) = bcells (fillB f (n + 1)) := by simp [fillV]
  rw [e1] at S
  have hln : (bcells (fillB f (n + 1))).length = n + 1 := by rw [bcells_len, fillB_len]
  (repeat first|refine Nv.r ?_|refine Jk rfl ?_|(refine JX ?_;conv=>whnf)|(refine JV ?_;(conv=>whnf);show Evs _ _ _ _ _)|refine JJ rfl ?_|refine JK rfl ?_|refine JQ rfl ?_|refine JL rfl rfl ?_|refine JM rfl rfl ?_|refine JN rfl ?_|refine JO rfl ?_|refine JP rfl ?_)
  refine e_b2s (S.str 0 (s := fillB f (n + 1)) rfl (by omega) (by rw [List.drop_zero, List.take_of_length_le (by omega)]; rfl)) ?_
  refine e_callP rfl (l20_later 1 (fillB f (n + 1)) (by omega)) S fun w S => ?_
  have hsv1 := w_cksave s (laterC 1 (fillB f (n + 1))) hb.cl.ff (by show (1 : Int) < _; omega) (by show (fillB f (n + 1)).length < _; rw [fillB_len]; omega)
  have hgk : Gn.ok ⟨1048576, 1⟩ := by unfold Gn.ok Gn.ok0; simp only; omega
  have hck1 : ckSave s (laterC 1 (fillB f (n + 1))) = (0, 2, s) := by
    unfold ckSave
    rw [if_neg (by rintro (h | h); exact absurd h (by show ¬ ((1 : Nat) : Int) < 0; omega); exact h hgk), if_pos (by rw [hb.cfg, hn]; show _ < ((fillB f (n + 1)).length : Int); rw [fillB_len]; omega)]
  rw [hck1] at hsv1
  refine e_call (L2 := [_, _]) rfl hsv1 S ?_
  rintro _ _ w ⟨rfl, X, rfl⟩ S
  replace S : Dn.Sep w ([(b8, .cells ⟨bcells (fillB f (n + 1))⟩ 5), (b2, .cells ⟨c.v⟩ 31)] ++ (X ++ s.L)) F := S
  (repeat first|refine Nv.r ?_|refine Jk rfl ?_)
  refine e_mvT rfl ?_
  refine e_p (v := .int .i64 0) rfl ?_
  refine e_p (v := .int .i64 2) rfl ?_
  (repeat first|refine Nv.r ?_|refine Jk rfl ?_|(refine JX ?_;conv=>whnf)|(refine JV ?_;(conv=>whnf);show Evs _ _ _ _ _)|refine JJ rfl ?_|refine JK rfl ?_|refine JQ rfl ?_|refine JL rfl rfl ?_|refine JM rfl rfl ?_|refine JN rfl ?_|refine JO rfl ?_|refine JP rfl ?_)
  refine e_sub (a := ((n + 1 : Nat) : Int)) (b := 1) rfl rfl (by omega) (by omega) ?_
  refine e_sll (a := 0) (b := n) rfl (bnd_s rfl (by omega) (by omega)) rfl ?_
  have hlb : (fillB f (n + 1)).take n = fillB f n := by rw [fillB_succ, List.take_append_of_le_length (by rw [fillB_len]; omega), List.take_of_length_le (by rw [fillB_len]; omega)]
  rw [if_neg (by omega)]
  refine e_b2s (S.str 0 (s := fillB f n) rfl (by show 0 + n ≤ _; omega) (by rw [← hlb]; show ((bcells _).drop 0).take n = _; rw [List.drop_zero]; simp only [bcells, List.map_take]; rfl)) ?_
  refine e_callP rfl (l20_later 2 (fillB f n) (by omega)) S fun w S => ?_
  obtain ⟨K, hK⟩ : ∃ K, laterC 2 (fillB f n) = K := ⟨_, rfl⟩
  have hKl : (K.image.length : Int) = n := by rw [← hK]; show ((fillB f n).length : Int) = n; rw [fillB_len]
  have hKg : K.gen.ok := by rw [← hK]; unfold Gn.ok Gn.ok0 laterC; simp only; omega
  have hKs : 0 ≤ K.seq ∧ K.seq < 9223372036854775808 := by rw [← hK]; exact ⟨by show (0 : Int) ≤ 2; omega, by show (2 : Int) < _; omega⟩
  rw [hK]
  refine e_nwE S (cs' := zC.v) rfl fun b12 w S => ?_
  refine e_st (vs := K.v) S 0 rfl rfl rfl rfl (by simp [Ck.v, Value.flat]) (by simp [zC, Ck.v]) fun w S => ?_
  replace S : Dn.Sep w ((((b12, .cells ⟨K.v⟩ 60) :: (b8, .cells ⟨bcells (fillB f (n + 1))⟩ 5) :: (b2, .cells ⟨c.v⟩ 31) :: X)) ++ s.L) F := S
  (repeat first|refine Nv.r ?_|refine Jk rfl ?_|(refine JX ?_;conv=>whnf)|(refine JV ?_;(conv=>whnf);show Evs _ _ _ _ _)|refine JJ rfl ?_|refine JK rfl ?_|refine JQ rfl ?_|refine JL rfl rfl ?_|refine JM rfl rfl ?_|refine JN rfl ?_|refine JO rfl ?_|refine JP rfl ?_)
  refine e_ld (v := .agg ⟨K.v⟩) (S.row 0 rfl (by simp [Ck.v]) rfl) ?_
  obtain ⟨s', hsv, hlo, hq⟩ := save_blank (blank_ckj hok hb K) hok (by rw [hKl, hn]; omega) hKg hKs
  have hsav := w_cksave s K hb.cl.ff hKs.2 (by omega)
  have hff := (ckSave_ff hb.cl.ff K).1
  rw [hsv] at hsav hff
  simp only at hsav hff
  have hsq : s.v = s'.v := by simp only [Sh.v, hq]
  refine e_call (L2 := _ :: _ :: _ :: X) rfl hsav S ?_
  rintro _ _ w ⟨rfl, Y, rfl⟩ S
  replace S : Dn.Sep w ((((b12, .cells ⟨K.v⟩ 60) :: (b8, .cells ⟨bcells (fillB f (n + 1))⟩ 5) :: (b2, .cells ⟨c.v⟩ 31) :: X)) ++ (Y ++ s'.L)) F := S
  rw [← List.append_assoc] at S
  (repeat first|refine Nv.r ?_|refine Jk rfl ?_)
  refine e_mvT rfl ?_
  refine e_p (v := .int .i64 c.disks) rfl ?_
  refine e_p (v := .int .i64 0) rfl ?_
  (repeat first|refine Nv.r ?_|refine Jk rfl ?_|(refine JX ?_;conv=>whnf)|(refine JV ?_;(conv=>whnf);show Evs _ _ _ _ _)|refine JJ rfl ?_|refine JK rfl ?_|refine JQ rfl ?_|refine JL rfl rfl ?_|refine JM rfl rfl ?_|refine JN rfl ?_|refine JO rfl ?_|refine JP rfl ?_)
  have hld2 := w_ckload s' hff.ok
  rw [hlo, ← hsq] at hld2
  refine e_call (L2 := (_ :: _ :: _ :: X) ++ Y) rfl hld2 S ?_
  rintro _ _ w ⟨rfl, rfl⟩ S
  (repeat first|refine Nv.r ?_|refine Jk rfl ?_)
  refine e_mvT rfl ?_
  refine e_p (v := .agg ⟨K.v⟩) rfl ?_
  refine e_p (v := .int .i64 0) rfl ?_
  refine e_nwE S (cs' := zC.v) rfl fun b15 w S => ?_
  refine e_st (vs := K.v) S 0 rfl rfl rfl rfl (by simp [Ck.v, Value.flat]) (by simp [zC, Ck.v]) fun w S => ?_
  replace S : Dn.Sep w ((b15, .cells ⟨K.v⟩ 60) :: (b12, .cells ⟨K.v⟩ 60) :: (b8, .cells ⟨bcells (fillB f (n + 1))⟩ 5) :: (b2, .cells ⟨c.v⟩ 31) :: ((X ++ Y) ++ s'.L)) F := S
  (repeat first|refine Nv.r ?_|refine Jk rfl ?_|(refine JX ?_;conv=>whnf)|(refine JV ?_;(conv=>whnf);show Evs _ _ _ _ _)|refine JJ rfl ?_|refine JK rfl ?_|refine JQ rfl ?_|refine JL rfl rfl ?_|refine JM rfl rfl ?_|refine JN rfl ?_|refine JO rfl ?_|refine JP rfl ?_)
  rw [show (c.disks == c.disks) = true from beq_self_eq_true _]
  refine e_gdT rfl ?_
  refine e_ld (v := .agg ⟨K.v⟩) (S.row 0 rfl (by simp [Ck.v]) rfl) ?_
  refine e_gdT rfl ?_
  refine e_ld (v := .agg ⟨K.v⟩) (S.row 1 rfl (by simp [Ck.v]) rfl) ?_
  refine e_gdT rfl ?_
  refine e_p (v := .bool true) (by rw [eqs_ck (p := K) (q := K) rfl rfl, decide_eq_true rfl]) ?_
  (repeat first|refine Nv.r ?_|refine Jk rfl ?_|(refine JX ?_;conv=>whnf)|(refine JV ?_;(conv=>whnf);show Evs _ _ _ _ _)|refine JJ rfl ?_|refine JK rfl ?_|refine JQ rfl ?_|refine JL rfl rfl ?_|refine JM rfl rfl ?_|refine JN rfl ?_|refine JO rfl ?_|refine JP rfl ?_)
  refine e_ld (v := .int .i64 c.image) (S.cell 3 rfl rfl) ?_
  refine e_gdT rfl ?_
  refine e_sub (a := c.image) (b := 1) rfl rfl (by omega) (by omega) ?_
  refine e_gdT rfl ?_
  refine e_mul (a := 40) (b := c.image - 1) rfl rfl (by omega) (by omega) ?_
  refine e_gdT rfl ?_
  refine e_add (a := 40 * (c.image - 1)) (b := 1) rfl rfl (by omega) (by omega) ?_
  refine e_gdT rfl ?_
  rw [show 40 * (c.image - 1) + 1 = ((n + 1 : Nat) : Int) by omega]
  refine e_p (v := .bool true) (by show some (Value.bool _) = _; congr 2; exact decide_eq_true rfl) ?_
  (repeat first|refine Nv.r ?_|refine Jk rfl ?_|(refine JX ?_;conv=>whnf)|(refine JV ?_;(conv=>whnf);show Evs _ _ _ _ _)|refine JJ rfl ?_|refine JK rfl ?_|refine JQ rfl ?_|refine JL rfl rfl ?_|refine JM rfl rfl ?_|refine JN rfl ?_|refine JO rfl ?_|refine JP rfl ?_)
  exact f_ret rfl rfl (hQ _ _ _ rfl S)

end Go.Proofs.YtjnogknjdjphaaaGreat

/-
  From a walk's contract to what a row asks; a list of strings, as the row reads it.
-/
namespace Dn
open Go Go.ChangeShapes Go.WideShapes Go.RowKit

def frameOf (W : World) : Fr := ⟨W.os, W.tape, W.output, fun b => W.heap[b]?⟩
theorem sep_frame (W : World) : Sep W [] (frameOf W) := ⟨rfl, rfl, rfl, List.nodup_nil, fun b o h => by simp at h, fun b o h => h, fun b o h => by simp at h⟩
theorem below_frame {W w' : World} {L : List (Nat × Obj)} (S : Sep w' L (frameOf W)) : Below W.heap.size W w' := by
  refine ⟨S.os, S.tape, S.out, ?_, fun k hk => ?_⟩
  · rcases Nat.eq_zero_or_pos W.heap.size with h | h
    · omega
    · have hlt : W.heap.size - 1 < W.heap.size := by omega
      have := S.fr (W.heap.size - 1) W.heap[W.heap.size - 1] (Array.getElem?_eq_getElem hlt)
      have := (Array.getElem?_eq_some_iff.1 this).1
      omega
  · have := S.fr k W.heap[k] (Array.getElem?_eq_getElem hk)
    rw [this, Array.getElem?_eq_getElem hk]

theorem calls_of {P : Program} {f : FuncId} {args : List Value} {Φ : Fr → Prop} {u : Value} (h : DSpecF P f args [] Φ fun v _ => v = u) {W : World} (hΦ : Φ (frameOf W)) :
    Calls P f ⟨args⟩ W fun e w' => e = .returned u ∧ Below W.heap.size W w' :=
  Calls.mono (h W (frameOf W) hΦ (sep_frame W)) fun e w' ⟨v, he, L', hv, S⟩ => ⟨by rw [he, hv], below_frame S⟩

end Dn

/-
  Slices of ints and of bools, as the row reads them.
-/
namespace Dn
open Go Go.ChangeShapes Go.WideShapes Go.RowKit

end Dn

/-
  Structs of ints and bytes, as the row reads them.
-/
namespace Dn
open Go Go.ChangeShapes Go.WideShapes Go.RowKit

def intFields (P : Program) (fs : Array Field) (n : Nat) : Bool := (List.range n).all fun i => match fs[i]? with
  | some f => Nat.beq f.offset i && Nat.beq (P.cellsOf f.type) 1 && (match P.underlying f.type with | some (.int .i64) => true | _ => false)
  | none => false
theorem trod_ints {H : Type} {enc : TypeId × Value → H} {P : Program} {W : World} {held : Bool} {t : TypeId} {fs : Array Field} {n fuel : Nat} {cs : List Value} {x : DataW H × List MemPlace}
    (ht : P.underlying t = some (.struct fs)) (hf : intFields P fs n = true) (hc : P.cellsOf t = n) (h : DataW.trod enc P W 0 (fun _ => true) held fuel t cs = some x) : ∃ l : List Int, l.length = n ∧ cs = l.map (Value.int .i64) := by
  obtain ⟨xs, m, _, rfl, hl, hlen, hfx⟩ := DataW.trod_struct ht h
  have hcl : cs.length = n := hl.trans hc
  have key : ∀ k, k ≤ n → ∃ l : List Int, l.length = k ∧ cs.take k = l.map (Value.int .i64) := by
    intro k
    induction k with
    | zero => intro _; exact ⟨[], rfl, by simp⟩
    | succ k ih =>
      intro hk
      obtain ⟨l, h1, h2⟩ := ih (by omega)
      have hk2 := List.all_eq_true.1 hf k (List.mem_range.2 (by omega))
      split at hk2
      · rename_i f hfk
        simp only [Bool.and_eq_true] at hk2
        obtain ⟨⟨o1, o2⟩, o3⟩ := hk2
        split at o3
        · rename_i hu
          have hr := hfx k f (by first | exact hfk | (rw [Array.getElem?_toList]; exact hfk))
          rw [Nat.eq_of_beq_eq_true o1, Nat.eq_of_beq_eq_true o2] at hr
          cases hxs : xs[k]? with
          | none =>
            exfalso
            have h3 := List.getElem?_eq_none_iff.1 hxs
            have h4 := (Array.getElem?_eq_some_iff.1 hfk).1
            omega
          | some y =>
            rw [hxs] at hr
            obtain ⟨a, ha, _⟩ := DataW.trod_int hu hr
            refine ⟨l ++ [a], by simp [h1], ?_⟩
            have e : cs.take (k + 1) = cs.take k ++ (cs.drop k).take 1 := by rw [List.take_add]
            rw [e, h2, ha]; simp
        · simp at o3
      · simp at hk2
  obtain ⟨l, h1, h2⟩ := key n (Nat.le_refl _)
  exact ⟨l, h1, by rw [← h2, List.take_of_length_le (by omega)]⟩
theorem open_cfgF {H : Type} {enc : TypeId × Value → H} {P : Program} {W : World} {held : Bool} {r : Reach} {b0 : Nat} {t : TypeId} {v : Value} {d : DataW H} {ps : List MemPlace} {fs : Array Field}
    (ht : P.underlying t = some (.struct fs)) (hf : intFields P fs 6 = true) (hc : P.cellsOf t = 6) (hval : Value.okWide P W r b0 t v) (h : DataW.Trod enc P W 0 (fun _ => true) held t v d ps) : ∃ c : Cfg, v = .agg ⟨c.v⟩ := by
  obtain ⟨cs, rfl, _⟩ := okWide_struct ht hval
  obtain ⟨fuel, hx⟩ := h
  obtain ⟨l, h1, h2⟩ := trod_ints ht hf hc hx
  match l, h1 with
  | [a, b, c, d, e, f], _ =>
    refine ⟨⟨a, b, c, d, e, f⟩, ?_⟩
    congr 1
    apply Array.ext'
    exact h2
theorem byte_of {n : Int} (h : (Lit.int .u8 n).wf = true) : ∃ u : UInt8, n = (u.toNat : Int) := by
  simp [Lit.wf, IntKind.min, IntKind.max, IntKind.signed, IntKind.bits] at h
  refine ⟨UInt8.ofNat n.toNat, ?_⟩
  simp only [UInt8.toNat_ofNat']
  omega

end Dn
