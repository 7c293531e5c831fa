/- Lemmas for a proof in several parts. -/
import Derived.Test.YtgendpinmmmfjaaBaseMB4
import Derived.Test.YtgendpinmmmfjaaProg
import Derived.KernelRfl
import Derived.Shelf.Sort.Plain
import Derived.Shelf.Slices.In.SortNone
import Derived.Sort.OwnSortedInts
import Derived.WalkKit
import Derived.ProofKit
import Derived.OpenShut
import Derived.ShutString
import Derived.ChangeOld
import Derived.Below
import Derived.SizedLaws
import Derived.SliceStrings
import Derived.Carry
set_option linter.unusedVariables false
set_option linter.unusedSimpArgs false
/-
  The walk of Marked.
-/
namespace Dn
open Go
def maxI (a b : Int) : Int := if b > a then b else a
def mkdRun (s : Sh) (d : Int) : Nat → Int → Int → Int → Int × Int × Int
  | 0, _, la, od => (la, od, 0)
  | k + 1, i, la, od =>
    if (s.rdO (plW d i)).1 ≠ 0 then (0, 0, (s.rdO (plW d i)).1)
    else match opened (plW d i) (s.rdO (plW d i)).2 with
      | none => mkdRun s d k (i + 1) la od
      | some (g, _) => mkdRun s d k (i + 1) (maxI la g.epoch) (if g.epoch.tmod 2 = 1 then maxI od g.epoch else od)
def markedW (s : Sh) (d : Int) : Int × Int × Int :=
  if d < 0 ∨ d ≥ s.cfg.disks then (0, 0, 1) else mkdRun s d (if s.cfg.log ≥ 3 then 3 else 0) s.cfg.logN 0 0
end Dn
namespace Go.Proofs.Ytgendpinmmmfjaa
open Dn
attribute [local irreducible] Evs Ev EvT DSpec PSpec CallTo
set_option maxRecDepth 10000
set_option maxHeartbeats 2000000

theorem w_marked (s : Sh) (d : Int) (hs : s.ok) : DSpec Try.prog 24 [s.v, .int .i64 d] s.L fun v L => v = .tuple ⟨[.int .i64 (markedW s d).1, .int .i64 (markedW s d).2.1, .int .i64 (markedW s d).2.2]⟩ ∧ L = s.L := by
  refine spec_of mix Try.func24 c24_eq rfl rfl fun w F Q S hQ => ?_
  have hc := hs.cfg
  unfold Cfg.ok at hc
  have hlogN : s.cfg.log ≥ 3 → s.cfg.logN = s.cfg.log - 3 := fun h => by unfold Cfg.logN; rw [if_neg (by omega)]
  have hlogN0 : 0 ≤ s.cfg.logN ∧ s.cfg.logN ≤ 65536 := by unfold Cfg.logN; split <;> omega
  (repeat (first|(with_reducible first|refine Ja ?_|refine Jb ?_|refine Jc ?_|refine Jd ?_|refine Je ?_|refine Jf ?_|refine Jg ?_|refine Jh ?_|refine Ji ?_|refine Jj ?_|refine Jk rfl ?_|refine Jl ?_|refine Jm ?_|refine Jn ?_|refine Jo ?_|refine Jp ?_|refine Jq ?_)|refine JA rfl ?_|refine JB rfl ?_|refine JC rfl ?_|refine JD rfl ?_|refine JE rfl ?_|refine JF rfl ?_|refine JG rfl ?_|refine JH rfl ?_|refine JI rfl ?_|refine J2 rfl ?_|refine J3 rfl ?_|refine J4 rfl ?_|refine J1 rfl ?_|refine J6 rfl ?_|refine J7 rfl ?_|refine JJ rfl ?_|refine JK rfl ?_|refine JQ rfl ?_|refine JL rfl rfl ?_|refine JM rfl rfl ?_|refine JN rfl ?_|refine JO rfl ?_|refine JP rfl ?_))
  refine e_call (L2 := []) rfl (sh_config s) S ?_
  rintro _ _ w ⟨rfl, rfl⟩ S
  replace S : Dn.Sep w s.L F := S
  refine e_nw S fun b7 w S => ?_
  refine e_st (vs := s.cfg.v) S 0 rfl rfl rfl rfl (by simp [Cfg.v, Value.flat]) (by simp) fun w S => ?_
  replace S : Dn.Sep w ([(b7, .cells ⟨s.cfg.v⟩ 53)] ++ s.L) F := S
  (repeat (first|(with_reducible first|refine Ja ?_|refine Jb ?_|refine Jc ?_|refine Jd ?_|refine Je ?_|refine Jf ?_|refine Jg ?_|refine Jh ?_|refine Ji ?_|refine Jj ?_|refine Jk rfl ?_|refine Jl ?_|refine Jm ?_|refine Jn ?_|refine Jo ?_|refine Jp ?_|refine Jq ?_)|refine JA rfl ?_|refine JB rfl ?_|refine JC rfl ?_|refine JD rfl ?_|refine JE rfl ?_|refine JF rfl ?_|refine JG rfl ?_|refine JH rfl ?_|refine JI rfl ?_|refine J2 rfl ?_|refine J3 rfl ?_|refine J4 rfl ?_|refine J1 rfl ?_|refine J6 rfl ?_|refine J7 rfl ?_|refine JJ rfl ?_|refine JK rfl ?_|refine JQ rfl ?_|refine JL rfl rfl ?_|refine JM rfl rfl ?_|refine JN rfl ?_|refine JO rfl ?_|refine JP rfl ?_))
  refine e_brD rfl (fun h1 => ?_) (fun h1 => ?_)
  · (repeat (first|(with_reducible first|refine Ja ?_|refine Jb ?_|refine Jc ?_|refine Jd ?_|refine Je ?_|refine Jf ?_|refine Jg ?_|refine Jh ?_|refine Ji ?_|refine Jj ?_|refine Jk rfl ?_|refine Jl ?_|refine Jm ?_|refine Jn ?_|refine Jo ?_|refine Jp ?_|refine Jq ?_)|refine JA rfl ?_|refine JB rfl ?_|refine JC rfl ?_|refine JD rfl ?_|refine JE rfl ?_|refine JF rfl ?_|refine JG rfl ?_|refine JH rfl ?_|refine JI rfl ?_|refine J2 rfl ?_|refine J3 rfl ?_|refine J4 rfl ?_|refine J1 rfl ?_|refine J6 rfl ?_|refine J7 rfl ?_|refine JJ rfl ?_|refine JK rfl ?_|refine JQ rfl ?_|refine JL rfl rfl ?_|refine JM rfl rfl ?_|refine JN rfl ?_|refine JO rfl ?_|refine JP rfl ?_))
    exact f_ret rfl rfl (hQ _ _ _ ⟨by unfold markedW; rw [if_pos (.inl h1)]; rfl, rfl⟩ (Sep.drop (L2 := [_]) S))
  (repeat (first|(with_reducible first|refine Ja ?_|refine Jb ?_|refine Jc ?_|refine Jd ?_|refine Je ?_|refine Jf ?_|refine Jg ?_|refine Jh ?_|refine Ji ?_|refine Jj ?_|refine Jk rfl ?_|refine Jl ?_|refine Jm ?_|refine Jn ?_|refine Jo ?_|refine Jp ?_|refine Jq ?_)|refine JA rfl ?_|refine JB rfl ?_|refine JC rfl ?_|refine JD rfl ?_|refine JE rfl ?_|refine JF rfl ?_|refine JG rfl ?_|refine JH rfl ?_|refine JI rfl ?_|refine J2 rfl ?_|refine J3 rfl ?_|refine J4 rfl ?_|refine J1 rfl ?_|refine J6 rfl ?_|refine J7 rfl ?_|refine JJ rfl ?_|refine JK rfl ?_|refine JQ rfl ?_|refine JL rfl rfl ?_|refine JM rfl rfl ?_|refine JN rfl ?_|refine JO rfl ?_|refine JP rfl ?_))
  refine e_ld (S.cell 0 rfl rfl) ?_
  (repeat (first|(with_reducible first|refine Ja ?_|refine Jb ?_|refine Jc ?_|refine Jd ?_|refine Je ?_|refine Jf ?_|refine Jg ?_|refine Jh ?_|refine Ji ?_|refine Jj ?_|refine Jk rfl ?_|refine Jl ?_|refine Jm ?_|refine Jn ?_|refine Jo ?_|refine Jp ?_|refine Jq ?_)|refine JA rfl ?_|refine JB rfl ?_|refine JC rfl ?_|refine JD rfl ?_|refine JE rfl ?_|refine JF rfl ?_|refine JG rfl ?_|refine JH rfl ?_|refine JI rfl ?_|refine J2 rfl ?_|refine J3 rfl ?_|refine J4 rfl ?_|refine J1 rfl ?_|refine J6 rfl ?_|refine J7 rfl ?_|refine JJ rfl ?_|refine JK rfl ?_|refine JQ rfl ?_|refine JL rfl rfl ?_|refine JM rfl rfl ?_|refine JN rfl ?_|refine JO rfl ?_|refine JP rfl ?_))
  refine s_iteD rfl (fun h2 => ?_) (fun h2 => ?_)
  · (repeat (first|(with_reducible first|refine Ja ?_|refine Jb ?_|refine Jc ?_|refine Jd ?_|refine Je ?_|refine Jf ?_|refine Jg ?_|refine Jh ?_|refine Ji ?_|refine Jj ?_|refine Jk rfl ?_|refine Jl ?_|refine Jm ?_|refine Jn ?_|refine Jo ?_|refine Jp ?_|refine Jq ?_)|refine JA rfl ?_|refine JB rfl ?_|refine JC rfl ?_|refine JD rfl ?_|refine JE rfl ?_|refine JF rfl ?_|refine JG rfl ?_|refine JH rfl ?_|refine JI rfl ?_|refine J2 rfl ?_|refine J3 rfl ?_|refine J4 rfl ?_|refine J1 rfl ?_|refine J6 rfl ?_|refine J7 rfl ?_|refine JJ rfl ?_|refine JK rfl ?_|refine JQ rfl ?_|refine JL rfl rfl ?_|refine JM rfl rfl ?_|refine JN rfl ?_|refine JO rfl ?_|refine JP rfl ?_))
    exact f_ret rfl rfl (hQ _ _ _ ⟨by unfold markedW; rw [if_pos (.inr h2)]; rfl, rfl⟩ (Sep.drop (L2 := [_]) S))
  (repeat (first|(with_reducible first|refine Ja ?_|refine Jb ?_|refine Jc ?_|refine Jd ?_|refine Je ?_|refine Jf ?_|refine Jg ?_|refine Jh ?_|refine Ji ?_|refine Jj ?_|refine Jk rfl ?_|refine Jl ?_|refine Jm ?_|refine Jn ?_|refine Jo ?_|refine Jp ?_|refine Jq ?_)|refine JA rfl ?_|refine JB rfl ?_|refine JC rfl ?_|refine JD rfl ?_|refine JE rfl ?_|refine JF rfl ?_|refine JG rfl ?_|refine JH rfl ?_|refine JI rfl ?_|refine J2 rfl ?_|refine J3 rfl ?_|refine J4 rfl ?_|refine J1 rfl ?_|refine J6 rfl ?_|refine J7 rfl ?_|refine JJ rfl ?_|refine JK rfl ?_|refine JQ rfl ?_|refine JL rfl rfl ?_|refine JM rfl rfl ?_|refine JN rfl ?_|refine JO rfl ?_|refine JP rfl ?_))
  refine e_ld (v := .agg ⟨s.cfg.v⟩) (S.row 0 rfl (by simp [Cfg.v]) rfl) ?_
  refine e_callP rfl (w_sectors s.cfg (by omega) (by omega)) S fun w S => ?_
  obtain ⟨RES, hRES⟩ : ∃ RES, mkdRun s d (if s.cfg.log ≥ 3 then 3 else 0) s.cfg.logN 0 0 = RES := ⟨_, rfl⟩
  have hM : markedW s d = RES := by unfold markedW; rw [if_neg (by omega), hRES]
  rw [hM] at hQ
  (repeat (first|(with_reducible first|refine Ja ?_|refine Jb ?_|refine Jc ?_|refine Jd ?_|refine Je ?_|refine Jf ?_|refine Jg ?_|refine Jh ?_|refine Ji ?_|refine Jj ?_|refine Jk rfl ?_|refine Jl ?_|refine Jm ?_|refine Jn ?_|refine Jo ?_|refine Jp ?_|refine Jq ?_)|refine JA rfl ?_|refine JB rfl ?_|refine JC rfl ?_|refine JD rfl ?_|refine JE rfl ?_|refine JF rfl ?_|refine JG rfl ?_|refine JH rfl ?_|refine JI rfl ?_|refine J2 rfl ?_|refine J3 rfl ?_|refine J4 rfl ?_|refine J1 rfl ?_|refine J6 rfl ?_|refine J7 rfl ?_|refine JJ rfl ?_|refine JK rfl ?_|refine JQ rfl ?_|refine JL rfl rfl ?_|refine JM rfl rfl ?_|refine JN rfl ?_|refine JO rfl ?_|refine JP rfl ?_))
  refine s_loop (σ := Nat × Int × Int) (fun q => [(8, .int .i64 (s.cfg.logN + q.1)), (4, .int .i64 q.2.1), (5, .int .i64 q.2.2), (0, s.v), (1, .int .i64 d), (7, .pointer (some ⟨b7, 0, none⟩))])
    (fun q w => q.1 ≤ (if s.cfg.log ≥ 3 then 3 else 0) ∧ mkdRun s d ((if s.cfg.log ≥ 3 then 3 else 0) - q.1) (s.cfg.logN + q.1) q.2.1 q.2.2 = RES ∧ ∃ X, Dn.Sep w ([(b7, .cells ⟨s.cfg.v⟩ 53)] ++ (X ++ s.L)) F) (fun q => 3 - q.1) (0, 0, 0)
    ⟨by show Value.int .i64 _ = Value.int .i64 _; simp, rfl, rfl, rfl, rfl, rfl, trivial⟩ rfl ⟨by simp, by simpa using hRES, ⟨[], S⟩⟩ ?_
  rintro gg ⟨i, la, od⟩ w ⟨hi, hres, X, S⟩
  simp only [setL] at hi hres S ⊢
  have done : ∀ {w : World} {T : Rg}, RES = (la, od, 0) → T.ds = [] → T.f 4 = .int .i64 la → T.f 5 = .int .i64 od → T.f 6 = .int .i64 0 → Dn.Sep w ([(b7, .cells ⟨s.cfg.v⟩ 53)] ++ (X ++ s.L)) F → finK [.t (.r 4), .t (.r 5), .t (.r 6)] Q .r T w := by
    intro w T hR h1 h2 h3 h4 S
    exact f_ret (vs := [.int .i64 la, .int .i64 od, .int .i64 0]) h1 (rvs3 (congrArg some h2) (congrArg some h3) (congrArg some h4)) (hQ _ _ _ ⟨by rw [hR]; rfl, rfl⟩ (Sep.drop (L2 := (b7, .cells ⟨s.cfg.v⟩ 53) :: X) S))
  (repeat (first|(with_reducible first|refine Ja ?_|refine Jb ?_|refine Jc ?_|refine Jd ?_|refine Je ?_|refine Jf ?_|refine Jg ?_|refine Jh ?_|refine Ji ?_|refine Jj ?_|refine Jk rfl ?_|refine Jl ?_|refine Jm ?_|refine Jn ?_|refine Jo ?_|refine Jp ?_|refine Jq ?_)|refine JA rfl ?_|refine JB rfl ?_|refine JC rfl ?_|refine JD rfl ?_|refine JE rfl ?_|refine JF rfl ?_|refine JG rfl ?_|refine JH rfl ?_|refine JI rfl ?_|refine J2 rfl ?_|refine J3 rfl ?_|refine J4 rfl ?_|refine J1 rfl ?_|refine J6 rfl ?_|refine J7 rfl ?_|refine JJ rfl ?_|refine JK rfl ?_|refine JQ rfl ?_|refine JL rfl rfl ?_|refine JM rfl rfl ?_|refine JN rfl ?_|refine JO rfl ?_|refine JP rfl ?_))
  refine e_ld (S.cell 0 rfl rfl) ?_
  (repeat (first|(with_reducible first|refine Ja ?_|refine Jb ?_|refine Jc ?_|refine Jd ?_|refine Je ?_|refine Jf ?_|refine Jg ?_|refine Jh ?_|refine Ji ?_|refine Jj ?_|refine Jk rfl ?_|refine Jl ?_|refine Jm ?_|refine Jn ?_|refine Jo ?_|refine Jp ?_|refine Jq ?_)|refine JA rfl ?_|refine JB rfl ?_|refine JC rfl ?_|refine JD rfl ?_|refine JE rfl ?_|refine JF rfl ?_|refine JG rfl ?_|refine JH rfl ?_|refine JI rfl ?_|refine J2 rfl ?_|refine J3 rfl ?_|refine J4 rfl ?_|refine J1 rfl ?_|refine J6 rfl ?_|refine J7 rfl ?_|refine JJ rfl ?_|refine JK rfl ?_|refine JQ rfl ?_|refine JL rfl rfl ?_|refine JM rfl rfl ?_|refine JN rfl ?_|refine JO rfl ?_|refine JP rfl ?_))
  refine e_brD rfl (fun h3 => ?_) (fun h3 => ?_)
  rotate_left
  · have : (if s.cfg.log ≥ 3 then 3 else 0) - i = 0 := by split at hi <;> split <;> omega
    rw [this] at hres
    (repeat (first|(with_reducible first|refine Ja ?_|refine Jb ?_|refine Jc ?_|refine Jd ?_|refine Je ?_|refine Jf ?_|refine Jg ?_|refine Jh ?_|refine Ji ?_|refine Jj ?_|refine Jk rfl ?_|refine Jl ?_|refine Jm ?_|refine Jn ?_|refine Jo ?_|refine Jp ?_|refine Jq ?_)|refine JA rfl ?_|refine JB rfl ?_|refine JC rfl ?_|refine JD rfl ?_|refine JE rfl ?_|refine JF rfl ?_|refine JG rfl ?_|refine JH rfl ?_|refine JI rfl ?_|refine J2 rfl ?_|refine J3 rfl ?_|refine J4 rfl ?_|refine J1 rfl ?_|refine J6 rfl ?_|refine J7 rfl ?_|refine JJ rfl ?_|refine JK rfl ?_|refine JQ rfl ?_|refine JL rfl rfl ?_|refine JM rfl rfl ?_|refine JN rfl ?_|refine JO rfl ?_|refine JP rfl ?_))
    exact done hres.symm rfl rfl rfl rfl S
  (repeat (first|(with_reducible first|refine Ja ?_|refine Jb ?_|refine Jc ?_|refine Jd ?_|refine Je ?_|refine Jf ?_|refine Jg ?_|refine Jh ?_|refine Ji ?_|refine Jj ?_|refine Jk rfl ?_|refine Jl ?_|refine Jm ?_|refine Jn ?_|refine Jo ?_|refine Jp ?_|refine Jq ?_)|refine JA rfl ?_|refine JB rfl ?_|refine JC rfl ?_|refine JD rfl ?_|refine JE rfl ?_|refine JF rfl ?_|refine JG rfl ?_|refine JH rfl ?_|refine JI rfl ?_|refine J2 rfl ?_|refine J3 rfl ?_|refine J4 rfl ?_|refine J1 rfl ?_|refine J6 rfl ?_|refine J7 rfl ?_|refine JJ rfl ?_|refine JK rfl ?_|refine JQ rfl ?_|refine JL rfl rfl ?_|refine JM rfl rfl ?_|refine JN rfl ?_|refine JO rfl ?_|refine JP rfl ?_))
  refine e_ld (S.cell 0 rfl rfl) ?_
  (repeat (first|(with_reducible first|refine Ja ?_|refine Jb ?_|refine Jc ?_|refine Jd ?_|refine Je ?_|refine Jf ?_|refine Jg ?_|refine Jh ?_|refine Ji ?_|refine Jj ?_|refine Jk rfl ?_|refine Jl ?_|refine Jm ?_|refine Jn ?_|refine Jo ?_|refine Jp ?_|refine Jq ?_)|refine JA rfl ?_|refine JB rfl ?_|refine JC rfl ?_|refine JD rfl ?_|refine JE rfl ?_|refine JF rfl ?_|refine JG rfl ?_|refine JH rfl ?_|refine JI rfl ?_|refine J2 rfl ?_|refine J3 rfl ?_|refine J4 rfl ?_|refine J1 rfl ?_|refine J6 rfl ?_|refine J7 rfl ?_|refine JJ rfl ?_|refine JK rfl ?_|refine JQ rfl ?_|refine JL rfl rfl ?_|refine JM rfl rfl ?_|refine JN rfl ?_|refine JO rfl ?_|refine JP rfl ?_))
  refine s_iteD rfl (fun h4 => ?_) (fun h4 => ?_)
  rotate_left
  · have : (if s.cfg.log ≥ 3 then 3 else 0) - i = 0 := by rw [if_neg (by omega)]; omega
    rw [this] at hres
    (repeat (first|(with_reducible first|refine Ja ?_|refine Jb ?_|refine Jc ?_|refine Jd ?_|refine Je ?_|refine Jf ?_|refine Jg ?_|refine Jh ?_|refine Ji ?_|refine Jj ?_|refine Jk rfl ?_|refine Jl ?_|refine Jm ?_|refine Jn ?_|refine Jo ?_|refine Jp ?_|refine Jq ?_)|refine JA rfl ?_|refine JB rfl ?_|refine JC rfl ?_|refine JD rfl ?_|refine JE rfl ?_|refine JF rfl ?_|refine JG rfl ?_|refine JH rfl ?_|refine JI rfl ?_|refine J2 rfl ?_|refine J3 rfl ?_|refine J4 rfl ?_|refine J1 rfl ?_|refine J6 rfl ?_|refine J7 rfl ?_|refine JJ rfl ?_|refine JK rfl ?_|refine JQ rfl ?_|refine JL rfl rfl ?_|refine JM rfl rfl ?_|refine JN rfl ?_|refine JO rfl ?_|refine JP rfl ?_))
    exact done hres.symm rfl rfl rfl rfl S
  have h4' : s.cfg.log ≥ 3 := h4
  have hlg := hlogN h4'
  rw [if_pos h4'] at hi hres
  have hi3 : i < 3 := by omega
  obtain ⟨k, hk⟩ : ∃ k, 3 - i = k + 1 := ⟨2 - i, by omega⟩
  have hk2 : 3 - (i + 1) = k := by omega
  rw [hk] at hres
  simp only [mkdRun] at hres
  obtain ⟨ix, hix⟩ : ∃ ix : Int, s.cfg.logN + i = ix := ⟨_, rfl⟩
  rw [hix] at hres h3 ⊢
  obtain ⟨RO, hRO⟩ : ∃ RO, s.rdO (plW d ix) = RO := ⟨_, rfl⟩
  have hlen : RO.1 = 0 → RO.2.length = 64 := fun h => by rw [← hRO] at h ⊢; exact rdO_len hs h
  rw [hRO] at hres
  have hpl : (plW d ix).ok := by unfold Pl.ok plW; simp only; omega
  have again : ∀ {w : World} {T : Rg} {la' od' : Int} {Y : List (Nat × Obj)}, mkdRun s d k (ix + 1) la' od' = RES → T.ds = [] → T.f 8 = .int .i64 (ix + 1) → T.f 4 = .int .i64 la' → T.f 5 = .int .i64 od' → T.f 0 = s.v → T.f 1 = .int .i64 d → T.f 7 = .pointer (some ⟨b7, 0, none⟩) →
      Dn.Sep w (Y ++ ((b7, .cells ⟨s.cfg.v⟩ 53) :: (X ++ s.L))) F → T.ds = [] ∧ ∃ s' : Nat × Int × Int, pins T [(8, .int .i64 (s.cfg.logN + s'.1)), (4, .int .i64 s'.2.1), (5, .int .i64 s'.2.2), (0, s.v), (1, .int .i64 d), (7, .pointer (some ⟨b7, 0, none⟩))] ∧
        (s'.1 ≤ (if s.cfg.log ≥ 3 then 3 else 0) ∧ mkdRun s d ((if s.cfg.log ≥ 3 then 3 else 0) - s'.1) (s.cfg.logN + s'.1) s'.2.1 s'.2.2 = RES ∧ ∃ X, Dn.Sep w ([(b7, .cells ⟨s.cfg.v⟩ 53)] ++ (X ++ s.L)) F) ∧ 3 - s'.1 < 3 - i := by
    intro w T la' od' Y hr e0 e1 e2 e3 e4 e5 e6 S
    have ei : s.cfg.logN + ((i + 1 : Nat) : Int) = ix + 1 := by omega
    refine ⟨e0, (i + 1, la', od'), ⟨by rw [e1]; simp only [ei], e2, e3, e4, e5, e6, trivial⟩, ⟨by rw [if_pos h4']; simp only; omega, ?_, X, Sep.drop (L2 := Y) S⟩, by simp only; omega⟩
    rw [if_pos h4']
    simp only [ei, hk2]
    exact hr
  (repeat (first|(with_reducible first|refine Ja ?_|refine Jb ?_|refine Jc ?_|refine Jd ?_|refine Je ?_|refine Jf ?_|refine Jg ?_|refine Jh ?_|refine Ji ?_|refine Jj ?_|refine Jk rfl ?_|refine Jl ?_|refine Jm ?_|refine Jn ?_|refine Jo ?_|refine Jp ?_|refine Jq ?_)|refine JA rfl ?_|refine JB rfl ?_|refine JC rfl ?_|refine JD rfl ?_|refine JE rfl ?_|refine JF rfl ?_|refine JG rfl ?_|refine JH rfl ?_|refine JI rfl ?_|refine J2 rfl ?_|refine J3 rfl ?_|refine J4 rfl ?_|refine J1 rfl ?_|refine J6 rfl ?_|refine J7 rfl ?_|refine JJ rfl ?_|refine JK rfl ?_|refine JQ rfl ?_|refine JL rfl rfl ?_|refine JM rfl rfl ?_|refine JN rfl ?_|refine JO rfl ?_|refine JP rfl ?_))
  refine e_nw S fun b9 w S => ?_
  refine e_st (vs := (plW d ix).v) S 0 rfl rfl rfl rfl (by simp [Pl.v, Value.flat]) (by simp) fun w S => ?_
  replace S : Dn.Sep w (((b9, .cells ⟨(plW d ix).v⟩ 46) :: (b7, .cells ⟨s.cfg.v⟩ 53) :: X) ++ s.L) F := S
  (repeat (first|(with_reducible first|refine Ja ?_|refine Jb ?_|refine Jc ?_|refine Jd ?_|refine Je ?_|refine Jf ?_|refine Jg ?_|refine Jh ?_|refine Ji ?_|refine Jj ?_|refine Jk rfl ?_|refine Jl ?_|refine Jm ?_|refine Jn ?_|refine Jo ?_|refine Jp ?_|refine Jq ?_)|refine JA rfl ?_|refine JB rfl ?_|refine JC rfl ?_|refine JD rfl ?_|refine JE rfl ?_|refine JF rfl ?_|refine JG rfl ?_|refine JH rfl ?_|refine JI rfl ?_|refine J2 rfl ?_|refine J3 rfl ?_|refine J4 rfl ?_|refine J1 rfl ?_|refine J6 rfl ?_|refine J7 rfl ?_|refine JJ rfl ?_|refine JK rfl ?_|refine JQ rfl ?_|refine JL rfl rfl ?_|refine JM rfl rfl ?_|refine JN rfl ?_|refine JO rfl ?_|refine JP rfl ?_))
  refine e_ld (v := .agg ⟨(plW d ix).v⟩) (S.row 0 rfl (by simp [Pl.v]) rfl) ?_
  refine e_call (L2 := _ :: _ :: X) rfl (sh_read s (plW d ix) hs) S ?_
  rintro _ _ w ⟨rfl, rfl⟩ S
  rw [rdV_O, hRO]
  refine e_mvT rfl ?_
  refine e_p (v := .string ⟨⟨RO.2⟩⟩) rfl ?_
  refine e_p (v := .int .i64 RO.1) rfl ?_
  refine e_mvS rfl ?_
  refine e_mvI rfl ?_
  (repeat (with_reducible first|refine Ja ?_|refine Jb ?_|refine Jc ?_|refine Jd ?_|refine Je ?_|refine Jf ?_|refine Jg ?_|refine Jh ?_|refine Ji ?_|refine Jj ?_|refine Jk rfl ?_|refine Jl ?_|refine Jm ?_|refine Jn ?_|refine Jo ?_|refine Jp ?_|refine Jq ?_))
  refine e_mvI rfl ?_
  refine e_p (cmp_neqD rfl rfl) ?_
  (repeat (with_reducible first|refine Ja ?_|refine Jb ?_|refine Jc ?_|refine Jd ?_|refine Je ?_|refine Jf ?_|refine Jg ?_|refine Jh ?_|refine Ji ?_|refine Jj ?_|refine Jk rfl ?_|refine Jl ?_|refine Jm ?_|refine Jn ?_|refine Jo ?_|refine Jp ?_|refine Jq ?_))
  refine s_iteN rfl (fun he => ?_) (fun he => ?_)
  · rw [if_pos he] at hres
    (repeat (first|(with_reducible first|refine Ja ?_|refine Jb ?_|refine Jc ?_|refine Jd ?_|refine Je ?_|refine Jf ?_|refine Jg ?_|refine Jh ?_|refine Ji ?_|refine Jj ?_|refine Jk rfl ?_|refine Jl ?_|refine Jm ?_|refine Jn ?_|refine Jo ?_|refine Jp ?_|refine Jq ?_)|refine JA rfl ?_|refine JB rfl ?_|refine JC rfl ?_|refine JD rfl ?_|refine JE rfl ?_|refine JF rfl ?_|refine JG rfl ?_|refine JH rfl ?_|refine JI rfl ?_|refine J2 rfl ?_|refine J3 rfl ?_|refine J4 rfl ?_|refine J1 rfl ?_|refine J6 rfl ?_|refine J7 rfl ?_|refine JJ rfl ?_|refine JK rfl ?_|refine JQ rfl ?_|refine JL rfl rfl ?_|refine JM rfl rfl ?_|refine JN rfl ?_|refine JO rfl ?_|refine JP rfl ?_))
    exact f_ret (vs := [.int .i64 0, .int .i64 0, .int .i64 RO.1]) rfl (rvs3 rfl rfl rfl) (hQ _ _ _ ⟨by rw [← hres]; rfl, rfl⟩ (Sep.drop (L2 := _ :: _ :: X) S))
  rw [if_neg (by simpa using he)] at hres
  (repeat (first|(with_reducible first|refine Ja ?_|refine Jb ?_|refine Jc ?_|refine Jd ?_|refine Je ?_|refine Jf ?_|refine Jg ?_|refine Jh ?_|refine Ji ?_|refine Jj ?_|refine Jk rfl ?_|refine Jl ?_|refine Jm ?_|refine Jn ?_|refine Jo ?_|refine Jp ?_|refine Jq ?_)|refine JA rfl ?_|refine JB rfl ?_|refine JC rfl ?_|refine JD rfl ?_|refine JE rfl ?_|refine JF rfl ?_|refine JG rfl ?_|refine JH rfl ?_|refine JI rfl ?_|refine J2 rfl ?_|refine J3 rfl ?_|refine J4 rfl ?_|refine J1 rfl ?_|refine J6 rfl ?_|refine J7 rfl ?_|refine JJ rfl ?_|refine JK rfl ?_|refine JQ rfl ?_|refine JL rfl rfl ?_|refine JM rfl rfl ?_|refine JN rfl ?_|refine JO rfl ?_|refine JP rfl ?_))
  refine e_ld (v := .agg ⟨(plW d ix).v⟩) (S.row 0 rfl (by simp [Pl.v]) rfl) ?_
  (repeat (first|(with_reducible first|refine Ja ?_|refine Jb ?_|refine Jc ?_|refine Jd ?_|refine Je ?_|refine Jf ?_|refine Jg ?_|refine Jh ?_|refine Ji ?_|refine Jj ?_|refine Jk rfl ?_|refine Jl ?_|refine Jm ?_|refine Jn ?_|refine Jo ?_|refine Jp ?_|refine Jq ?_)|refine JA rfl ?_|refine JB rfl ?_|refine JC rfl ?_|refine JD rfl ?_|refine JE rfl ?_|refine JF rfl ?_|refine JG rfl ?_|refine JH rfl ?_|refine JI rfl ?_|refine J2 rfl ?_|refine J3 rfl ?_|refine J4 rfl ?_|refine J1 rfl ?_|refine J6 rfl ?_|refine J7 rfl ?_|refine JJ rfl ?_|refine JK rfl ?_|refine JQ rfl ?_|refine JL rfl rfl ?_|refine JM rfl rfl ?_|refine JN rfl ?_|refine JO rfl ?_|refine JP rfl ?_))
  have hop := sec_open (plW d ix) RO.2 hpl (hlen he)
  unfold openV at hop
  cases hO : opened (plW d ix) RO.2 with
  | none =>
    rw [hO] at hop hres
    have hne : (if lblOK RO.2 then (8 : Int) else 7) ≠ 0 := by split <;> decide
    simp only at hop hres
    refine e_callP rfl hop S fun w S => ?_
    (repeat (first|(with_reducible first|refine Ja ?_|refine Jb ?_|refine Jc ?_|refine Jd ?_|refine Je ?_|refine Jf ?_|refine Jg ?_|refine Jh ?_|refine Ji ?_|refine Jj ?_|refine Jk rfl ?_|refine Jl ?_|refine Jm ?_|refine Jn ?_|refine Jo ?_|refine Jp ?_|refine Jq ?_)|refine JA rfl ?_|refine JB rfl ?_|refine JC rfl ?_|refine JD rfl ?_|refine JE rfl ?_|refine JF rfl ?_|refine JG rfl ?_|refine JH rfl ?_|refine JI rfl ?_|refine J2 rfl ?_|refine J3 rfl ?_|refine J4 rfl ?_|refine J1 rfl ?_|refine J6 rfl ?_|refine J7 rfl ?_|refine JJ rfl ?_|refine JK rfl ?_|refine JQ rfl ?_|refine JL rfl rfl ?_|refine JM rfl rfl ?_|refine JN rfl ?_|refine JO rfl ?_|refine JP rfl ?_))
    refine e_nw S fun b12 w S => ?_
    refine e_st (vs := zG.v) S 0 rfl rfl rfl rfl (by simp [zG, Gn.v, Value.flat]) (by simp) fun w S => ?_
    (repeat (with_reducible first|refine Ja ?_|refine Jb ?_|refine Jc ?_|refine Jd ?_|refine Je ?_|refine Jf ?_|refine Jg ?_|refine Jh ?_|refine Ji ?_|refine Jj ?_|refine Jk rfl ?_|refine Jl ?_|refine Jm ?_|refine Jn ?_|refine Jo ?_|refine Jp ?_|refine Jq ?_))
    refine e_mvS rfl ?_
    refine e_mvI rfl ?_
    (repeat (with_reducible first|refine Ja ?_|refine Jb ?_|refine Jc ?_|refine Jd ?_|refine Je ?_|refine Jf ?_|refine Jg ?_|refine Jh ?_|refine Ji ?_|refine Jj ?_|refine Jk rfl ?_|refine Jl ?_|refine Jm ?_|refine Jn ?_|refine Jo ?_|refine Jp ?_|refine Jq ?_))
    refine e_mvI rfl ?_
    refine e_p (cmp_neqD rfl rfl) ?_
    (repeat (with_reducible first|refine Ja ?_|refine Jb ?_|refine Jc ?_|refine Jd ?_|refine Je ?_|refine Jf ?_|refine Jg ?_|refine Jh ?_|refine Ji ?_|refine Jj ?_|refine Jk rfl ?_|refine Jl ?_|refine Jm ?_|refine Jn ?_|refine Jo ?_|refine Jp ?_|refine Jq ?_))
    refine s_iteN rfl (fun h3 => ?_) (fun h3 => absurd h3 hne)
    (repeat (first|(with_reducible first|refine Ja ?_|refine Jb ?_|refine Jc ?_|refine Jd ?_|refine Je ?_|refine Jf ?_|refine Jg ?_|refine Jh ?_|refine Ji ?_|refine Jj ?_|refine Jk rfl ?_|refine Jl ?_|refine Jm ?_|refine Jn ?_|refine Jo ?_|refine Jp ?_|refine Jq ?_)|refine JA rfl ?_|refine JB rfl ?_|refine JC rfl ?_|refine JD rfl ?_|refine JE rfl ?_|refine JF rfl ?_|refine JG rfl ?_|refine JH rfl ?_|refine JI rfl ?_|refine J2 rfl ?_|refine J3 rfl ?_|refine J4 rfl ?_|refine J1 rfl ?_|refine J6 rfl ?_|refine J7 rfl ?_|refine JJ rfl ?_|refine JK rfl ?_|refine JQ rfl ?_|refine JL rfl rfl ?_|refine JM rfl rfl ?_|refine JN rfl ?_|refine JO rfl ?_|refine JP rfl ?_))
    refine e_add (a := ix) (b := 1) rfl rfl (by omega) (by omega) ?_
    (repeat (first|(with_reducible first|refine Ja ?_|refine Jb ?_|refine Jc ?_|refine Jd ?_|refine Je ?_|refine Jf ?_|refine Jg ?_|refine Jh ?_|refine Ji ?_|refine Jj ?_|refine Jk rfl ?_|refine Jl ?_|refine Jm ?_|refine Jn ?_|refine Jo ?_|refine Jp ?_|refine Jq ?_)|refine JA rfl ?_|refine JB rfl ?_|refine JC rfl ?_|refine JD rfl ?_|refine JE rfl ?_|refine JF rfl ?_|refine JG rfl ?_|refine JH rfl ?_|refine JI rfl ?_|refine J2 rfl ?_|refine J3 rfl ?_|refine J4 rfl ?_|refine J1 rfl ?_|refine J6 rfl ?_|refine J7 rfl ?_|refine JJ rfl ?_|refine JK rfl ?_|refine JQ rfl ?_|refine JL rfl rfl ?_|refine JM rfl rfl ?_|refine JN rfl ?_|refine JO rfl ?_|refine JP rfl ?_))
    exact again (Y := [_, _]) hres rfl rfl rfl rfl rfl rfl rfl S
  | some gp =>
    obtain ⟨gn, pl⟩ := gp
    rw [hO] at hop hres
    simp only at hop hres
    refine e_callP rfl hop S fun w S => ?_
    (repeat (first|(with_reducible first|refine Ja ?_|refine Jb ?_|refine Jc ?_|refine Jd ?_|refine Je ?_|refine Jf ?_|refine Jg ?_|refine Jh ?_|refine Ji ?_|refine Jj ?_|refine Jk rfl ?_|refine Jl ?_|refine Jm ?_|refine Jn ?_|refine Jo ?_|refine Jp ?_|refine Jq ?_)|refine JA rfl ?_|refine JB rfl ?_|refine JC rfl ?_|refine JD rfl ?_|refine JE rfl ?_|refine JF rfl ?_|refine JG rfl ?_|refine JH rfl ?_|refine JI rfl ?_|refine J2 rfl ?_|refine J3 rfl ?_|refine J4 rfl ?_|refine J1 rfl ?_|refine J6 rfl ?_|refine J7 rfl ?_|refine JJ rfl ?_|refine JK rfl ?_|refine JQ rfl ?_|refine JL rfl rfl ?_|refine JM rfl rfl ?_|refine JN rfl ?_|refine JO rfl ?_|refine JP rfl ?_))
    refine e_nw S fun b12 w S => ?_
    refine e_st (vs := gn.v) S 0 rfl rfl rfl rfl (by simp [Gn.v, Value.flat]) (by simp) fun w S => ?_
    (repeat (first|(with_reducible first|refine Ja ?_|refine Jb ?_|refine Jc ?_|refine Jd ?_|refine Je ?_|refine Jf ?_|refine Jg ?_|refine Jh ?_|refine Ji ?_|refine Jj ?_|refine Jk rfl ?_|refine Jl ?_|refine Jm ?_|refine Jn ?_|refine Jo ?_|refine Jp ?_|refine Jq ?_)|refine JA rfl ?_|refine JB rfl ?_|refine JC rfl ?_|refine JD rfl ?_|refine JE rfl ?_|refine JF rfl ?_|refine JG rfl ?_|refine JH rfl ?_|refine JI rfl ?_|refine J2 rfl ?_|refine J3 rfl ?_|refine J4 rfl ?_|refine J1 rfl ?_|refine J6 rfl ?_|refine J7 rfl ?_|refine JJ rfl ?_|refine JK rfl ?_|refine JQ rfl ?_|refine JL rfl rfl ?_|refine JM rfl rfl ?_|refine JN rfl ?_|refine JO rfl ?_|refine JP rfl ?_))
    refine e_ld (v := .int .i64 gn.epoch) (S.cell 0 rfl rfl) ?_
    refine e_p (v := .int .i64 (maxI la gn.epoch)) rfl ?_
    (repeat (first|(with_reducible first|refine Ja ?_|refine Jb ?_|refine Jc ?_|refine Jd ?_|refine Je ?_|refine Jf ?_|refine Jg ?_|refine Jh ?_|refine Ji ?_|refine Jj ?_|refine Jk rfl ?_|refine Jl ?_|refine Jm ?_|refine Jn ?_|refine Jo ?_|refine Jp ?_|refine Jq ?_)|refine JA rfl ?_|refine JB rfl ?_|refine JC rfl ?_|refine JD rfl ?_|refine JE rfl ?_|refine JF rfl ?_|refine JG rfl ?_|refine JH rfl ?_|refine JI rfl ?_|refine J2 rfl ?_|refine J3 rfl ?_|refine J4 rfl ?_|refine J1 rfl ?_|refine J6 rfl ?_|refine J7 rfl ?_|refine JJ rfl ?_|refine JK rfl ?_|refine JQ rfl ?_|refine JL rfl rfl ?_|refine JM rfl rfl ?_|refine JN rfl ?_|refine JO rfl ?_|refine JP rfl ?_))
    refine e_ld (v := .int .i64 gn.epoch) (S.cell 0 rfl rfl) ?_
    refine e_arv rfl rfl (ar_remI gn.epoch 2 (by omega)) ?_
    refine e_p (cmp_eqlD rfl rfl) ?_
    (repeat (with_reducible first|refine Ja ?_|refine Jb ?_|refine Jc ?_|refine Jd ?_|refine Je ?_|refine Jf ?_|refine Jg ?_|refine Jh ?_|refine Ji ?_|refine Jj ?_|refine Jk rfl ?_|refine Jl ?_|refine Jm ?_|refine Jn ?_|refine Jo ?_|refine Jp ?_|refine Jq ?_))
    refine s_iteD rfl (fun ho => ?_) (fun ho => ?_)
    · rw [if_pos ho] at hres
      (repeat (first|(with_reducible first|refine Ja ?_|refine Jb ?_|refine Jc ?_|refine Jd ?_|refine Je ?_|refine Jf ?_|refine Jg ?_|refine Jh ?_|refine Ji ?_|refine Jj ?_|refine Jk rfl ?_|refine Jl ?_|refine Jm ?_|refine Jn ?_|refine Jo ?_|refine Jp ?_|refine Jq ?_)|refine JA rfl ?_|refine JB rfl ?_|refine JC rfl ?_|refine JD rfl ?_|refine JE rfl ?_|refine JF rfl ?_|refine JG rfl ?_|refine JH rfl ?_|refine JI rfl ?_|refine J2 rfl ?_|refine J3 rfl ?_|refine J4 rfl ?_|refine J1 rfl ?_|refine J6 rfl ?_|refine J7 rfl ?_|refine JJ rfl ?_|refine JK rfl ?_|refine JQ rfl ?_|refine JL rfl rfl ?_|refine JM rfl rfl ?_|refine JN rfl ?_|refine JO rfl ?_|refine JP rfl ?_))
      refine e_ld (v := .int .i64 gn.epoch) (S.cell 0 rfl rfl) ?_
      refine e_p (v := .int .i64 (maxI od gn.epoch)) rfl ?_
      (repeat (first|(with_reducible first|refine Ja ?_|refine Jb ?_|refine Jc ?_|refine Jd ?_|refine Je ?_|refine Jf ?_|refine Jg ?_|refine Jh ?_|refine Ji ?_|refine Jj ?_|refine Jk rfl ?_|refine Jl ?_|refine Jm ?_|refine Jn ?_|refine Jo ?_|refine Jp ?_|refine Jq ?_)|refine JA rfl ?_|refine JB rfl ?_|refine JC rfl ?_|refine JD rfl ?_|refine JE rfl ?_|refine JF rfl ?_|refine JG rfl ?_|refine JH rfl ?_|refine JI rfl ?_|refine J2 rfl ?_|refine J3 rfl ?_|refine J4 rfl ?_|refine J1 rfl ?_|refine J6 rfl ?_|refine J7 rfl ?_|refine JJ rfl ?_|refine JK rfl ?_|refine JQ rfl ?_|refine JL rfl rfl ?_|refine JM rfl rfl ?_|refine JN rfl ?_|refine JO rfl ?_|refine JP rfl ?_))
      refine e_add (a := ix) (b := 1) rfl rfl (by omega) (by omega) ?_
      (repeat (first|(with_reducible first|refine Ja ?_|refine Jb ?_|refine Jc ?_|refine Jd ?_|refine Je ?_|refine Jf ?_|refine Jg ?_|refine Jh ?_|refine Ji ?_|refine Jj ?_|refine Jk rfl ?_|refine Jl ?_|refine Jm ?_|refine Jn ?_|refine Jo ?_|refine Jp ?_|refine Jq ?_)|refine JA rfl ?_|refine JB rfl ?_|refine JC rfl ?_|refine JD rfl ?_|refine JE rfl ?_|refine JF rfl ?_|refine JG rfl ?_|refine JH rfl ?_|refine JI rfl ?_|refine J2 rfl ?_|refine J3 rfl ?_|refine J4 rfl ?_|refine J1 rfl ?_|refine J6 rfl ?_|refine J7 rfl ?_|refine JJ rfl ?_|refine JK rfl ?_|refine JQ rfl ?_|refine JL rfl rfl ?_|refine JM rfl rfl ?_|refine JN rfl ?_|refine JO rfl ?_|refine JP rfl ?_))
      exact again (Y := [_, _]) hres rfl rfl rfl rfl rfl rfl rfl S
    · rw [if_neg ho] at hres
      (repeat (first|(with_reducible first|refine Ja ?_|refine Jb ?_|refine Jc ?_|refine Jd ?_|refine Je ?_|refine Jf ?_|refine Jg ?_|refine Jh ?_|refine Ji ?_|refine Jj ?_|refine Jk rfl ?_|refine Jl ?_|refine Jm ?_|refine Jn ?_|refine Jo ?_|refine Jp ?_|refine Jq ?_)|refine JA rfl ?_|refine JB rfl ?_|refine JC rfl ?_|refine JD rfl ?_|refine JE rfl ?_|refine JF rfl ?_|refine JG rfl ?_|refine JH rfl ?_|refine JI rfl ?_|refine J2 rfl ?_|refine J3 rfl ?_|refine J4 rfl ?_|refine J1 rfl ?_|refine J6 rfl ?_|refine J7 rfl ?_|refine JJ rfl ?_|refine JK rfl ?_|refine JQ rfl ?_|refine JL rfl rfl ?_|refine JM rfl rfl ?_|refine JN rfl ?_|refine JO rfl ?_|refine JP rfl ?_))
      refine e_add (a := ix) (b := 1) rfl rfl (by omega) (by omega) ?_
      (repeat (first|(with_reducible first|refine Ja ?_|refine Jb ?_|refine Jc ?_|refine Jd ?_|refine Je ?_|refine Jf ?_|refine Jg ?_|refine Jh ?_|refine Ji ?_|refine Jj ?_|refine Jk rfl ?_|refine Jl ?_|refine Jm ?_|refine Jn ?_|refine Jo ?_|refine Jp ?_|refine Jq ?_)|refine JA rfl ?_|refine JB rfl ?_|refine JC rfl ?_|refine JD rfl ?_|refine JE rfl ?_|refine JF rfl ?_|refine JG rfl ?_|refine JH rfl ?_|refine JI rfl ?_|refine J2 rfl ?_|refine J3 rfl ?_|refine J4 rfl ?_|refine J1 rfl ?_|refine J6 rfl ?_|refine J7 rfl ?_|refine JJ rfl ?_|refine JK rfl ?_|refine JQ rfl ?_|refine JL rfl rfl ?_|refine JM rfl rfl ?_|refine JN rfl ?_|refine JO rfl ?_|refine JP rfl ?_))
      exact again (Y := [_, _]) hres rfl rfl rfl rfl rfl rfl rfl S

end Go.Proofs.Ytgendpinmmmfjaa

/-
  What the model computes does not hang on block numbers.
-/
namespace Dn
open Go

def eD (D : Dk) : Dk := { D with q := 0, b := 0, c := 0, a := 0 }
def eB (b : Dk × Int) : Dk × Int := (eD b.1, b.2)
/-- a shelf without its block numbers -/
def erase (s : Sh) : Sh := { s with q := 0, bb := 0, cap := 0, sp := [], fr := (0, 0), bays := s.bays.map eB }

theorem er_bay (s : Sh) (d : Nat) : (erase s).bays[d]? = (s.bays[d]?).map eB := by simp [erase]
theorem er_state (s : Sh) (d : Int) : (erase s).state d = s.state d := by
  unfold Sh.state
  rw [er_bay]
  simp only [erase, List.length_map]
  split
  · rfl
  · cases s.bays[d.toNat]? <;> rfl
theorem er_num (s : Sh) (p : Pl) : (erase s).num p = s.num p := by
  unfold Sh.num
  rw [er_state]; rfl
theorem er_acc (s : Sh) (d : Nat) : (erase s).acc d = s.acc d := by
  unfold Sh.acc
  rw [er_bay]
  cases h : s.bays[d]? <;> rfl
theorem er_dk (s : Sh) (d : Nat) : (erase s).dk d = eD (s.dk d) := by
  unfold Sh.dk
  rw [er_bay]
  cases s.bays[d]? <;> rfl
theorem er_stepE (s : Sh) (d : Nat) : (erase s).stepE d = s.stepE d := by unfold Sh.stepE; rw [er_acc]; rfl
theorem er_wrE (s : Sh) (p : Pl) (t : Sec) : (erase s).wrE p t = s.wrE p t := by unfold Sh.wrE; rw [er_num, er_stepE]
theorem er_rdO (s : Sh) (p : Pl) : (erase s).rdO p = s.rdO p := by
  unfold Sh.rdO
  rw [er_num, er_acc, er_dk]; rfl
theorem er_write (D : Dk) (i : Int) (t : Sec) : (eD D).write i t = eD (D.write i t) := by
  unfold Dk.write eD
  simp only
  split <;> rfl
theorem er_setD (s : Sh) (d : Nat) (D : Dk) : (erase s).setD d (eD D) = erase (s.setD d D) := by
  unfold Sh.setD
  rw [er_bay]
  simp only [erase, List.map_set]
  congr 2
  cases s.bays[d]? <;> rfl
theorem er_stepS (s : Sh) (d : Nat) (D : Dk) : (erase s).stepS d (eD D) = erase (s.stepS d D) := by
  unfold Sh.stepS
  rw [er_acc]
  have h1 : (erase s).fused = s.fused := rfl
  have h2 : (erase s).left = s.left := rfl
  rw [h1, h2]
  split
  · rfl
  split
  · split
    · rfl
    · have := er_setD s d D
      rw [this]; rfl
  · exact er_setD s d D
theorem er_wrS (s : Sh) (p : Pl) (t : Sec) : (erase s).wrS p t = erase (s.wrS p t) := by
  unfold Sh.wrS
  rw [er_num]
  split
  · rfl
  · rw [er_dk, er_write, er_stepS]
theorem er_appW (d : Int) (t : Tl) (g : Gn) (r : Sec) : ∀ (k i : Nat) (s : Sh), appW d t g r k i (erase s) = ((appW d t g r k i s).1, erase (appW d t g r k i s).2) := by
  intro k
  induction k with
  | zero => intro i s; rfl
  | succ k ih =>
    intro i s
    simp only [appW, er_wrE, er_wrS]
    split
    · exact ih _ _
    · rfl
theorem er_append (s : Sh) (d : Int) (t : Tl) (g : Gn) (r : Sec) : appendW (erase s) d t g r = ((appendW s d t g r).1, (appendW s d t g r).2.1, erase (appendW s d t g r).2.2) := by
  have hv : (validW (erase s) d t ∧ g.ok0) ↔ (validW s d t ∧ g.ok0) := Iff.rfl
  have hc : (erase s).cfg = s.cfg := rfl
  unfold appendW
  rw [hc, er_appW]
  by_cases h1 : validW s d t ∧ g.ok0
  · rw [if_neg (fun h => h (hv.2 h1))]
    rw [show ∀ (x y : Tl × Int × Sh), (if ¬ (validW s d t ∧ g.ok0) then x else y) = y from fun x y => if_neg (fun h => h h1)]
    by_cases h2 : ¬ g.newer t.gen
    · rw [if_pos h2, if_pos h2]
    rw [if_neg h2, if_neg h2]
    by_cases h3 : r.length > 4096
    · rw [if_pos h3, if_pos h3]
    rw [if_neg h3, if_neg h3]
    by_cases h4 : t.next + sizeW r.length > s.cfg.logN
    · rw [if_pos h4, if_pos h4]
    rw [if_neg h4, if_neg h4]
    by_cases h5 : (appW d t g r (sizeW r.length) 0 s).1 = 0
    · rw [if_pos h5, if_pos h5]
    · rw [if_neg h5, if_neg h5]
  · rw [if_pos (fun h => h1 (hv.1 h)), if_pos h1]
theorem er_read (s : Sh) (d i : Int) : readW (erase s) d i = readW s d i := by
  unfold readW
  rw [er_rdO]; rfl
theorem er_rest (s : Sh) (d : Int) (t : Tl) (x : Pt) : ∀ (k i : Nat) (acc : Sec), restW (erase s) d t x k i acc = restW s d t x k i acc := by
  intro k
  induction k with
  | zero => intro i acc; rfl
  | succ k ih => intro i acc; simp only [restW, er_read, ih]
theorem er_next (s : Sh) (d : Int) (t : Tl) : nextW (erase s) d t = nextW s d t := by
  unfold nextW
  simp only [er_read, er_rest]
theorem er_scanW (s : Sh) (d : Int) : ∀ (k : Nat) (t : Tl) (acc : List Sec), scanW (erase s) d k t acc = scanW s d k t acc := by
  intro k
  induction k with
  | zero => intro t acc; rfl
  | succ k ih => intro t acc; simp only [scanW, er_next, ih]
theorem er_scan (s : Sh) (d : Int) (t : Tl) : scanFull (erase s) d t = scanFull s d t := by
  unfold scanFull
  rw [er_scanW]
  by_cases h : validW s d t
  · rw [if_pos (show validW (erase s) d t from h), if_pos h]
  · rw [if_neg (show ¬ validW (erase s) d t from h), if_neg h]
theorem er_mark (s : Sh) (d n : Int) : markW (erase s) d n = ((markW s d n).1, erase (markW s d n).2) := by
  have hp : markP (erase s) d n = markP s d n := rfl
  unfold markW
  rw [hp, er_wrE, er_wrS]
  by_cases h : markOK s d n
  · rw [if_pos (show markOK (erase s) d n from h), if_pos h]
  · rw [if_neg (show ¬ markOK (erase s) d n from h), if_neg h]
theorem er_mkd (s : Sh) (d : Int) : ∀ (k : Nat) (i la od : Int), mkdRun (erase s) d k i la od = mkdRun s d k i la od := by
  intro k
  induction k with
  | zero => intro i la od; rfl
  | succ k ih => intro i la od; simp only [mkdRun, er_rdO, ih]
theorem er_marked (s : Sh) (d : Int) : markedW (erase s) d = markedW s d := by
  unfold markedW
  rw [er_mkd]; rfl

/-- a new shelf, for reckoning -/
def dk0 (n : Nat) : Dk := ⟨0, 0, 0, 0, List.replicate n zsec, ⟨[], 0⟩, ⟨[], 0⟩⟩
def sh0 (c : Cfg) : Sh := ⟨0, 0, 0, [], (0, 0), c, List.replicate c.disks.toNat (dk0 c.total.toNat, 1), false, false, 0⟩

end Dn

/-
  A new shelf without its block numbers; the sanity example reckoned.
-/
namespace Go.Proofs.Ytgendpinmmmfjaa
open Dn
attribute [local irreducible] Evs Ev EvT DSpec PSpec CallTo
set_option maxRecDepth 100000

theorem fresh_erase {s : Sh} {c : Cfg} (h : ShFresh s c) : erase s = sh0 c := by
  have hb : s.bays.map eB = List.replicate c.disks.toNat (dk0 c.total.toNat, 1) := by
    rw [List.eq_replicate_iff]
    refine ⟨by rw [List.length_map]; have := h.len; omega, fun x hx => ?_⟩
    obtain ⟨b, hb, rfl⟩ := List.mem_map.1 hx
    obtain ⟨h1, h2, h3, h4⟩ := h.bay b hb
    obtain ⟨D, st⟩ := b
    simp only at h1 h2 h3 h4
    subst h1
    simp only [eB, eD, dk0, h2, h3, h4]
  unfold erase sh0
  rw [hb, h.off, h.fused, h.left, h.cfg]

/-! the sanity example -/
def sS : Sh := sh0 (lawCfg 8)
def sA : Tl × Int × Sh := appendW sS 0 zT ⟨1, 1⟩ [97, 98]
def sB : Tl × Int × Sh := appendW sA.2.2 0 sA.1 ⟨1, 2⟩ (textW 27 97)
def sStale : Tl × Int × Sh := appendW sB.2.2 0 sB.1 ⟨1, 2⟩ [99]
def sFull : Tl × Int × Sh := appendW sStale.2.2 0 sB.1 ⟨1, 3⟩ (textW 131 97)
def sM4 : Int × Sh := markW sFull.2.2 0 4
def sM5 : Int × Sh := markW sM4.2 0 5
def sM6 : Int × Sh := markW sM5.2 0 6
theorem san1 : sA.2.1 = 0 ∧ sA.1 = ⟨1, 1, ⟨1, 1⟩⟩ ∧ sB.2.1 = 0 ∧ sB.1 = ⟨3, 2, ⟨1, 2⟩⟩ := by decide +kernel
theorem san2 : sStale.2.1 = 9 ∧ sFull.2.1 = 16 := by decide +kernel
theorem san3 : scanFull sB.2.2 0 zT = ([[97, 98], textW 27 97], sB.1, 0) := by decide +kernel
theorem san4 : markedW sFull.2.2 0 = (0, 0, 0) ∧ sM4.1 = 0 ∧ sM5.1 = 0 ∧ sM6.1 = 0 ∧ markedW sM6.2 0 = (6, 5, 0) ∧ (markW sM6.2 0 0).1 = 1 := by decide +kernel

end Go.Proofs.Ytgendpinmmmfjaa

/-
  The walk of sanity: its second half.
-/
namespace Go.Proofs.Ytgendpinmmmfjaa
open Dn
attribute [local irreducible] Evs Ev EvT DSpec PSpec CallTo
set_option maxRecDepth 100000
set_option maxHeartbeats 4000000

theorem ap_facts {s S0 : Sh} (h : s.ok) (e : erase s = S0) (d : Int) (t : Tl) (g : Gn) (r : Sec) : (appendW s d t g r).1 = (appendW S0 d t g r).1 ∧ (appendW s d t g r).2.1 = (appendW S0 d t g r).2.1 ∧ erase (appendW s d t g r).2.2 = (appendW S0 d t g r).2.2 ∧ (appendW s d t g r).2.2.ok ∧ (appendW s d t g r).2.2.v = s.v := by
  have h1 := er_append s d t g r
  rw [e] at h1
  obtain ⟨k1, k2, k3⟩ := append_ok h d t g r
  rw [h1]
  exact ⟨rfl, rfl, rfl, k1, by simp only [Sh.v, k3]⟩
theorem mark_ok {s : Sh} (h : s.ok) (d n : Int) : (markW s d n).2.ok ∧ (markW s d n).2.cfg = s.cfg ∧ (markW s d n).2.q = s.q := by
  unfold markW
  split
  · exact wr_ok h _ _
  · exact ⟨h, rfl, rfl⟩
theorem mk_facts {s S0 : Sh} (h : s.ok) (e : erase s = S0) (d n : Int) : (markW s d n).1 = (markW S0 d n).1 ∧ erase (markW s d n).2 = (markW S0 d n).2 ∧ (markW s d n).2.ok ∧ (markW s d n).2.v = s.v := by
  have h1 := er_mark s d n
  rw [e] at h1
  obtain ⟨k1, k2, k3⟩ := mark_ok h d n
  rw [h1]
  exact ⟨rfl, rfl, k1, by simp only [Sh.v, k3]⟩

/-- What stands behind n pieces of code. -/
def cdTl : Nat → Cd → Cd
  | 0, a => a
  | n + 1, .seq _ b => cdTl n b
  | _ + 1, a => a

theorem l_sanityB {w : World} {F : Fr} {Q : Value → World → Prop} {s q : Sh} {b9 b6 b4 b3 : Nat} {adl : Option Addr} {capl : Nat} {Ll : List (Nat × Obj)} {gg : Nat → Value}
    (hb1 : q.ok) (hb2 : q.v = s.v) (hb3 : erase q = sFull.2.2) (hOl : OwnT adl 2 capl [[97, 98], textW 27 97] Ll)
    (S : Dn.Sep w (([(b9, .cells ⟨sB.1.v⟩ 31), (b6, .cells ⟨sB.1.v⟩ 31), (b4, .cells ⟨sA.1.v⟩ 31), (b3, .cells ⟨zT.v⟩ 31)] ++ Ll) ++ q.L) F)
    (hQ : ∀ w, Dn.Sep w [] F → Q (.bool true) w) :
    Ev Try.prog 185 (cdTl 9 c10.body) (finK [.t (.r 0)] Q) (setL ⟨gg, []⟩ [(14, .int .i64 16), (1, s.v), (4, .pointer (some ⟨b4, 0, none⟩)), (6, .pointer (some ⟨b6, 0, none⟩)), (9, .pointer (some ⟨b9, 0, none⟩)), (5, .int .i64 0), (7, .int .i64 0), (8, .slice adl 2 capl), (10, .int .i64 0), (12, .int .i64 9)]) w := by
  have san1' := san1
  have san2' := san2
  have san3' := san3
  obtain ⟨m1, m2, m3, m4, m5, m6⟩ := san4
  show Ev Try.prog 185 (.seq _ _) _ _ _
  simp only [setL]
  have hmk : ∀ {q : Sh} {S0 : Sh}, q.ok → q.v = s.v → erase q = S0 → ∀ {a b c : Int}, markedW S0 0 = (a, b, c) → DSpec Try.prog 24 [s.v, .int .i64 0] q.L fun v L => v = .tuple ⟨[.int .i64 a, .int .i64 b, .int .i64 c]⟩ ∧ L = q.L := by
    intro q S0 h1 h2 h3 a b c h4
    have := w_marked q 0 h1
    rw [← er_marked q 0, h3, h4, h2] at this
    exact this
  have hmr : ∀ {q : Sh} {S0 : Sh} {n e : Int}, q.ok → q.v = s.v → erase q = S0 → (markW S0 0 n).1 = e → DSpec Try.prog 23 [s.v, .int .i64 0, .int .i64 n] q.L fun v L => v = .int .i64 e ∧ ∃ q' : Sh, L = q'.L ∧ q'.ok ∧ q'.v = s.v ∧ erase q' = (markW S0 0 n).2 := by
    intro q S0 n e h1 h2 h3 h4
    have := w_mark q 0 n h1
    obtain ⟨g1, g2, g3, g4⟩ := mk_facts h1 h3 0 n
    rw [h2, g1, h4] at this
    refine this.mono ?_
    rintro v L ⟨h5, h6⟩
    exact ⟨h5, _, h6, g3, g4.trans h2, g2⟩
  rw [san1'.2.1, san1'.2.2.2] at S
  (repeat (first|(with_reducible first|refine Ja ?_|refine Jb ?_|refine Jc ?_|refine Jd ?_|refine Je ?_|refine Jf ?_|refine Jg ?_|refine Jh ?_|refine Ji ?_|refine Jj ?_|refine Jk rfl ?_|refine Jl ?_|refine Jm ?_|refine Jn ?_|refine Jo ?_|refine Jp ?_|refine Jq ?_)|refine JA rfl ?_|refine JB rfl ?_|refine JC rfl ?_|refine JD rfl ?_|refine JE rfl ?_|refine JF rfl ?_|refine JG rfl ?_|refine JH rfl ?_|refine JI rfl ?_|refine J2 rfl ?_|refine J3 rfl ?_|refine J4 rfl ?_|refine J1 rfl ?_|refine J6 rfl ?_|refine J7 rfl ?_|refine JJ rfl ?_|refine JK rfl ?_|refine JQ rfl ?_|refine JL rfl rfl ?_|refine JM rfl rfl ?_|refine JN rfl ?_|refine JO rfl ?_|refine JP rfl ?_))
  refine e_call (L2 := _ ++ Ll) rfl (hmk hb1 hb2 hb3 m1) S ?_
  rintro _ _ w ⟨rfl, rfl⟩ S
  (repeat (first|(with_reducible first|refine Ja ?_|refine Jb ?_|refine Jc ?_|refine Jd ?_|refine Je ?_|refine Jf ?_|refine Jg ?_|refine Jh ?_|refine Ji ?_|refine Jj ?_|refine Jk rfl ?_|refine Jl ?_|refine Jm ?_|refine Jn ?_|refine Jo ?_|refine Jp ?_|refine Jq ?_)|refine JA rfl ?_|refine JB rfl ?_|refine JC rfl ?_|refine JD rfl ?_|refine JE rfl ?_|refine JF rfl ?_|refine JG rfl ?_|refine JH rfl ?_|refine JI rfl ?_|refine J2 rfl ?_|refine J3 rfl ?_|refine J4 rfl ?_|refine J1 rfl ?_|refine J6 rfl ?_|refine J7 rfl ?_|refine JJ rfl ?_|refine JK rfl ?_|refine JQ rfl ?_|refine JL rfl rfl ?_|refine JM rfl rfl ?_|refine JN rfl ?_|refine JO rfl ?_|refine JP rfl ?_))
  refine e_call (L2 := _ ++ Ll) rfl (hmr hb1 hb2 hb3 (n := 4) m2) S ?_
  rintro _ _ w ⟨rfl, q4, rfl, k1, k2, k3⟩ S
  (repeat (first|(with_reducible first|refine Ja ?_|refine Jb ?_|refine Jc ?_|refine Jd ?_|refine Je ?_|refine Jf ?_|refine Jg ?_|refine Jh ?_|refine Ji ?_|refine Jj ?_|refine Jk rfl ?_|refine Jl ?_|refine Jm ?_|refine Jn ?_|refine Jo ?_|refine Jp ?_|refine Jq ?_)|refine JA rfl ?_|refine JB rfl ?_|refine JC rfl ?_|refine JD rfl ?_|refine JE rfl ?_|refine JF rfl ?_|refine JG rfl ?_|refine JH rfl ?_|refine JI rfl ?_|refine J2 rfl ?_|refine J3 rfl ?_|refine J4 rfl ?_|refine J1 rfl ?_|refine J6 rfl ?_|refine J7 rfl ?_|refine JJ rfl ?_|refine JK rfl ?_|refine JQ rfl ?_|refine JL rfl rfl ?_|refine JM rfl rfl ?_|refine JN rfl ?_|refine JO rfl ?_|refine JP rfl ?_))
  refine e_call (L2 := _ ++ Ll) rfl (hmr k1 k2 k3 (n := 5) m3) S ?_
  rintro _ _ w ⟨rfl, q5, rfl, k1, k2, k3⟩ S
  (repeat (first|(with_reducible first|refine Ja ?_|refine Jb ?_|refine Jc ?_|refine Jd ?_|refine Je ?_|refine Jf ?_|refine Jg ?_|refine Jh ?_|refine Ji ?_|refine Jj ?_|refine Jk rfl ?_|refine Jl ?_|refine Jm ?_|refine Jn ?_|refine Jo ?_|refine Jp ?_|refine Jq ?_)|refine JA rfl ?_|refine JB rfl ?_|refine JC rfl ?_|refine JD rfl ?_|refine JE rfl ?_|refine JF rfl ?_|refine JG rfl ?_|refine JH rfl ?_|refine JI rfl ?_|refine J2 rfl ?_|refine J3 rfl ?_|refine J4 rfl ?_|refine J1 rfl ?_|refine J6 rfl ?_|refine J7 rfl ?_|refine JJ rfl ?_|refine JK rfl ?_|refine JQ rfl ?_|refine JL rfl rfl ?_|refine JM rfl rfl ?_|refine JN rfl ?_|refine JO rfl ?_|refine JP rfl ?_))
  refine e_call (L2 := _ ++ Ll) rfl (hmr k1 k2 k3 (n := 6) m4) S ?_
  rintro _ _ w ⟨rfl, q6, rfl, k1, k2, k3⟩ S
  (repeat (first|(with_reducible first|refine Ja ?_|refine Jb ?_|refine Jc ?_|refine Jd ?_|refine Je ?_|refine Jf ?_|refine Jg ?_|refine Jh ?_|refine Ji ?_|refine Jj ?_|refine Jk rfl ?_|refine Jl ?_|refine Jm ?_|refine Jn ?_|refine Jo ?_|refine Jp ?_|refine Jq ?_)|refine JA rfl ?_|refine JB rfl ?_|refine JC rfl ?_|refine JD rfl ?_|refine JE rfl ?_|refine JF rfl ?_|refine JG rfl ?_|refine JH rfl ?_|refine JI rfl ?_|refine J2 rfl ?_|refine J3 rfl ?_|refine J4 rfl ?_|refine J1 rfl ?_|refine J6 rfl ?_|refine J7 rfl ?_|refine JJ rfl ?_|refine JK rfl ?_|refine JQ rfl ?_|refine JL rfl rfl ?_|refine JM rfl rfl ?_|refine JN rfl ?_|refine JO rfl ?_|refine JP rfl ?_))
  refine e_call (L2 := _ ++ Ll) rfl (hmk k1 k2 k3 m5) S ?_
  rintro _ _ w ⟨rfl, rfl⟩ S
  (repeat (first|(with_reducible first|refine Ja ?_|refine Jb ?_|refine Jc ?_|refine Jd ?_|refine Je ?_|refine Jf ?_|refine Jg ?_|refine Jh ?_|refine Ji ?_|refine Jj ?_|refine Jk rfl ?_|refine Jl ?_|refine Jm ?_|refine Jn ?_|refine Jo ?_|refine Jp ?_|refine Jq ?_)|refine JA rfl ?_|refine JB rfl ?_|refine JC rfl ?_|refine JD rfl ?_|refine JE rfl ?_|refine JF rfl ?_|refine JG rfl ?_|refine JH rfl ?_|refine JI rfl ?_|refine J2 rfl ?_|refine J3 rfl ?_|refine J4 rfl ?_|refine J1 rfl ?_|refine J6 rfl ?_|refine J7 rfl ?_|refine JJ rfl ?_|refine JK rfl ?_|refine JQ rfl ?_|refine JL rfl rfl ?_|refine JM rfl rfl ?_|refine JN rfl ?_|refine JO rfl ?_|refine JP rfl ?_))
  refine e_call (L2 := _ ++ Ll) rfl (hmr k1 k2 k3 (n := 0) m6) S ?_
  rintro _ _ w ⟨rfl, q7, rfl, k1, k2, k3⟩ S
  (repeat (first|(with_reducible first|refine Ja ?_|refine Jb ?_|refine Jc ?_|refine Jd ?_|refine Je ?_|refine Jf ?_|refine Jg ?_|refine Jh ?_|refine Ji ?_|refine Jj ?_|refine Jk rfl ?_|refine Jl ?_|refine Jm ?_|refine Jn ?_|refine Jo ?_|refine Jp ?_|refine Jq ?_)|refine JA rfl ?_|refine JB rfl ?_|refine JC rfl ?_|refine JD rfl ?_|refine JE rfl ?_|refine JF rfl ?_|refine JG rfl ?_|refine JH rfl ?_|refine JI rfl ?_|refine J2 rfl ?_|refine J3 rfl ?_|refine J4 rfl ?_|refine J1 rfl ?_|refine J6 rfl ?_|refine J7 rfl ?_|refine JJ rfl ?_|refine JK rfl ?_|refine JQ rfl ?_|refine JL rfl rfl ?_|refine JM rfl rfl ?_|refine JN rfl ?_|refine JO rfl ?_|refine JP rfl ?_))
  refine e_ld (v := .agg ⟨(⟨1, 1, ⟨1, 1⟩⟩ : Tl).v⟩) (S.row 2 rfl (by simp [Tl.v]) rfl) ?_
  (repeat (first|(with_reducible first|refine Ja ?_|refine Jb ?_|refine Jc ?_|refine Jd ?_|refine Je ?_|refine Jf ?_|refine Jg ?_|refine Jh ?_|refine Ji ?_|refine Jj ?_|refine Jk rfl ?_|refine Jl ?_|refine Jm ?_|refine Jn ?_|refine Jo ?_|refine Jp ?_|refine Jq ?_)|refine JA rfl ?_|refine JB rfl ?_|refine JC rfl ?_|refine JD rfl ?_|refine JE rfl ?_|refine JF rfl ?_|refine JG rfl ?_|refine JH rfl ?_|refine JI rfl ?_|refine J2 rfl ?_|refine J3 rfl ?_|refine J4 rfl ?_|refine J1 rfl ?_|refine J6 rfl ?_|refine J7 rfl ?_|refine JJ rfl ?_|refine JK rfl ?_|refine JQ rfl ?_|refine JL rfl rfl ?_|refine JM rfl rfl ?_|refine JN rfl ?_|refine JO rfl ?_|refine JP rfl ?_))
  refine e_ld (v := .agg ⟨(⟨3, 2, ⟨1, 2⟩⟩ : Tl).v⟩) (S.row 1 rfl (by simp [Tl.v]) rfl) ?_
  (repeat (first|(with_reducible first|refine Ja ?_|refine Jb ?_|refine Jc ?_|refine Jd ?_|refine Je ?_|refine Jf ?_|refine Jg ?_|refine Jh ?_|refine Ji ?_|refine Jj ?_|refine Jk rfl ?_|refine Jl ?_|refine Jm ?_|refine Jn ?_|refine Jo ?_|refine Jp ?_|refine Jq ?_)|refine JA rfl ?_|refine JB rfl ?_|refine JC rfl ?_|refine JD rfl ?_|refine JE rfl ?_|refine JF rfl ?_|refine JG rfl ?_|refine JH rfl ?_|refine JI rfl ?_|refine J2 rfl ?_|refine J3 rfl ?_|refine J4 rfl ?_|refine J1 rfl ?_|refine J6 rfl ?_|refine J7 rfl ?_|refine JJ rfl ?_|refine JK rfl ?_|refine JQ rfl ?_|refine JL rfl rfl ?_|refine JM rfl rfl ?_|refine JN rfl ?_|refine JO rfl ?_|refine JP rfl ?_))
  refine e_ld (v := .agg ⟨(⟨3, 2, ⟨1, 2⟩⟩ : Tl).v⟩) (S.row 0 rfl (by simp [Tl.v]) rfl) ?_
  (repeat (first|(with_reducible first|refine Ja ?_|refine Jb ?_|refine Jc ?_|refine Jd ?_|refine Je ?_|refine Jf ?_|refine Jg ?_|refine Jh ?_|refine Ji ?_|refine Jj ?_|refine Jk rfl ?_|refine Jl ?_|refine Jm ?_|refine Jn ?_|refine Jo ?_|refine Jp ?_|refine Jq ?_)|refine JA rfl ?_|refine JB rfl ?_|refine JC rfl ?_|refine JD rfl ?_|refine JE rfl ?_|refine JF rfl ?_|refine JG rfl ?_|refine JH rfl ?_|refine JI rfl ?_|refine J2 rfl ?_|refine J3 rfl ?_|refine J4 rfl ?_|refine J1 rfl ?_|refine J6 rfl ?_|refine J7 rfl ?_|refine JJ rfl ?_|refine JK rfl ?_|refine JQ rfl ?_|refine JL rfl rfl ?_|refine JM rfl rfl ?_|refine JN rfl ?_|refine JO rfl ?_|refine JP rfl ?_))
  refine e_ld (v := .agg ⟨(⟨3, 2, ⟨1, 2⟩⟩ : Tl).v⟩) (S.row 1 rfl (by simp [Tl.v]) rfl) ?_
  (repeat (first|(with_reducible first|refine Ja ?_|refine Jb ?_|refine Jc ?_|refine Jd ?_|refine Je ?_|refine Jf ?_|refine Jg ?_|refine Jh ?_|refine Ji ?_|refine Jj ?_|refine Jk rfl ?_|refine Jl ?_|refine Jm ?_|refine Jn ?_|refine Jo ?_|refine Jp ?_|refine Jq ?_)|refine JA rfl ?_|refine JB rfl ?_|refine JC rfl ?_|refine JD rfl ?_|refine JE rfl ?_|refine JF rfl ?_|refine JG rfl ?_|refine JH rfl ?_|refine JI rfl ?_|refine J2 rfl ?_|refine J3 rfl ?_|refine J4 rfl ?_|refine J1 rfl ?_|refine J6 rfl ?_|refine J7 rfl ?_|refine JJ rfl ?_|refine JK rfl ?_|refine JQ rfl ?_|refine JL rfl rfl ?_|refine JM rfl rfl ?_|refine JN rfl ?_|refine JO rfl ?_|refine JP rfl ?_))
  refine e_callP rfl (l_text 27 97 (by omega)) S fun w S => ?_
  (repeat (first|(with_reducible first|refine Ja ?_|refine Jb ?_|refine Jc ?_|refine Jd ?_|refine Je ?_|refine Jf ?_|refine Jg ?_|refine Jh ?_|refine Ji ?_|refine Jj ?_|refine Jk rfl ?_|refine Jl ?_|refine Jm ?_|refine Jn ?_|refine Jo ?_|refine Jp ?_|refine Jq ?_)|refine JA rfl ?_|refine JB rfl ?_|refine JC rfl ?_|refine JD rfl ?_|refine JE rfl ?_|refine JF rfl ?_|refine JG rfl ?_|refine JH rfl ?_|refine JI rfl ?_|refine J2 rfl ?_|refine J3 rfl ?_|refine J4 rfl ?_|refine J1 rfl ?_|refine J6 rfl ?_|refine J7 rfl ?_|refine JJ rfl ?_|refine JK rfl ?_|refine JQ rfl ?_|refine JL rfl rfl ?_|refine JM rfl rfl ?_|refine JN rfl ?_|refine JO rfl ?_|refine JP rfl ?_))
  refine e_bsl (size := 1) (xs := [strV [97, 98], strV (textW 27 97)]) S Try.underlying22 rfl rfl ⟨_, rfl⟩ (by omega) (by omega) (fun zs hz => (match zs, hz with | [u, v], _ => rfl)) fun bs w S => ?_
  (repeat (first|(with_reducible first|refine Ja ?_|refine Jb ?_|refine Jc ?_|refine Jd ?_|refine Je ?_|refine Jf ?_|refine Jg ?_|refine Jh ?_|refine Ji ?_|refine Jj ?_|refine Jk rfl ?_|refine Jl ?_|refine Jm ?_|refine Jn ?_|refine Jo ?_|refine Jp ?_|refine Jq ?_)|refine JA rfl ?_|refine JB rfl ?_|refine JC rfl ?_|refine JD rfl ?_|refine JE rfl ?_|refine JF rfl ?_|refine JG rfl ?_|refine JH rfl ?_|refine JI rfl ?_|refine J2 rfl ?_|refine J3 rfl ?_|refine J4 rfl ?_|refine J1 rfl ?_|refine J6 rfl ?_|refine J7 rfl ?_|refine JJ rfl ?_|refine JK rfl ?_|refine JQ rfl ?_|refine JL rfl rfl ?_|refine JM rfl rfl ?_|refine JN rfl ?_|refine JO rfl ?_|refine JP rfl ?_))
  have hO2 : OwnT (some ⟨bs, 0, none⟩) 2 2 [[97, 98], textW 27 97] [(bs, .cells ⟨[strV [97, 98], strV (textW 27 97)]⟩ 9)] := OwnS.row (xs := [[97, 98], textW 27 97].map strV) rfl
  have S' : Dn.Sep w (((([(b9, .cells ⟨(⟨3, 2, ⟨1, 2⟩⟩ : Tl).v⟩ 31), (b6, .cells ⟨(⟨3, 2, ⟨1, 2⟩⟩ : Tl).v⟩ 31), (b4, .cells ⟨(⟨1, 1, ⟨1, 1⟩⟩ : Tl).v⟩ 31), (b3, .cells ⟨zT.v⟩ 31)] ++ Ll) ++ q7.L) ++ [(bs, .cells ⟨[strV [97, 98], strV (textW 27 97)]⟩ 9)]) ++ []) F := by simpa using S
  refine e_callFN rfl (l_same adl (some ⟨bs, 0, none⟩) capl 2 [[97, 98], textW 27 97] [[97, 98], textW 27 97] (by decide)) S
    (by
      constructor
      · have := hOl.fsl S' (by intro x hx; simp [hx])
        simpa using this
      · have := hO2.fsl S' (by intro x hx; simp at hx; simp [hx])
        simpa using this) ?_
  rintro _ _ w ⟨rfl, rfl⟩ S
  (repeat (first|(with_reducible first|refine Ja ?_|refine Jb ?_|refine Jc ?_|refine Jd ?_|refine Je ?_|refine Jf ?_|refine Jg ?_|refine Jh ?_|refine Ji ?_|refine Jj ?_|refine Jk rfl ?_|refine Jl ?_|refine Jm ?_|refine Jn ?_|refine Jo ?_|refine Jp ?_|refine Jq ?_)|refine JA rfl ?_|refine JB rfl ?_|refine JC rfl ?_|refine JD rfl ?_|refine JE rfl ?_|refine JF rfl ?_|refine JG rfl ?_|refine JH rfl ?_|refine JI rfl ?_|refine J2 rfl ?_|refine J3 rfl ?_|refine J4 rfl ?_|refine J1 rfl ?_|refine J6 rfl ?_|refine J7 rfl ?_|refine JJ rfl ?_|refine JK rfl ?_|refine JQ rfl ?_|refine JL rfl rfl ?_|refine JM rfl rfl ?_|refine JN rfl ?_|refine JO rfl ?_|refine JP rfl ?_))
  refine e_callP rfl (w_size 27 (by omega)) S fun w S => ?_
  (repeat (first|(with_reducible first|refine Ja ?_|refine Jb ?_|refine Jc ?_|refine Jd ?_|refine Je ?_|refine Jf ?_|refine Jg ?_|refine Jh ?_|refine Ji ?_|refine Jj ?_|refine Jk rfl ?_|refine Jl ?_|refine Jm ?_|refine Jn ?_|refine Jo ?_|refine Jp ?_|refine Jq ?_)|refine JA rfl ?_|refine JB rfl ?_|refine JC rfl ?_|refine JD rfl ?_|refine JE rfl ?_|refine JF rfl ?_|refine JG rfl ?_|refine JH rfl ?_|refine JI rfl ?_|refine J2 rfl ?_|refine J3 rfl ?_|refine J4 rfl ?_|refine J1 rfl ?_|refine J6 rfl ?_|refine J7 rfl ?_|refine JJ rfl ?_|refine JK rfl ?_|refine JQ rfl ?_|refine JL rfl rfl ?_|refine JM rfl rfl ?_|refine JN rfl ?_|refine JO rfl ?_|refine JP rfl ?_))
  refine e_callP rfl (w_size 0 (by omega)) S fun w S => ?_
  (repeat (first|(with_reducible first|refine Ja ?_|refine Jb ?_|refine Jc ?_|refine Jd ?_|refine Je ?_|refine Jf ?_|refine Jg ?_|refine Jh ?_|refine Ji ?_|refine Jj ?_|refine Jk rfl ?_|refine Jl ?_|refine Jm ?_|refine Jn ?_|refine Jo ?_|refine Jp ?_|refine Jq ?_)|refine JA rfl ?_|refine JB rfl ?_|refine JC rfl ?_|refine JD rfl ?_|refine JE rfl ?_|refine JF rfl ?_|refine JG rfl ?_|refine JH rfl ?_|refine JI rfl ?_|refine J2 rfl ?_|refine J3 rfl ?_|refine J4 rfl ?_|refine J1 rfl ?_|refine J6 rfl ?_|refine J7 rfl ?_|refine JJ rfl ?_|refine JK rfl ?_|refine JQ rfl ?_|refine JL rfl rfl ?_|refine JM rfl rfl ?_|refine JN rfl ?_|refine JO rfl ?_|refine JP rfl ?_))
  refine e_callP rfl (w_sizeNeg (-1) (by omega)) S fun w S => ?_
  (repeat (first|(with_reducible first|refine Ja ?_|refine Jb ?_|refine Jc ?_|refine Jd ?_|refine Je ?_|refine Jf ?_|refine Jg ?_|refine Jh ?_|refine Ji ?_|refine Jj ?_|refine Jk rfl ?_|refine Jl ?_|refine Jm ?_|refine Jn ?_|refine Jo ?_|refine Jp ?_|refine Jq ?_)|refine JA rfl ?_|refine JB rfl ?_|refine JC rfl ?_|refine JD rfl ?_|refine JE rfl ?_|refine JF rfl ?_|refine JG rfl ?_|refine JH rfl ?_|refine JI rfl ?_|refine J2 rfl ?_|refine J3 rfl ?_|refine J4 rfl ?_|refine J1 rfl ?_|refine J6 rfl ?_|refine J7 rfl ?_|refine JJ rfl ?_|refine JK rfl ?_|refine JQ rfl ?_|refine JL rfl rfl ?_|refine JM rfl rfl ?_|refine JN rfl ?_|refine JO rfl ?_|refine JP rfl ?_))
  refine f_ret (vs := [.bool true]) rfl rfl (hQ _ (Sep.drop (L2 := _) (by simpa using S)))


end Go.Proofs.Ytgendpinmmmfjaa

/-
  The walk of sanity.
-/
namespace Go.Proofs.Ytgendpinmmmfjaa
open Dn
attribute [local irreducible] Evs Ev EvT DSpec PSpec CallTo
set_option maxRecDepth 100000
set_option maxHeartbeats 4000000

theorem l_sanity : PSpec Try.prog 10 [] (.bool true) := by
  refine pspec_of mix Try.func10 c10_eq rfl rfl fun w F Q S hQ => ?_
  obtain ⟨hc, ht⟩ := lawCfg_ok (n := 8) (by omega) (by omega)
  (repeat (first|(with_reducible first|refine Ja ?_|refine Jb ?_|refine Jc ?_|refine Jd ?_|refine Je ?_|refine Jf ?_|refine Jg ?_|refine Jh ?_|refine Ji ?_|refine Jj ?_|refine Jk rfl ?_|refine Jl ?_|refine Jm ?_|refine Jn ?_|refine Jo ?_|refine Jp ?_|refine Jq ?_)|refine JA rfl ?_|refine JB rfl ?_|refine JC rfl ?_|refine JD rfl ?_|refine JE rfl ?_|refine JF rfl ?_|refine JG rfl ?_|refine JH rfl ?_|refine JI rfl ?_|refine J2 rfl ?_|refine J3 rfl ?_|refine J4 rfl ?_|refine J1 rfl ?_|refine J6 rfl ?_|refine J7 rfl ?_|refine JJ rfl ?_|refine JK rfl ?_|refine JQ rfl ?_|refine JL rfl rfl ?_|refine JM rfl rfl ?_|refine JN rfl ?_|refine JO rfl ?_|refine JP rfl ?_))
  refine e_callP rfl (l_config 8 (by omega) (by omega)) S fun w S => ?_
  have hnew := sh_new (lawCfg 8)
  refine e_callN rfl hnew S ?_
  rintro v L w hv S
  rw [if_pos hc, if_neg (by omega)] at hv
  obtain ⟨s, rfl, rfl, hfr⟩ := hv
  replace S : Dn.Sep w s.L F := S
  have hs := fresh_ok hc hfr
  have es : erase s = sS := fresh_erase hfr
  have san1' := san1
  have san2' := san2
  have san3' := san3
  have san4' := san4
  (repeat (first|(with_reducible first|refine Ja ?_|refine Jb ?_|refine Jc ?_|refine Jd ?_|refine Je ?_|refine Jf ?_|refine Jg ?_|refine Jh ?_|refine Ji ?_|refine Jj ?_|refine Jk rfl ?_|refine Jl ?_|refine Jm ?_|refine Jn ?_|refine Jo ?_|refine Jp ?_|refine Jq ?_)|refine JA rfl ?_|refine JB rfl ?_|refine JC rfl ?_|refine JD rfl ?_|refine JE rfl ?_|refine JF rfl ?_|refine JG rfl ?_|refine JH rfl ?_|refine JI rfl ?_|refine J2 rfl ?_|refine J3 rfl ?_|refine J4 rfl ?_|refine J1 rfl ?_|refine J6 rfl ?_|refine J7 rfl ?_|refine JJ rfl ?_|refine JK rfl ?_|refine JQ rfl ?_|refine JL rfl rfl ?_|refine JM rfl rfl ?_|refine JN rfl ?_|refine JO rfl ?_|refine JP rfl ?_))
  refine e_nw S fun b3 w S => ?_
  refine e_st (vs := zT.v) S 0 rfl rfl rfl rfl (by simp [zT, Tl.v, Value.flat]) (by simp) fun w S => ?_
  replace S : Dn.Sep w ([(b3, .cells ⟨zT.v⟩ 31)] ++ s.L) F := S
  (repeat (first|(with_reducible first|refine Ja ?_|refine Jb ?_|refine Jc ?_|refine Jd ?_|refine Je ?_|refine Jf ?_|refine Jg ?_|refine Jh ?_|refine Ji ?_|refine Jj ?_|refine Jk rfl ?_|refine Jl ?_|refine Jm ?_|refine Jn ?_|refine Jo ?_|refine Jp ?_|refine Jq ?_)|refine JA rfl ?_|refine JB rfl ?_|refine JC rfl ?_|refine JD rfl ?_|refine JE rfl ?_|refine JF rfl ?_|refine JG rfl ?_|refine JH rfl ?_|refine JI rfl ?_|refine J2 rfl ?_|refine J3 rfl ?_|refine J4 rfl ?_|refine J1 rfl ?_|refine J6 rfl ?_|refine J7 rfl ?_|refine JJ rfl ?_|refine JK rfl ?_|refine JQ rfl ?_|refine JL rfl rfl ?_|refine JM rfl rfl ?_|refine JN rfl ?_|refine JO rfl ?_|refine JP rfl ?_))
  refine e_ld (v := .agg ⟨zT.v⟩) (S.row 0 rfl (by simp [Tl.v]) rfl) ?_
  (repeat (first|(with_reducible first|refine Ja ?_|refine Jb ?_|refine Jc ?_|refine Jd ?_|refine Je ?_|refine Jf ?_|refine Jg ?_|refine Jh ?_|refine Ji ?_|refine Jj ?_|refine Jk rfl ?_|refine Jl ?_|refine Jm ?_|refine Jn ?_|refine Jo ?_|refine Jp ?_|refine Jq ?_)|refine JA rfl ?_|refine JB rfl ?_|refine JC rfl ?_|refine JD rfl ?_|refine JE rfl ?_|refine JF rfl ?_|refine JG rfl ?_|refine JH rfl ?_|refine JI rfl ?_|refine J2 rfl ?_|refine J3 rfl ?_|refine J4 rfl ?_|refine J1 rfl ?_|refine J6 rfl ?_|refine J7 rfl ?_|refine JJ rfl ?_|refine JK rfl ?_|refine JQ rfl ?_|refine JL rfl rfl ?_|refine JM rfl rfl ?_|refine JN rfl ?_|refine JO rfl ?_|refine JP rfl ?_))
  refine e_call (L2 := [_]) rfl (w_append s 0 zT ⟨1, 1⟩ [97, 98] hs (by decide)) S ?_
  rintro _ _ w ⟨rfl, rfl⟩ S
  obtain ⟨a1, a2, a3, a4, a5⟩ := ap_facts hs es 0 zT ⟨1, 1⟩ [97, 98]
  obtain ⟨A, hA⟩ : ∃ A, appendW s 0 zT ⟨1, 1⟩ [97, 98] = A := ⟨_, rfl⟩
  rw [hA] at a1 a2 a3 a4 a5 S ⊢
  obtain ⟨At, Ae, sa⟩ := A
  simp only at a1 a2 a3 a4 a5 S ⊢
  have a2' : Ae = 0 := a2.trans san1'.1
  have a1' : At = ⟨1, 1, ⟨1, 1⟩⟩ := a1.trans san1'.2.1
  subst a2'
  subst a1'
  have a3' : erase sa = sA.2.2 := a3
  refine e_mvT rfl ?_
  refine e_p (v := .agg ⟨(⟨1, 1, ⟨1, 1⟩⟩ : Tl).v⟩) rfl ?_
  refine e_p (v := .int .i64 0) rfl ?_
  refine e_nw S fun b4 w S => ?_
  refine e_st (vs := (⟨1, 1, ⟨1, 1⟩⟩ : Tl).v) S 0 rfl rfl rfl rfl (by simp [Tl.v, Value.flat]) (by simp) fun w S => ?_
  replace S : Dn.Sep w ([(b4, .cells ⟨(⟨1, 1, ⟨1, 1⟩⟩ : Tl).v⟩ 31), (b3, .cells ⟨zT.v⟩ 31)] ++ sa.L) F := S
  refine e_mvI rfl ?_
  (repeat (with_reducible first|refine Jc ?_|refine Jd ?_|refine Je ?_|refine Jf ?_|refine Jg ?_|refine Jh ?_|refine Ji ?_|refine Jj ?_|refine Jk rfl ?_|refine Jl ?_|refine Jm ?_|refine Jn ?_|refine Jp ?_|refine Jq ?_))
  have htx := l_text 27 97 (by omega)
  refine s_cut (σ := Nat × Sh) (fun q => [(7, .int .i64 0), (6, .pointer (some ⟨q.1, 0, none⟩)), (1, s.v), (3, .pointer (some ⟨b3, 0, none⟩)), (4, .pointer (some ⟨b4, 0, none⟩)), (5, .int .i64 0)])
    (fun q w => q.2.ok ∧ q.2.v = s.v ∧ erase q.2 = sB.2.2 ∧ Dn.Sep w ([(q.1, .cells ⟨sB.1.v⟩ 31), (b4, .cells ⟨sA.1.v⟩ 31), (b3, .cells ⟨zT.v⟩ 31)] ++ q.2.L) F) ?_ ?_
  · obtain ⟨f1, f2, f3, f4, f5⟩ := ap_facts a4 a3' 0 ⟨1, 1, ⟨1, 1⟩⟩ ⟨1, 2⟩ (textW 27 97)
    have hap := w_append sa 0 ⟨1, 1, ⟨1, 1⟩⟩ ⟨1, 2⟩ (textW 27 97) a4 (by decide +kernel)
    have eB : appendW sA.2.2 0 ⟨1, 1, ⟨1, 1⟩⟩ ⟨1, 2⟩ (textW 27 97) = sB := by unfold sB; rw [san1'.2.1]
    rw [eB] at f1 f2 f3
    rw [f1, f2, san1'.2.2.1, a5] at hap
    (repeat (with_reducible first|refine Ja ?_|refine Jb ?_|refine Jc ?_|refine Jd ?_|refine Je ?_|refine Jf ?_|refine Jg ?_|refine Jh ?_|refine Ji ?_|refine Jj ?_|refine Jk rfl ?_|refine Jl ?_|refine Jm ?_|refine Jn ?_|refine Jo ?_|refine Jp ?_|refine Jq ?_))
    replace S := S.drew
    (repeat (first|(with_reducible first|refine Ja ?_|refine Jb ?_|refine Jc ?_|refine Jd ?_|refine Je ?_|refine Jf ?_|refine Jg ?_|refine Jh ?_|refine Ji ?_|refine Jj ?_|refine Jk rfl ?_|refine Jl ?_|refine Jm ?_|refine Jn ?_|refine Jo ?_|refine Jp ?_|refine Jq ?_)|refine JA rfl ?_|refine JB rfl ?_|refine JC rfl ?_|refine JD rfl ?_|refine JE rfl ?_|refine JF rfl ?_|refine JG rfl ?_|refine JH rfl ?_|refine JI rfl ?_|refine J2 rfl ?_|refine J3 rfl ?_|refine J4 rfl ?_|refine J1 rfl ?_|refine J6 rfl ?_|refine J7 rfl ?_|refine JJ rfl ?_|refine JK rfl ?_|refine JQ rfl ?_|refine JL rfl rfl ?_|refine JM rfl rfl ?_|refine JN rfl ?_|refine JO rfl ?_|refine JP rfl ?_))
    repeat' first
      | (with_reducible refine t_alt ?_ ?_)
      | (refine e_ld (v := .agg ⟨(⟨1, 1, ⟨1, 1⟩⟩ : Tl).v⟩) (S.row 0 rfl (by simp [Tl.v]) rfl) ?_)
      | (refine e_ld (v := .agg ⟨(⟨1, 1, ⟨1, 1⟩⟩ : Tl).v⟩) (S.row 1 rfl (by simp [Tl.v]) rfl) ?_)
      | (refine e_callP rfl htx S fun w S => ?_)
      | (refine e_call (L2 := [_, _]) rfl hap S ?_
         rintro _ _ w ⟨rfl, rfl⟩ S)
      | (refine e_call (L2 := [_, _, _]) rfl hap S ?_
         rintro _ _ w ⟨rfl, rfl⟩ S)
      | (refine e_nwE S (cs' := zT.v) rfl fun b6 w S => ?_)
      | (refine e_st (vs := sB.1.v) S 0 rfl rfl rfl rfl (by simp [Tl.v, Value.flat]) (by simp [zT, Tl.v]) fun w S => ?_)
      | (refine e_p (v := .agg ⟨sB.1.v⟩) rfl ?_)
      | (first|(with_reducible first|refine Ja ?_|refine Jb ?_|refine Jc ?_|refine Jd ?_|refine Je ?_|refine Jf ?_|refine Jg ?_|refine Jh ?_|refine Ji ?_|refine Jj ?_|refine Jk rfl ?_|refine Jl ?_|refine Jm ?_|refine Jn ?_|refine Jo ?_|refine Jp ?_|refine Jq ?_)|refine JA rfl ?_|refine JB rfl ?_|refine JC rfl ?_|refine JD rfl ?_|refine JE rfl ?_|refine JF rfl ?_|refine JG rfl ?_|refine JH rfl ?_|refine JI rfl ?_|refine J2 rfl ?_|refine J3 rfl ?_|refine J4 rfl ?_|refine J1 rfl ?_|refine J6 rfl ?_|refine J7 rfl ?_|refine JJ rfl ?_|refine JK rfl ?_|refine JQ rfl ?_|refine JL rfl rfl ?_|refine JM rfl rfl ?_|refine JN rfl ?_|refine JO rfl ?_|refine JP rfl ?_)
    all_goals exact ⟨rfl, (_, _), ⟨rfl, rfl, rfl, rfl, rfl, rfl, trivial⟩, f4, f5.trans a5, f3, by rw [san1'.2.1]; exact S⟩
  rintro gg ⟨b6, sb⟩ w ⟨hb1, hb2, hb3, S⟩
  simp only [setL] at hb1 hb2 hb3 S ⊢
  -- the scan
  have hsc := w_scan sb 0 zT hb1
  have eS : scanFull sb 0 zT = ([[97, 98], textW 27 97], sB.1, 0) := by
    have := er_scan sb 0 zT
    rw [hb3, san3'] at this
    exact this.symm
  rw [eS, hb2] at hsc
  (repeat (first|(with_reducible first|refine Ja ?_|refine Jb ?_|refine Jc ?_|refine Jd ?_|refine Je ?_|refine Jf ?_|refine Jg ?_|refine Jh ?_|refine Ji ?_|refine Jj ?_|refine Jk rfl ?_|refine Jl ?_|refine Jm ?_|refine Jn ?_|refine Jo ?_|refine Jp ?_|refine Jq ?_)|refine JA rfl ?_|refine JB rfl ?_|refine JC rfl ?_|refine JD rfl ?_|refine JE rfl ?_|refine JF rfl ?_|refine JG rfl ?_|refine JH rfl ?_|refine JI rfl ?_|refine J2 rfl ?_|refine J3 rfl ?_|refine J4 rfl ?_|refine J1 rfl ?_|refine J6 rfl ?_|refine J7 rfl ?_|refine JJ rfl ?_|refine JK rfl ?_|refine JQ rfl ?_|refine JL rfl rfl ?_|refine JM rfl rfl ?_|refine JN rfl ?_|refine JO rfl ?_|refine JP rfl ?_))
  refine e_ld (v := .agg ⟨zT.v⟩) (S.row 2 rfl (by simp [Tl.v]) rfl) ?_
  refine e_call (L2 := [_, _, _]) rfl hsc S ?_
  rintro _ _ w ⟨adl, capl, Ll, rfl, rfl, hOl⟩ S
  refine e_mvT rfl ?_
  refine e_p (v := .slice adl 2 capl) rfl ?_
  refine e_p (v := .agg ⟨sB.1.v⟩) rfl ?_
  refine e_p (v := .int .i64 0) rfl ?_
  refine e_nwE S (cs' := zT.v) rfl fun b9 w S => ?_
  refine e_mvL rfl ?_
  refine e_st (vs := sB.1.v) S 0 rfl rfl rfl rfl (by simp [Tl.v, Value.flat]) (by simp [zT, Tl.v]) fun w S => ?_
  refine e_mvI rfl ?_
  replace S : Dn.Sep w (([(b9, .cells ⟨sB.1.v⟩ 31), (b6, .cells ⟨sB.1.v⟩ 31), (b4, .cells ⟨sA.1.v⟩ 31), (b3, .cells ⟨zT.v⟩ 31)] ++ (sb.L ++ Ll))) F := S
  -- stale
  obtain ⟨f1, f2, f3, f4, f5⟩ := ap_facts hb1 hb3 0 sB.1 ⟨1, 2⟩ [99]
  have hap := w_append sb 0 sB.1 ⟨1, 2⟩ [99] hb1 (by decide)
  have eC : appendW sB.2.2 0 sB.1 ⟨1, 2⟩ [99] = sStale := rfl
  rw [eC] at f1 f2 f3
  rw [f1, f2, san2'.1, hb2] at hap
  replace S : Dn.Sep w (([(b9, .cells ⟨sB.1.v⟩ 31), (b6, .cells ⟨sB.1.v⟩ 31), (b4, .cells ⟨sA.1.v⟩ 31), (b3, .cells ⟨zT.v⟩ 31)] ++ Ll) ++ sb.L) F := S.perm (by rw [List.append_assoc]; exact (List.Perm.refl _).append List.perm_append_comm)
  (repeat (first|(with_reducible first|refine Ja ?_|refine Jb ?_|refine Jc ?_|refine Jd ?_|refine Je ?_|refine Jf ?_|refine Jg ?_|refine Jh ?_|refine Ji ?_|refine Jj ?_|refine Jk rfl ?_|refine Jl ?_|refine Jm ?_|refine Jn ?_|refine Jo ?_|refine Jp ?_|refine Jq ?_)|refine JA rfl ?_|refine JB rfl ?_|refine JC rfl ?_|refine JD rfl ?_|refine JE rfl ?_|refine JF rfl ?_|refine JG rfl ?_|refine JH rfl ?_|refine JI rfl ?_|refine J2 rfl ?_|refine J3 rfl ?_|refine J4 rfl ?_|refine J1 rfl ?_|refine J6 rfl ?_|refine J7 rfl ?_|refine JJ rfl ?_|refine JK rfl ?_|refine JQ rfl ?_|refine JL rfl rfl ?_|refine JM rfl rfl ?_|refine JN rfl ?_|refine JO rfl ?_|refine JP rfl ?_))
  refine e_ld (v := .agg ⟨sB.1.v⟩) (S.row 1 rfl (by simp [Tl.v]) rfl) ?_
  (repeat (first|(with_reducible first|refine Ja ?_|refine Jb ?_|refine Jc ?_|refine Jd ?_|refine Je ?_|refine Jf ?_|refine Jg ?_|refine Jh ?_|refine Ji ?_|refine Jj ?_|refine Jk rfl ?_|refine Jl ?_|refine Jm ?_|refine Jn ?_|refine Jo ?_|refine Jp ?_|refine Jq ?_)|refine JA rfl ?_|refine JB rfl ?_|refine JC rfl ?_|refine JD rfl ?_|refine JE rfl ?_|refine JF rfl ?_|refine JG rfl ?_|refine JH rfl ?_|refine JI rfl ?_|refine J2 rfl ?_|refine J3 rfl ?_|refine J4 rfl ?_|refine J1 rfl ?_|refine J6 rfl ?_|refine J7 rfl ?_|refine JJ rfl ?_|refine JK rfl ?_|refine JQ rfl ?_|refine JL rfl rfl ?_|refine JM rfl rfl ?_|refine JN rfl ?_|refine JO rfl ?_|refine JP rfl ?_))
  refine e_call (L2 := _ ++ Ll) rfl hap S ?_
  rintro _ _ w ⟨rfl, rfl⟩ S
  obtain ⟨sc, hsc'⟩ : ∃ sc, (appendW sb 0 sB.1 ⟨1, 2⟩ [99]).2.2 = sc := ⟨_, rfl⟩
  rw [hsc'] at S f3 f4 f5
  refine e_mvT rfl ?_
  refine e_p (v := .agg ⟨sStale.1.v⟩) rfl ?_
  refine e_p (v := .int .i64 9) rfl ?_
  refine e_nwE S (cs' := zT.v) rfl fun b11 w S => ?_
  refine e_st (vs := sStale.1.v) S 0 rfl rfl rfl rfl (by simp [Tl.v, Value.flat]) (by simp [zT, Tl.v]) fun w S => ?_
  refine e_mvI rfl ?_
  replace S : Dn.Sep w (([(b9, .cells ⟨sB.1.v⟩ 31), (b6, .cells ⟨sB.1.v⟩ 31), (b4, .cells ⟨sA.1.v⟩ 31), (b3, .cells ⟨zT.v⟩ 31)] ++ Ll) ++ sc.L) F := Sep.drop (L2 := [_]) S
  (repeat (with_reducible first|refine Jc ?_|refine Jd ?_|refine Je ?_|refine Jf ?_|refine Jg ?_|refine Jh ?_|refine Ji ?_|refine Jj ?_|refine Jk rfl ?_|refine Jl ?_|refine Jm ?_|refine Jn ?_|refine Jp ?_|refine Jq ?_))
  have htx2 := l_text 131 97 (by omega)
  refine s_cut (σ := Sh) (fun q => [(14, .int .i64 16), (1, s.v), (4, .pointer (some ⟨b4, 0, none⟩)), (6, .pointer (some ⟨b6, 0, none⟩)), (9, .pointer (some ⟨b9, 0, none⟩)), (5, .int .i64 0), (7, .int .i64 0), (8, .slice adl 2 capl), (10, .int .i64 0), (12, .int .i64 9)])
    (fun q w => q.ok ∧ q.v = s.v ∧ erase q = sFull.2.2 ∧ Dn.Sep w (([(b9, .cells ⟨sB.1.v⟩ 31), (b6, .cells ⟨sB.1.v⟩ 31), (b4, .cells ⟨sA.1.v⟩ 31), (b3, .cells ⟨zT.v⟩ 31)] ++ Ll) ++ q.L) F) ?_ ?_
  · obtain ⟨g1, g2, g3, g4, g5⟩ := ap_facts f4 f3 0 sB.1 ⟨1, 3⟩ (textW 131 97)
    have hap := w_append sc 0 sB.1 ⟨1, 3⟩ (textW 131 97) f4 (by decide +kernel)
    have eB : appendW sStale.2.2 0 sB.1 ⟨1, 3⟩ (textW 131 97) = sFull := rfl
    rw [eB] at g1 g2 g3
    rw [g1, g2, san2'.2, f5, hb2] at hap
    (repeat (with_reducible first|refine Ja ?_|refine Jb ?_|refine Jc ?_|refine Jd ?_|refine Je ?_|refine Jf ?_|refine Jg ?_|refine Jh ?_|refine Ji ?_|refine Jj ?_|refine Jk rfl ?_|refine Jl ?_|refine Jm ?_|refine Jn ?_|refine Jo ?_|refine Jp ?_|refine Jq ?_))
    replace S := S.drew
    (repeat (first|(with_reducible first|refine Ja ?_|refine Jb ?_|refine Jc ?_|refine Jd ?_|refine Je ?_|refine Jf ?_|refine Jg ?_|refine Jh ?_|refine Ji ?_|refine Jj ?_|refine Jk rfl ?_|refine Jl ?_|refine Jm ?_|refine Jn ?_|refine Jo ?_|refine Jp ?_|refine Jq ?_)|refine JA rfl ?_|refine JB rfl ?_|refine JC rfl ?_|refine JD rfl ?_|refine JE rfl ?_|refine JF rfl ?_|refine JG rfl ?_|refine JH rfl ?_|refine JI rfl ?_|refine J2 rfl ?_|refine J3 rfl ?_|refine J4 rfl ?_|refine J1 rfl ?_|refine J6 rfl ?_|refine J7 rfl ?_|refine JJ rfl ?_|refine JK rfl ?_|refine JQ rfl ?_|refine JL rfl rfl ?_|refine JM rfl rfl ?_|refine JN rfl ?_|refine JO rfl ?_|refine JP rfl ?_))
    repeat' first
      | (with_reducible refine t_alt ?_ ?_)
      | (refine e_ld (v := .agg ⟨sB.1.v⟩) (S.row 1 rfl (by simp [Tl.v]) rfl) ?_)
      | (refine e_ld (v := .agg ⟨sB.1.v⟩) (S.row 2 rfl (by simp [Tl.v]) rfl) ?_)
      | (refine e_callP rfl htx2 S fun w S => ?_)
      | (refine e_call (L2 := _ ++ Ll) rfl hap S ?_
         rintro _ _ w ⟨rfl, rfl⟩ S)
      | (refine e_call (L2 := (_ :: _) ++ Ll) rfl hap S ?_
         rintro _ _ w ⟨rfl, rfl⟩ S)
      | (refine e_nwE S (cs' := zT.v) rfl fun b13 w S => ?_)
      | (refine e_st (vs := sFull.1.v) S 0 rfl rfl rfl rfl (by simp [Tl.v, Value.flat]) (by simp [zT, Tl.v]) fun w S => ?_)
      | (refine e_p (v := .agg ⟨sFull.1.v⟩) rfl ?_)
      | (first|(with_reducible first|refine Ja ?_|refine Jb ?_|refine Jc ?_|refine Jd ?_|refine Je ?_|refine Jf ?_|refine Jg ?_|refine Jh ?_|refine Ji ?_|refine Jj ?_|refine Jk rfl ?_|refine Jl ?_|refine Jm ?_|refine Jn ?_|refine Jo ?_|refine Jp ?_|refine Jq ?_)|refine JA rfl ?_|refine JB rfl ?_|refine JC rfl ?_|refine JD rfl ?_|refine JE rfl ?_|refine JF rfl ?_|refine JG rfl ?_|refine JH rfl ?_|refine JI rfl ?_|refine J2 rfl ?_|refine J3 rfl ?_|refine J4 rfl ?_|refine J1 rfl ?_|refine J6 rfl ?_|refine J7 rfl ?_|refine JJ rfl ?_|refine JK rfl ?_|refine JQ rfl ?_|refine JL rfl rfl ?_|refine JM rfl rfl ?_|refine JN rfl ?_|refine JO rfl ?_|refine JP rfl ?_)
    all_goals exact ⟨rfl, _, ⟨rfl, rfl, rfl, rfl, rfl, rfl, rfl, rfl, rfl, rfl, trivial⟩, g4, g5.trans (f5.trans hb2), g3, Sep.drop (L2 := [_]) S⟩
  rintro gg q w ⟨hb1, hb2, hb3, S⟩
  exact l_sanityB hb1 hb2 hb3 hOl S (fun w S => hQ _ _ [] rfl S)

end Go.Proofs.Ytgendpinmmmfjaa

/-
  The plain law: maps; sectors that are sealed are opened again.
-/
namespace Dn
open Go

theorem GM.upd_find {α : Type} {k k' : Int} {v : α} : ∀ {l es : List (Int × α × Nat)}, GM.upd k v l = some es → GM.find k' es = if k' = k then some v else GM.find k' l := by
  intro l
  induction l with
  | nil => intro es h; simp [GM.upd] at h
  | cons e l ih =>
    intro es h
    simp only [GM.upd] at h
    split at h
    · rename_i hk
      injection h with h; subst h
      simp only [GM.find]
      by_cases e1 : k' = k
      · simp [e1]
      · rw [if_neg e1, if_neg e1]
        rw [if_neg (by rw [← hk]; exact e1)]
    · rename_i hk
      cases hu : GM.upd k v l with
      | none => rw [hu] at h; simp at h
      | some es' =>
        rw [hu] at h
        simp only [Option.map_some, Option.some.injEq] at h
        subst h
        simp only [GM.find]
        rw [ih hu]
        by_cases e1 : k' = e.1
        · rw [if_pos e1, if_pos e1, if_neg (by rw [e1]; exact fun h => hk h.symm)]
        · rw [if_neg e1, if_neg e1]
theorem GM.upd_nofind {α : Type} {k : Int} {v : α} : ∀ {l : List (Int × α × Nat)}, GM.upd k v l = none → GM.find k l = none := by
  intro l
  induction l with
  | nil => intro _; rfl
  | cons e l ih =>
    intro h
    simp only [GM.upd] at h
    split at h
    · simp at h
    · rename_i hk
      simp only [GM.find, if_neg hk]
      exact ih (by simpa using h)
theorem GM.find_snoc {α : Type} {k k' : Int} {v : α} {n : Nat} : ∀ {l : List (Int × α × Nat)}, GM.find k' (l ++ [(k, v, n)]) = (GM.find k' l).or (if k' = k then some v else none) := by
  intro l
  induction l with
  | nil => simp [GM.find]
  | cons e l ih =>
    simp only [List.cons_append, GM.find]
    split
    · rfl
    · exact ih
theorem GM.get_set {α : Type} (g : GM α) (k k' : Int) (v : α) : (g.set k v).get k' = if k' = k then some v else g.get k' := by
  unfold GM.set GM.get
  cases h : GM.upd k v g.es with
  | some es => exact GM.upd_find h
  | none =>
    simp only [GM.find_snoc]
    by_cases e : k' = k
    · subst e; rw [GM.upd_nofind h]; simp
    · simp [e]

theorem seal_cons (p : Pl) (g : Gn) (s : Sec) : sealS p g s = leB 4 (crcOf (sealB p g s)).toNat ++ (UInt8.ofNat p.area.toNat :: UInt8.ofNat p.disk.toNat :: (leB 2 p.index.toNat ++ (leB 4 g.epoch.toNat ++ (leB 4 g.count.toNat ++ (s ++ List.replicate (40 - s.length) 0 ++ gnB g))))) := by
  unfold sealS
  simp only [sealB, gnB, List.append_assoc, List.cons_append, List.nil_append]

theorem leN_leB' (k : Nat) {n : Int} {m : Nat} (h0 : 0 ≤ n) (h : n < (m : Int)) (hm : m = 256 ^ k) : (leN (leB k n.toNat) : Int) = n := by
  rw [leN_leB k n.toNat (by omega)]; omega
theorem byte_id {n : Int} (h0 : 0 ≤ n) (h : n < 256) : ((UInt8.ofNat n.toNat).toNat : Int) = n := by
  rw [UInt8.toNat_ofNat']; omega

theorem opened_seal {p : Pl} {g : Gn} {s : Sec} (hp : p.ok) (hg : g.ok) (hs : s.length ≤ 40) : opened p (sealS p g s) = some (g, s ++ List.replicate (40 - s.length) 0) := by
  have hp' := hp
  unfold Pl.ok at hp'
  have hg' := hg
  unfold Gn.ok Gn.ok0 at hg'
  have hP : lblP (sealS p g s) = p := by
    rw [seal_cons]
    have e : lblP (leB 4 (crcOf (sealB p g s)).toNat ++ (UInt8.ofNat p.area.toNat :: UInt8.ofNat p.disk.toNat :: (leB 2 p.index.toNat ++ (leB 4 g.epoch.toNat ++ (leB 4 g.count.toNat ++ (s ++ List.replicate (40 - s.length) 0 ++ gnB g)))))) =
      ⟨((UInt8.ofNat p.disk.toNat).toNat : Int), ((UInt8.ofNat p.area.toNat).toNat : Int), (leN (leB 2 p.index.toNat) : Int)⟩ := rfl
    rw [e, byte_id (by omega) (by omega), byte_id (by omega) (by omega), leN_leB' 2 (m := 65536) (by omega) (by omega) rfl]
  have hG : lblG (sealS p g s) = g := by
    rw [seal_cons]
    have e : lblG (leB 4 (crcOf (sealB p g s)).toNat ++ (UInt8.ofNat p.area.toNat :: UInt8.ofNat p.disk.toNat :: (leB 2 p.index.toNat ++ (leB 4 g.epoch.toNat ++ (leB 4 g.count.toNat ++ (s ++ List.replicate (40 - s.length) 0 ++ gnB g)))))) =
      ⟨(leN (leB 4 g.epoch.toNat) : Int), (leN (leB 4 g.count.toNat) : Int)⟩ := rfl
    rw [e, leN_leB' 4 (m := 4294967296) (by omega) (by omega) rfl, leN_leB' 4 (m := 4294967296) (by omega) (by omega) rfl]
  have h16 : (sealS p g s).drop 16 = s ++ List.replicate (40 - s.length) 0 ++ gnB g := by rw [seal_cons]; rfl
  have hl : (s ++ List.replicate (40 - s.length) (0 : UInt8)).length = 40 := by simp; omega
  have hok : lblOK (sealS p g s) := by
    unfold lblOK
    refine ⟨?_, by rw [hP]; exact hp, by rw [hG]; exact hg, ?_⟩
    · unfold sealS
      rw [List.take_left' (by simp), List.drop_left' (by simp)]
      exact leN_leB 4 _ (crcOf (sealB p g s)).isLt
    · have e1 : ((sealS p g s).drop 8).take 8 = gnB g := by rw [seal_cons]; rfl
      have e2 : (sealS p g s).drop 56 = gnB g := by
        rw [show (56 : Nat) = 16 + 40 from rfl, ← List.drop_drop, h16, List.drop_left' hl]
      rw [e1, e2]
  unfold opened
  rw [if_pos ⟨hok, hP⟩, hG, h16, List.take_left' hl]

end Dn

/-
  The plain law: what a write does to what is read.
-/
namespace Dn
open Go

/-- every disk is in service, no fault waits -/
structure Sh.std (s : Sh) : Prop where
  ok : s.ok
  inn : ∀ b ∈ s.bays, b.2 = 1
  arm : ∀ b ∈ s.bays, b.1.armed.es = []
/-- what is read of a sector -/
def Sh.vw (s : Sh) (d : Int) (i : Int) : Sec := (s.dk d.toNat).read i.toNat
def Dk.putC (D : Dk) (i : Int) (t : Sec) : Dk := { D with armed := D.armed.del i, cache := D.cache.set i t }

theorem write_putC {D : Dk} (h : D.armed.es = []) {i : Int} (hi : 0 ≤ i) (t : Sec) : D.write i t = D.putC i t := by
  have e : (D.armed.get i).getD i = i := by unfold GM.get; rw [h]; rfl
  rw [Dk.write_to e (by omega)]; rfl
theorem putC_arm {D : Dk} (h : D.armed.es = []) (i : Int) (t : Sec) : (D.putC i t).armed.es = [] := by
  show GM.del1 i D.armed.es = []
  rw [h]; rfl
theorem putC_read (D : Dk) {i i' : Int} (hi : 0 ≤ i) (hi' : 0 ≤ i') (t : Sec) : (D.putC i t).read i'.toNat = if i' = i then t else D.read i'.toNat := by
  unfold Dk.read
  have : (D.putC i t).cache.get (i'.toNat : Int) = if i' = i then some t else D.cache.get (i'.toNat : Int) := by
    show (D.cache.set i t).get _ = _
    rw [GM.get_set]
    have e : ((i'.toNat : Int) = i) ↔ (i' = i) := by omega
    by_cases h : i' = i
    · rw [if_pos (e.2 h), if_pos h]
    · rw [if_neg (fun h' => h (e.1 h')), if_neg h]
  rw [this]
  by_cases h : i' = i
  · rw [if_pos h, if_pos h]; rfl
  · rw [if_neg h, if_neg h]; rfl

variable {s : Sh} {d i : Int} {t : Sec}
theorem Sh.std.bays (h : s.std) (hd : 0 ≤ d ∧ d < s.cfg.disks) : ∃ D, s.bays[d.toNat]? = some (D, 1) ∧ s.dk d.toNat = D ∧ D.armed.es = [] := by
  have hl := h.ok.len
  obtain ⟨st, hb⟩ := Go.Proofs.Ytgendpinmmmfjaa.dk_at (s := s) (d := d.toNat) (by omega)
  have h1 := h.inn _ (List.mem_of_getElem? hb)
  simp only at h1
  subst h1
  exact ⟨_, hb, rfl, h.arm _ (List.mem_of_getElem? hb)⟩
theorem Sh.std.state (h : s.std) (hd : 0 ≤ d ∧ d < s.cfg.disks) : s.state d = 1 := by
  obtain ⟨D, hb, -, -⟩ := h.bays hd
  have hl := h.ok.len
  unfold Sh.state
  rw [if_neg (by omega), hb]; rfl
theorem Sh.std.num (h : s.std) (hd : 0 ≤ d ∧ d < s.cfg.disks) (hi : 0 ≤ i ∧ i < s.cfg.log) : s.num (plW d i) = i := by
  unfold Sh.num plW
  simp only [h.state hd]
  rw [if_neg (by omega), if_neg]
  · simp
  · simp [Cfg.szs]; omega
theorem Sh.std.acc (h : s.std) (hd : 0 ≤ d ∧ d < s.cfg.disks) : s.acc d.toNat = if s.off = true then 14 else 0 := by
  obtain ⟨D, hb, -, -⟩ := h.bays hd
  unfold Sh.acc
  rw [hb]
  cases s.off <;> rfl
theorem Sh.std.rd (h : s.std) (hd : 0 ≤ d ∧ d < s.cfg.disks) (hi : 0 ≤ i ∧ i < s.cfg.log) (ho : s.off = false) : s.rdO (plW d i) = (0, s.vw d i) := by
  unfold Sh.rdO
  have e : (plW d i).disk = d := rfl
  rw [h.num hd hi, if_neg (by omega), e, h.acc hd, ho]
  rfl
theorem dk_setD (s : Sh) {d : Nat} (hd : d < s.bays.length) (D : Dk) (d' : Nat) : (s.setD d D).dk d' = if d' = d then D else s.dk d' := by
  unfold Sh.dk Sh.setD
  simp only [List.getElem?_set]
  by_cases e : d' = d
  · subst e; simp [hd]
  · rw [if_neg (fun h => e h.symm), if_neg e]
theorem std_setD (h : s.std) {d : Nat} (hd : d < s.bays.length) {D : Dk} (hA : D.armed.es = []) (hok : (s.setD d D).ok) : (s.setD d D).std := by
  refine ⟨hok, fun b hb => ?_, fun b hb => ?_⟩
  · have hb' : b ∈ s.bays.set d (D, ((s.bays[d]?).getD (D, 0)).2) := hb
    rcases List.mem_or_eq_of_mem_set hb' with h1 | h1
    · exact h.inn b h1
    · rw [h1, List.getElem?_eq_getElem hd]
      show (s.bays[d]).2 = 1
      exact h.inn _ (List.getElem_mem hd)
  · have hb' : b ∈ s.bays.set d (D, ((s.bays[d]?).getD (D, 0)).2) := hb
    rcases List.mem_or_eq_of_mem_set hb' with h1 | h1
    · exact h.arm b h1
    · rw [h1]; exact hA

/-- a write, in full -/
theorem Sh.std.wr (h : s.std) (hd : 0 ≤ d ∧ d < s.cfg.disks) (hi : 0 ≤ i ∧ i < s.cfg.log) (ht : t.length = 64) :
    s.wrE (plW d i) t = s.stepE d.toNat ∧ s.wrS (plW d i) t = s.stepS d.toNat ((s.dk d.toNat).putC i t) := by
  have hn := h.num hd hi
  obtain ⟨D, hb, hD, hA⟩ := h.bays hd
  have e : (plW d i).disk = d := rfl
  constructor
  · unfold Sh.wrE; rw [hn, if_neg (by omega), e]
  · unfold Sh.wrS; rw [hn, if_neg (by omega), e, write_putC (by rw [hD]; exact hA) hi.1]

/-- a write that was executed -/
theorem Sh.std.wrOK (h : s.std) (hd : 0 ≤ d ∧ d < s.cfg.disks) (hi : 0 ≤ i ∧ i < s.cfg.log) (ht : t.length = 64) (he : s.wrE (plW d i) t = 0) :
    (s.wrS (plW d i) t).std ∧ (s.wrS (plW d i) t).cfg = s.cfg ∧ s.off = false ∧ (s.wrS (plW d i) t).off = false ∧ (s.wrS (plW d i) t).fused = s.fused ∧ (s.fused = true → s.left ≠ 0 ∧ (s.wrS (plW d i) t).left = s.left - 1) ∧
      (s.wrS (plW d i) t).bays.length = s.bays.length ∧ ∀ d', (s.wrS (plW d i) t).dk d' = if d' = d.toNat then (s.dk d').putC i t else s.dk d' := by
  obtain ⟨e1, e2⟩ := h.wr hd hi ht
  have hok := (Go.Proofs.Ytgendpinmmmfjaa.wr_ok h.ok (plW d i) t)
  obtain ⟨D, hb, hD, hA⟩ := h.bays hd
  have hl := h.ok.len
  have hlt : d.toNat < s.bays.length := by omega
  rw [e1] at he
  rw [e2] at hok ⊢
  unfold Sh.stepE at he
  have hacc := h.acc hd
  have ho : s.off = false := by
    cases hoff : s.off with
    | false => rfl
    | true =>
      rw [hoff] at hacc
      rw [if_pos (show s.acc d.toNat ≠ 0 by rw [hacc]; decide), hacc] at he
      simp at he
  rw [ho] at hacc
  have hacc0 : s.acc d.toNat = 0 := hacc
  rw [if_neg (by simp [hacc0])] at he
  have hA' : ((s.dk d.toNat).putC i t).armed.es = [] := putC_arm (by rw [hD]; exact hA) i t
  unfold Sh.stepS at hok ⊢
  rw [if_neg (by simp [hacc0])] at hok ⊢
  by_cases hf : s.fused = true
  · rw [if_pos hf] at hok ⊢
    have hl0 : s.left ≠ 0 := by
      intro h0
      rw [if_pos ⟨hf, h0⟩] at he; simp at he
    rw [if_neg hl0] at hok ⊢
    have hok2 : (s.setD d.toNat ((s.dk d.toNat).putC i t)).ok := ⟨hok.1.cfg, hok.1.len, fun hh => h.ok.fuse hh, hok.1.dks, hok.1.szs⟩
    have hstd := std_setD h hlt hA' hok2
    refine ⟨⟨hok.1, hstd.inn, hstd.arm⟩, rfl, ho, ho, rfl, fun _ => ⟨hl0, rfl⟩, by simp [Sh.setD], fun d' => ?_⟩
    have := dk_setD s hlt ((s.dk d.toNat).putC i t) d'
    refine Eq.trans this ?_
    split
    · rename_i e; rw [e]
    · rfl
  · rw [if_neg hf] at hok ⊢
    have hstd := std_setD h hlt hA' hok.1
    refine ⟨hstd, rfl, ho, ho, rfl, fun hh => absurd hh hf, by simp [Sh.setD], fun d' => ?_⟩
    refine Eq.trans (dk_setD s hlt ((s.dk d.toNat).putC i t) d') ?_
    split
    · rename_i e; rw [e]
    · rfl
end Dn

/-
  The plain law: what Append does to the disk; what is read behind a tail.
-/
namespace Dn
open Go

/-- j parts of a record are written, from the i-th on -/
def Dk.putP (d : Int) (t : Tl) (g : Gn) (r : Sec) : Nat → Nat → Dk → Dk
  | 0, _, D => D
  | j + 1, i, D => Dk.putP d t g r j (i + 1) (D.putC (t.next + i) (sealS (plW d (t.next + i)) g (payB t r i)))

/-- what an append does: j of k parts are written -/
structure Wrote (s s' : Sh) (d : Int) (t : Tl) (g : Gn) (r : Sec) (i k j : Nat) (e : Int) : Prop where
  std : s'.std
  cfg : s'.cfg = s.cfg
  len : s'.bays.length = s.bays.length
  le : j ≤ k
  dk : ∀ d', s'.dk d' = if d' = d.toNat then (s.dk d').putP d t g r j i else s.dk d'
  or : (e = 0 ∧ j = k ∧ s'.off = s.off ∧ s'.fused = s.fused ∧ (0 < k → s.off = false)) ∨ (e = 14 ∧ j < k ∧ s'.off = true ∧ (s.off = true ∨ s.fused = true))

/-! ### what is read -/

/-- the power is on, and nothing is on its way -/
structure Sh.on (s : Sh) : Prop where
  std : s.std
  off : s.off = false

/-- the parts of a record lie behind a tail -/
def recAt (s : Sh) (d : Int) (t : Tl) (g : Gn) (r : Sec) : Prop := ∀ i : Nat, i < sizeW r.length → s.vw d (t.next + i) = sealS (plW d (t.next + i)) g (payB t r i)

/-- records one after the other, from a tail to a tail -/
def chain (s : Sh) (d : Int) : Tl → List (Gn × Sec) → Tl → Prop
  | t, [], t' => t = t'
  | t, (g, r) :: l, t' => t.ok ∧ g.ok ∧ g.newer t.gen ∧ r.length ≤ 4096 ∧ t.next + sizeW r.length ≤ s.cfg.logN ∧ recAt s d t g r ∧ chain s d ⟨t.next + sizeW r.length, t.number + 1, g⟩ l t'
end Dn

/-
  A loop over the entries of a map.
-/
namespace Dn
open Go

variable {P : Program} {m : Nat} {w : World} {L L1 L2 Lb : List (Nat × Obj)} {F : Fr} {T : Rg} {N : Rg → World → Prop} {l : List Ins} {d : Option Nat} {ty : TypeId} {K : Ex → Rg → World → Prop}
variable {α : Type} {enc : α → Value}

/-- keys and births are each there once -/
structure GM.wf (g : GM α) : Prop where
  keys : (g.es.map (·.1)).Nodup
  births : (g.es.map (·.2.2)).Nodup
  lt : ∀ e ∈ g.es, e.2.2 < g.clock

def itO (c : Nat) (g : GM α) (seen : List Nat) : Obj := .mapIter (some c) g.clock ⟨seen⟩ g.clock

theorem e_range {t kt et : TypeId} {x : Operand} {c : Nat} {g : GM α} (S : Sep w L F) (i : Nat) (hx : T.evR x = .map (some c)) (hL : L[i]? = some (c, g.obj enc)) (ht : P.underlying t = some (.map kt et))
    (h : ∀ r w', Sep w' ((r, itO c g []) :: L) F → Evs P l N (updO T d (.pointer (some ⟨r, 0, none⟩))) w') : Evs P (.op (.raw d (.range t x) ty) :: l) N T w := by
  have hb := S.at_ _ _ (Sep.mem hL)
  refine e_raw (w' := w.alloc (itO c g [])) (v := .pointer (some ⟨w.heap.size, 0, none⟩)) ?_ (h _ _ (S.alloc _))
  simp only [rawSem, execOp]
  refine pull ?_
  simp only [Instr.range, Sem.run_bind, run_und ht, Result.andThen_ok, hx]
  rw [getObj_run hb (by intro c t f; simp [GM.obj])]
  simp [GM.obj, itO]

theorem e_next {y : Operand} {r c : Nat} {g : GM α} {seen : List Nat} (S : Sep w L F) (i j : Nat) (hy : T.evR y = .pointer (some ⟨r, 0, none⟩)) (hi : L[i]? = some (r, itO c g seen)) (hj : L[j]? = some (c, g.obj enc)) (hlt : ∀ e ∈ g.es, e.2.2 < g.clock)
    (h0 : (∀ e ∈ g.es, e.2.2 ∈ seen) → ∀ w', Sep w' L F → Evs P l N (updO T d (.tuple ⟨[.bool false]⟩)) w')
    (h1 : ∀ e ∈ g.es, e.2.2 ∉ seen → ∀ w', Sep w' (L.set i (r, itO c g (seen ++ [e.2.2]))) F → Evs P l N (updO T d (.tuple ⟨[.bool true, .int .i64 e.1, enc e.2.1]⟩)) w') :
    Evs P (.op (.raw d (.next y false) ty) :: l) N T w := by
  have hb := S.at_ _ _ (Sep.mem hi)
  have hc := S.at_ _ _ (Sep.mem hj)
  obtain ⟨lf, hlf⟩ : ∃ lf, (g.es.filter fun e => !seen.contains e.2.2) = lf := ⟨_, rfl⟩
  have hleft : ((⟨g.es.map (GM.entry enc)⟩ : Array MapEntry).filter fun e => !(⟨seen⟩ : Array Nat).contains e.born) = ⟨lf.map (GM.entry enc)⟩ := by
    apply Array.ext'
    rw [Array.toList_filter, ← hlf]
    show (g.es.map (GM.entry enc)).filter _ = _
    rw [List.filter_map]
    congr 1
    apply List.filter_congr
    intro e _
    simp [Function.comp, GM.entry]
  have hold : ((⟨lf.map (GM.entry enc)⟩ : Array MapEntry).filter fun e => decide (e.born < g.clock)) = ⟨lf.map (GM.entry enc)⟩ := by
    apply Array.ext'
    rw [Array.toList_filter]
    show (lf.map (GM.entry enc)).filter _ = lf.map (GM.entry enc)
    rw [List.filter_eq_self]
    intro x hx
    obtain ⟨e, he, rfl⟩ := List.mem_map.1 hx
    rw [← hlf] at he
    exact decide_eq_true (hlt e (List.mem_filter.1 he).1)
  have hnew : ((⟨lf.map (GM.entry enc)⟩ : Array MapEntry).filter fun e => decide (e.born ≥ g.clock)) = #[] := by
    apply Array.ext'
    rw [Array.toList_filter]
    show (lf.map (GM.entry enc)).filter _ = []
    rw [List.filter_eq_nil_iff]
    intro x hx
    obtain ⟨e, he, rfl⟩ := List.mem_map.1 hx
    rw [← hlf] at he
    have h9 := hlt e (List.mem_filter.1 he).1
    intro h
    have h8 : e.2.2 ≥ g.clock := of_decide_eq_true h
    omega
  have hno : (!(⟨seen⟩ : Array Nat).isEmpty && !(⟨g.es.map (GM.entry enc)⟩ : Array MapEntry).isEmpty && (⟨g.es.map (GM.entry enc)⟩ : Array MapEntry).all fun e => decide (e.born ≥ g.clock)) = false := by
    cases hes : g.es with
    | nil => simp
    | cons e es =>
      have := hlt e (by rw [hes]; simp)
      simp [GM.entry]
      intro _ h9
      omega
  have hrun : ∃ w', (w' = w ∨ w' = w.drew) ∧ ((lf = [] ∧ (Instr.next (T.evR y) false ty).run P w = .ok (.tuple #[.bool false]) w') ∨
      ∃ e ∈ lf, (Instr.next (T.evR y) false ty).run P w = .ok (.tuple #[.bool true, .int .i64 e.1, enc e.2.1]) (w'.putObj r (itO c g (seen ++ [e.2.2])))) := by
    rw [hy]
    simp only [Instr.next, Sem.run_bind]
    rw [getObj_run hb (by intro c t f; simp [itO])]
    simp only [itO, Result.andThen_ok, Sem.run_bind]
    rw [getObj_run hc (by intro c t f; simp [GM.obj])]
    simp only [GM.obj, Result.andThen_ok, hno, Bool.false_eq_true, if_false, Sem.run_bind, Sem.run_pure, hleft, hold, hnew]
    cases hl : lf with
    | nil => exact ⟨w, .inl rfl, .inl ⟨rfl, by simp [Question.forced]⟩⟩
    | cons e0 l0 =>
      have hcand : ((if (⟨(e0 :: l0).map (GM.entry enc)⟩ : Array MapEntry).isEmpty then #[none] else #[]) ++ ((⟨(e0 :: l0).map (GM.entry enc)⟩ : Array MapEntry) ++ #[]).map some : Array (Option MapEntry)) = ⟨(e0 :: l0).map fun e => some (GM.entry enc e)⟩ := by
        apply Array.ext'
        simp
      rw [hcand]
      have hsz : (⟨(e0 :: l0).map fun e => some (GM.entry enc e)⟩ : Array (Option MapEntry)).size = l0.length + 1 := by simp
      rw [hsz]
      have key : ∀ k, k < l0.length + 1 → ∃ e ∈ e0 :: l0, (⟨(e0 :: l0).map fun e => some (GM.entry enc e)⟩ : Array (Option MapEntry))[k]? = some (some (GM.entry enc e)) := by
        intro k hk
        refine ⟨(e0 :: l0)[k]'(by simpa using hk), List.getElem_mem _, ?_⟩
        rw [List.getElem?_toArray, List.getElem?_map, List.getElem?_eq_getElem (by simpa using hk)]
        rfl
      by_cases hf : (Question.mapNext (l0.length + 1)).forced = true
      · obtain ⟨e, he, hk⟩ := key 0 (by omega)
        refine ⟨w, .inl rfl, .inr ⟨e, he, ?_⟩⟩
        rw [run_choose, if_pos hf]
        simp only [Result.andThen_ok, hk, Sem.run_bind, Sem.run_pure]
        rw [setObj_run hb (by intro c t f; simp [itO])]
        simp [GM.entry, itO]
      · obtain ⟨e, he, hk⟩ := key ((Question.mapNext (l0.length + 1)).cut (w.tape w.drawn (.mapNext (l0.length + 1)))) (Nat.mod_lt _ (by omega))
        refine ⟨w.drew, .inr rfl, .inr ⟨e, he, ?_⟩⟩
        rw [run_choose, if_neg hf]
        simp only [Result.andThen_ok, hk, Sem.run_bind, Sem.run_pure]
        show ((Sem.run P (setObj r _) w.drew).andThen _) = _
        rw [setObj_run (w := w.drew) hb (by intro c t f; simp [itO])]
        simp [GM.entry, itO]
  obtain ⟨w', hw', (⟨hl, hr⟩ | ⟨e, he, hr⟩)⟩ := hrun
  · refine e_raw (w' := w') (v := .tuple #[.bool false]) ?_ (h0 ?_ w' ?_)
    · simp only [rawSem, execOp]
      exact pull hr
    · intro e he
      rw [hl] at hlf
      have := (List.filter_eq_nil_iff.1 hlf) e he
      simpa using this
    · rcases hw' with rfl | rfl
      · exact S
      · exact S.drew
  · refine e_raw (w' := w'.putObj r (itO c g (seen ++ [e.2.2]))) (v := .tuple #[.bool true, .int .i64 e.1, enc e.2.1]) ?_ (h1 e ?_ ?_ _ ?_)
    · simp only [rawSem, execOp]
      exact pull hr
    · rw [← hlf] at he; exact (List.mem_filter.1 he).1
    · rw [← hlf] at he
      have := (List.mem_filter.1 he).2
      simpa using this
    · rcases hw' with rfl | rfl
      · exact S.put i hi _
      · exact S.drew.put i hi _

theorem find_born {es : List (Int × α × Nat)} (hn : (es.map (·.2.2)).Nodup) {e : Int × α × Nat} (he : e ∈ es) : (es.map (GM.entry enc)).find? (fun x => x.born == e.2.2) = some (GM.entry enc e) := by
  induction es with
  | nil => simp at he
  | cons x es ih =>
    simp only [List.map_cons, List.nodup_cons] at hn
    rw [List.map_cons, List.find?_cons]
    rcases List.mem_cons.1 he with h | h
    · subst h; simp [GM.entry]
    · have hne : x.2.2 ≠ e.2.2 := fun hh => hn.1 (by rw [hh]; exact List.mem_map.2 ⟨e, h, rfl⟩)
      have : ((GM.entry enc x).born == e.2.2) = false := by simpa [GM.entry] using hne
      rw [this]
      exact ih hn.2 h
theorem e_entry {y : Operand} {r c : Nat} {g : GM α} {seen : List Nat} {e : Int × α × Nat} (S : Sep w L F) (i j : Nat) (hy : T.evR y = .pointer (some ⟨r, 0, none⟩)) (hi : L[i]? = some (r, itO c g (seen ++ [e.2.2]))) (hj : L[j]? = some (c, g.obj enc)) (hn : (g.es.map (·.2.2)).Nodup) (he : e ∈ g.es)
    (h : Evs P l N (updO T d (.tuple ⟨[.int .i64 e.1, enc e.2.1]⟩)) w) : Evs P (.op (.raw d (.entry y) ty) :: l) N T w := by
  have hb := S.at_ _ _ (Sep.mem hi)
  have hc := S.at_ _ _ (Sep.mem hj)
  refine e_raw (w' := w) (v := .tuple #[.int .i64 e.1, enc e.2.1]) ?_ h
  simp only [rawSem, execOp]
  refine pull ?_
  rw [hy]
  simp only [Instr.entry, Sem.run_bind]
  rw [getObj_run hb (by intro c t f; simp [itO])]
  simp only [itO, Result.andThen_ok]
  have hback : (⟨seen ++ [e.2.2]⟩ : Array Nat).back? = some e.2.2 := by simp [Array.back?]
  rw [hback]
  simp only [Sem.run_bind]
  rw [getObj_run hc (by intro c t f; simp [GM.obj])]
  simp only [GM.obj, Result.andThen_ok]
  have hf : (⟨g.es.map (GM.entry enc)⟩ : Array MapEntry).find? (fun x => x.born == e.2.2) = some (GM.entry enc e) := by
    rw [List.find?_toArray]; exact find_born hn he
  rw [hf]
  simp [GM.entry]

end Dn

/-
  The walk of a disk's Flush.
-/
namespace Dn
open Go

/-- the sectors, with the entries of a cache written over them -/
def flushD (dur : List Sec) (es : List (Int × Sec × Nat)) : List Sec := dur.mapIdx fun i s => (GM.find (i : Int) es).getD s
def Dk.flush (D : Dk) : Dk := { D with dur := flushD D.dur D.cache.es, cache := D.cache.clear }
/-- the cache: keys are sectors, each once -/
structure Dk.wf (D : Dk) : Prop where
  cache : D.cache.wf
  rng : ∀ e ∈ D.cache.es, 0 ≤ e.1 ∧ e.1 < (D.dur.length : Int)

@[simp] theorem flushD_len (dur : List Sec) (es : List (Int × Sec × Nat)) : (flushD dur es).length = dur.length := by simp [flushD]
theorem flushD_get (dur : List Sec) (es : List (Int × Sec × Nat)) (i : Nat) (h : i < dur.length) : (flushD dur es)[i]? = some ((GM.find (i : Int) es).getD dur[i]) := by
  simp [flushD, List.getElem?_mapIdx, h]
theorem flushD_nil (dur : List Sec) : flushD dur [] = dur := by
  apply List.ext_getElem?
  intro i
  simp [flushD, List.getElem?_mapIdx, GM.find]
theorem GM.find_none {α : Type} {k : Int} {l : List (Int × α × Nat)} (h : ∀ e ∈ l, e.1 ≠ k) : GM.find k l = none := by
  induction l with
  | nil => rfl
  | cons e l ih =>
    simp only [GM.find]
    rw [if_neg (fun hh => h e (by simp) hh.symm)]
    exact ih fun x hx => h x (by simp [hx])
theorem GM.find_of {α : Type} {l : List (Int × α × Nat)} (hn : (l.map (·.1)).Nodup) {e : Int × α × Nat} (he : e ∈ l) : GM.find e.1 l = some e.2.1 := by
  induction l with
  | nil => simp at he
  | cons x l ih =>
    simp only [List.map_cons, List.nodup_cons] at hn
    simp only [GM.find]
    rcases List.mem_cons.1 he with h | h
    · subst h; simp
    · rw [if_neg (fun hh => hn.1 (by rw [← hh]; exact List.mem_map.2 ⟨e, h, rfl⟩))]
      exact ih hn.2 h
theorem flushD_snoc {dur : List Sec} {vis : List (Int × Sec × Nat)} {e : Int × Sec × Nat} (h0 : 0 ≤ e.1) (hk : ∀ x ∈ vis, x.1 ≠ e.1) : flushD dur (vis ++ [e]) = (flushD dur vis).set e.1.toNat e.2.1 := by
  apply List.ext_getElem?
  intro i
  rcases Nat.lt_or_ge i dur.length with hi | hi
  · rw [flushD_get _ _ _ hi, List.getElem?_set]
    obtain ⟨k, v, n⟩ := e
    simp only at h0 hk ⊢
    have hs : GM.find (i : Int) (vis ++ [(k, v, n)]) = (GM.find (i : Int) vis).or (if (i : Int) = k then some v else none) := by
      have : ∀ (l : List (Int × Sec × Nat)), GM.find (i : Int) (l ++ [(k, v, n)]) = (GM.find (i : Int) l).or (if (i : Int) = k then some v else none) := by
        intro l
        induction l with
        | nil => simp [GM.find]
        | cons x l ih =>
          simp only [List.cons_append, GM.find]
          split
          · rfl
          · exact ih
      exact this vis
    rw [hs]
    by_cases e1 : (i : Int) = k
    · have hnone : GM.find (i : Int) vis = none := by rw [e1]; exact GM.find_none hk
      rw [if_pos e1, hnone, if_pos (by omega), if_pos (by simp; omega)]
      rfl
    · rw [if_neg e1, if_neg (by omega), flushD_get _ _ _ hi]
      simp
  · rw [List.getElem?_eq_none (by simpa using hi), List.getElem?_eq_none (by simpa using hi)]

theorem flat_set {dur : List Sec} (h : ∀ s ∈ dur, s.length = 64) {i : Nat} (hi : i < dur.length) {s : Sec} (hs : s.length = 64) : putAt (dur.flatMap bcells) (i * 64) (bcells s) = (dur.set i s).flatMap bcells := by
  induction dur generalizing i with
  | nil => simp at hi
  | cons x dur ih =>
    have hx := h x (by simp)
    have hl : (bcells x).length = 64 := by simp [hx]
    have hls : (bcells s).length = 64 := by simp [hs]
    cases i with
    | zero =>
      simp only [List.set_cons_zero, List.flatMap_cons]
      unfold putAt
      rw [Nat.zero_mul, List.take_zero, List.nil_append, Nat.zero_add, hls, List.drop_left' hl]
    | succ i =>
      have e : (i + 1) * 64 = (bcells x).length + i * 64 := by rw [hl]; omega
      have := ih (fun s hs => h s (by simp [hs])) (i := i) (by simpa using hi)
      unfold putAt at this ⊢
      rw [List.flatMap_cons, List.set_cons_succ, List.flatMap_cons, e, List.take_length_add_append, Nat.add_assoc, List.drop_length_add_append, List.append_assoc, this]

theorem flush_all {D : Dk} (h : D.cache.wf) {vis : List (Int × Sec × Nat)} (h1 : ∀ e ∈ vis, e ∈ D.cache.es) (h2 : ∀ e ∈ D.cache.es, e.2.2 ∈ vis.map (·.2.2)) : flushD D.dur vis = flushD D.dur D.cache.es := by
  have hmem : ∀ e ∈ D.cache.es, e ∈ vis := by
    intro e he
    obtain ⟨e', he', hb⟩ := List.mem_map.1 (h2 e he)
    have h3 := h1 e' he'
    have : e' = e := by
      obtain ⟨i, hi, hie⟩ := List.mem_iff_getElem.1 h3
      obtain ⟨j, hj, hje⟩ := List.mem_iff_getElem.1 he
      have : i = j := by
        refine (List.getElem_inj (xs := D.cache.es.map (·.2.2)) (h₀ := by simpa using hi) (h₁ := by simpa using hj) h.births).1 ?_
        simp [hie, hje, hb]
      subst this
      rw [← hie, ← hje]
    rw [← this]; exact he'
  unfold flushD
  congr 1
  funext i s
  congr 1
  cases hf : GM.find (i : Int) D.cache.es with
  | none =>
    refine GM.find_none fun e he hk => ?_
    have := GM.find_of h.keys (h1 e he)
    rw [hk, hf] at this
    simp at this
  | some v =>
    obtain ⟨b, hb⟩ := GM.find_mem hf
    cases hv : GM.find (i : Int) vis with
    | none =>
      exfalso
      have hvis := hmem _ hb
      have key : ∀ (l : List (Int × Sec × Nat)), GM.find (i : Int) l = none → ∀ e ∈ l, e.1 ≠ (i : Int) := by
        intro l
        induction l with
        | nil => intro _ e he; simp at he
        | cons x l ih =>
          intro hn e he
          simp only [GM.find] at hn
          split at hn
          · simp at hn
          · rename_i hne
            rcases List.mem_cons.1 he with rfl | he
            · exact fun h => hne h.symm
            · exact ih hn e he
      exact key vis hv _ hvis rfl
    | some v' =>
      obtain ⟨b', hb'⟩ := GM.find_mem hv
      have := GM.find_of h.keys (h1 _ hb')
      simp only at this
      rw [hf] at this
      exact this.symm

theorem left_lt {α : Type} {es : List (Int × α × Nat)} {seen : List Nat} {e : Int × α × Nat} (he : e ∈ es) (hn : e.2.2 ∉ seen) : (es.filter fun x => !(seen ++ [e.2.2]).contains x.2.2).length < (es.filter fun x => !seen.contains x.2.2).length := by
  have e1 : (es.filter fun x => !(seen ++ [e.2.2]).contains x.2.2) = (es.filter fun x => !seen.contains x.2.2).filter fun x => !(x.2.2 == e.2.2) := by
    rw [List.filter_filter]
    apply List.filter_congr
    intro x _
    by_cases h1 : x.2.2 = e.2.2 <;> by_cases h2 : x.2.2 ∈ seen <;> simp [h1, h2]
  rw [e1, List.length_filter_lt_length_iff_exists]
  exact ⟨e, List.mem_filter.2 ⟨he, by simpa using hn⟩, by simp⟩

end Dn
namespace Go.Proofs.Ytgendpinmmmfjaa
open Dn
attribute [local irreducible] Evs Ev EvT DSpec PSpec CallTo
set_option maxRecDepth 10000
set_option maxHeartbeats 1000000

theorem dk_flush (D : Dk) (hok : D.ok) (hwf : D.wf) : DSpec Try.prog 44 [D.v] D.L fun _ L => L = D.flush.L := by
  refine spec_of mix Try.func44 c44_eq rfl rfl fun w F Q S hQ => ?_
  (repeat (first|(with_reducible first|refine Ja ?_|refine Jb ?_|refine Jc ?_|refine Jd ?_|refine Je ?_|refine Jf ?_|refine Jg ?_|refine Jh ?_|refine Ji ?_|refine Jj ?_|refine Jk rfl ?_|refine Jl ?_|refine Jm ?_|refine Jn ?_|refine Jo ?_|refine Jp ?_|refine Jq ?_)|refine JA rfl ?_|refine JB rfl ?_|refine JC rfl ?_|refine JD rfl ?_|refine JE rfl ?_|refine JF rfl ?_|refine JG rfl ?_|refine JH rfl ?_|refine JI rfl ?_|refine J2 rfl ?_|refine J3 rfl ?_|refine J4 rfl ?_|refine J1 rfl ?_|refine J6 rfl ?_|refine J7 rfl ?_|refine JJ rfl ?_|refine JK rfl ?_|refine JQ rfl ?_|refine JL rfl rfl ?_|refine JM rfl rfl ?_|refine JN rfl ?_|refine JO rfl ?_|refine JP rfl ?_))
  refine e_ld (S.cell 0 rfl rfl) ?_
  refine e_range (enc := Dn.encS) S 2 rfl rfl Try.underlying116 fun r w S => ?_
  (repeat (first|(with_reducible first|refine Ja ?_|refine Jb ?_|refine Jc ?_|refine Jd ?_|refine Je ?_|refine Jf ?_|refine Jg ?_|refine Jh ?_|refine Ji ?_|refine Jj ?_|refine Jk rfl ?_|refine Jl ?_|refine Jm ?_|refine Jn ?_|refine Jo ?_|refine Jp ?_|refine Jq ?_)|refine JA rfl ?_|refine JB rfl ?_|refine JC rfl ?_|refine JD rfl ?_|refine JE rfl ?_|refine JF rfl ?_|refine JG rfl ?_|refine JH rfl ?_|refine JI rfl ?_|refine J2 rfl ?_|refine J3 rfl ?_|refine J4 rfl ?_|refine J1 rfl ?_|refine J6 rfl ?_|refine J7 rfl ?_|refine JJ rfl ?_|refine JK rfl ?_|refine JQ rfl ?_|refine JL rfl rfl ?_|refine JM rfl rfl ?_|refine JN rfl ?_|refine JO rfl ?_|refine JP rfl ?_))
  refine s_loop (σ := List (Int × Sec × Nat)) (fun _ => [(0, D.v), (8, .pointer (some ⟨r, 0, none⟩))])
    (fun vis w => (∀ e ∈ vis, e ∈ D.cache.es) ∧ Dn.Sep w ((r, itO D.c D.cache (vis.map (·.2.2))) :: (D.q, .cells ⟨D.hd⟩ 119) :: (D.b, .cells ⟨(flushD D.dur vis).flatMap bcells⟩ 114) :: [(D.c, D.cache.obj Dn.encS), (D.a, D.armed.obj Dn.encI)]) F)
    (fun vis => (D.cache.es.filter fun x => !(vis.map (·.2.2)).contains x.2.2).length) [] ⟨rfl, rfl, trivial⟩ rfl ⟨by simp, by
      have e : flushD D.dur [] = D.dur := flushD_nil D.dur
      rw [e]; exact S⟩ ?_
  rintro g vis w ⟨hvis, S⟩
  simp only [setL]
  (repeat (first|(with_reducible first|refine Ja ?_|refine Jb ?_|refine Jc ?_|refine Jd ?_|refine Je ?_|refine Jf ?_|refine Jg ?_|refine Jh ?_|refine Ji ?_|refine Jj ?_|refine Jk rfl ?_|refine Jl ?_|refine Jm ?_|refine Jn ?_|refine Jo ?_|refine Jp ?_|refine Jq ?_)|refine JA rfl ?_|refine JB rfl ?_|refine JC rfl ?_|refine JD rfl ?_|refine JE rfl ?_|refine JF rfl ?_|refine JG rfl ?_|refine JH rfl ?_|refine JI rfl ?_|refine J2 rfl ?_|refine J3 rfl ?_|refine J4 rfl ?_|refine J1 rfl ?_|refine J6 rfl ?_|refine J7 rfl ?_|refine JJ rfl ?_|refine JK rfl ?_|refine JQ rfl ?_|refine JL rfl rfl ?_|refine JM rfl rfl ?_|refine JN rfl ?_|refine JO rfl ?_|refine JP rfl ?_))
  refine e_next S 0 3 rfl rfl rfl hwf.cache.lt (fun hall w S => ?_) (fun e he hne w S => ?_)
  · (repeat (first|(with_reducible first|refine Ja ?_|refine Jb ?_|refine Jc ?_|refine Jd ?_|refine Je ?_|refine Jf ?_|refine Jg ?_|refine Jh ?_|refine Ji ?_|refine Jj ?_|refine Jk rfl ?_|refine Jl ?_|refine Jm ?_|refine Jn ?_|refine Jo ?_|refine Jp ?_|refine Jq ?_)|refine JA rfl ?_|refine JB rfl ?_|refine JC rfl ?_|refine JD rfl ?_|refine JE rfl ?_|refine JF rfl ?_|refine JG rfl ?_|refine JH rfl ?_|refine JI rfl ?_|refine J2 rfl ?_|refine J3 rfl ?_|refine J4 rfl ?_|refine J1 rfl ?_|refine J6 rfl ?_|refine J7 rfl ?_|refine JJ rfl ?_|refine JK rfl ?_|refine JQ rfl ?_|refine JL rfl rfl ?_|refine JM rfl rfl ?_|refine JN rfl ?_|refine JO rfl ?_|refine JP rfl ?_))
    refine e_ld (S.cell 1 rfl rfl) ?_
    refine e_clearM S 3 rfl rfl rfl Try.underlying116 fun w S => ?_
    (repeat (first|(with_reducible first|refine Ja ?_|refine Jb ?_|refine Jc ?_|refine Jd ?_|refine Je ?_|refine Jf ?_|refine Jg ?_|refine Jh ?_|refine Ji ?_|refine Jj ?_|refine Jk rfl ?_|refine Jl ?_|refine Jm ?_|refine Jn ?_|refine Jo ?_|refine Jp ?_|refine Jq ?_)|refine JA rfl ?_|refine JB rfl ?_|refine JC rfl ?_|refine JD rfl ?_|refine JE rfl ?_|refine JF rfl ?_|refine JG rfl ?_|refine JH rfl ?_|refine JI rfl ?_|refine J2 rfl ?_|refine J3 rfl ?_|refine J4 rfl ?_|refine J1 rfl ?_|refine J6 rfl ?_|refine J7 rfl ?_|refine JJ rfl ?_|refine JK rfl ?_|refine JQ rfl ?_|refine JL rfl rfl ?_|refine JM rfl rfl ?_|refine JN rfl ?_|refine JO rfl ?_|refine JP rfl ?_))
    refine f_end rfl rfl (hQ _ _ _ ?_ (Sep.drop (L2 := [_]) S))
    rw [flush_all hwf.cache hvis hall]
    simp [Dk.L, Dk.flush, Dk.hd]
  have hs64 : e.2.1.length = 64 := hok.2 e he
  have hrng := hwf.rng e he
  have hdur : ∀ s ∈ flushD D.dur vis, s.length = 64 := by
    intro s hs
    obtain ⟨i, hi, hie⟩ := List.mem_iff_getElem.1 hs
    have h1 := flushD_get D.dur vis i (by simpa using hi)
    rw [List.getElem?_eq_getElem hi, Option.some.injEq, hie] at h1
    rw [h1]
    cases hf : GM.find (i : Int) vis with
    | none => exact hok.1 _ (List.getElem_mem _)
    | some v =>
      obtain ⟨b, hb⟩ := GM.find_mem hf
      exact hok.2 _ (hvis _ hb)
  have hkey : ∀ x ∈ vis, x.1 ≠ e.1 := by
    intro x hx hk
    apply hne
    have h1 := GM.find_of hwf.cache.keys he
    have h2 := hvis x hx
    obtain ⟨i, hi, hie⟩ := List.mem_iff_getElem.1 h2
    obtain ⟨j, hj, hje⟩ := List.mem_iff_getElem.1 he
    have : i = j := by
      refine (List.getElem_inj (xs := D.cache.es.map (·.1)) (h₀ := by simpa using hi) (h₁ := by simpa using hj) hwf.cache.keys).1 ?_
      simp [hie, hje, hk]
    subst this
    rw [hie] at hje
    rw [← hje]
    exact List.mem_map.2 ⟨x, hx, rfl⟩
  (repeat (first|(with_reducible first|refine Ja ?_|refine Jb ?_|refine Jc ?_|refine Jd ?_|refine Je ?_|refine Jf ?_|refine Jg ?_|refine Jh ?_|refine Ji ?_|refine Jj ?_|refine Jk rfl ?_|refine Jl ?_|refine Jm ?_|refine Jn ?_|refine Jo ?_|refine Jp ?_|refine Jq ?_)|refine JA rfl ?_|refine JB rfl ?_|refine JC rfl ?_|refine JD rfl ?_|refine JE rfl ?_|refine JF rfl ?_|refine JG rfl ?_|refine JH rfl ?_|refine JI rfl ?_|refine J2 rfl ?_|refine J3 rfl ?_|refine J4 rfl ?_|refine J1 rfl ?_|refine J6 rfl ?_|refine J7 rfl ?_|refine JJ rfl ?_|refine JK rfl ?_|refine JQ rfl ?_|refine JL rfl rfl ?_|refine JM rfl rfl ?_|refine JN rfl ?_|refine JO rfl ?_|refine JP rfl ?_))
  refine e_entry (e := e) S 0 3 rfl rfl rfl hwf.cache.births he ?_
  refine e_p (v := .int .i64 e.1) rfl ?_
  refine e_p (v := Dn.encS e.2.1) rfl ?_
  refine e_nw S fun b3 w S => ?_
  refine e_mvI rfl ?_
  refine e_st (vs := bcells e.2.1) S 0 rfl rfl rfl (by simp [hs64]) (bcells_flat _) (by simp) fun w S => ?_
  replace S : Dn.Sep w ((b3, .cells ⟨putAt _ 0 (bcells e.2.1)⟩ 114) :: (r, itO D.c D.cache (vis.map (·.2.2) ++ [e.2.2])) :: (D.q, .cells ⟨D.hd⟩ 119) :: (D.b, .cells ⟨(flushD D.dur vis).flatMap bcells⟩ 114) :: [(D.c, D.cache.obj Dn.encS), (D.a, D.armed.obj Dn.encI)]) F := S
  rw [putAt_all (by simp [hs64])] at S
  (repeat (with_reducible first|refine Ja ?_|refine Jb ?_|refine Jc ?_|refine Jd ?_|refine Je ?_|refine Jf ?_|refine Jg ?_|refine Jh ?_|refine Ji ?_|refine Jj ?_|refine Jk rfl ?_|refine Jl ?_|refine Jm ?_|refine Jn ?_|refine Jo ?_|refine Jp ?_|refine Jq ?_))
  refine s_opsd ?_
  replace S := S.drew
  (repeat (first|(with_reducible first|refine Ja ?_|refine Jb ?_|refine Jc ?_|refine Jd ?_|refine Je ?_|refine Jf ?_|refine Jg ?_|refine Jh ?_|refine Ji ?_|refine Jj ?_|refine Jk rfl ?_|refine Jl ?_|refine Jm ?_|refine Jn ?_|refine Jo ?_|refine Jp ?_|refine Jq ?_)|refine JA rfl ?_|refine JB rfl ?_|refine JC rfl ?_|refine JD rfl ?_|refine JE rfl ?_|refine JF rfl ?_|refine JG rfl ?_|refine JH rfl ?_|refine JI rfl ?_|refine J2 rfl ?_|refine J3 rfl ?_|refine J4 rfl ?_|refine J1 rfl ?_|refine J6 rfl ?_|refine J7 rfl ?_|refine JJ rfl ?_|refine JK rfl ?_|refine JQ rfl ?_|refine JL rfl rfl ?_|refine JM rfl rfl ?_|refine JN rfl ?_|refine JO rfl ?_|refine JP rfl ?_))
  refine e_ld (S.cell 2 rfl rfl) ?_
  (repeat (first|(with_reducible first|refine Ja ?_|refine Jb ?_|refine Jc ?_|refine Jd ?_|refine Je ?_|refine Jf ?_|refine Jg ?_|refine Jh ?_|refine Ji ?_|refine Jj ?_|refine Jk rfl ?_|refine Jl ?_|refine Jm ?_|refine Jn ?_|refine Jo ?_|refine Jp ?_|refine Jq ?_)|refine JA rfl ?_|refine JB rfl ?_|refine JC rfl ?_|refine JD rfl ?_|refine JE rfl ?_|refine JF rfl ?_|refine JG rfl ?_|refine JH rfl ?_|refine JI rfl ?_|refine J2 rfl ?_|refine J3 rfl ?_|refine J4 rfl ?_|refine J1 rfl ?_|refine J6 rfl ?_|refine J7 rfl ?_|refine JJ rfl ?_|refine JK rfl ?_|refine JQ rfl ?_|refine JL rfl rfl ?_|refine JM rfl rfl ?_|refine JN rfl ?_|refine JO rfl ?_|refine JP rfl ?_))
  refine e_ld (v := Dn.encS e.2.1) (S.row 0 rfl (by simp [hs64]) (by rw [List.drop_zero, List.take_of_length_le (by simp [hs64])])) ?_
  refine e_ixa rfl rfl hrng.1 hrng.2 ?_
  rw [show 0 + e.1.toNat * 64 = e.1.toNat * 64 by omega]
  have hlen : e.1.toNat < (flushD D.dur vis).length := by simp; omega
  refine e_st (vs := bcells e.2.1) S 3 rfl rfl rfl (by simp [hs64]) (bcells_flat _) (by rw [flat_len hdur]; omega) fun w S => ?_
  rw [flat_set hdur hlen hs64, ← flushD_snoc hrng.1 hkey] at S
  (repeat (first|(with_reducible first|refine Ja ?_|refine Jb ?_|refine Jc ?_|refine Jd ?_|refine Je ?_|refine Jf ?_|refine Jg ?_|refine Jh ?_|refine Ji ?_|refine Jj ?_|refine Jk rfl ?_|refine Jl ?_|refine Jm ?_|refine Jn ?_|refine Jo ?_|refine Jp ?_|refine Jq ?_)|refine JA rfl ?_|refine JB rfl ?_|refine JC rfl ?_|refine JD rfl ?_|refine JE rfl ?_|refine JF rfl ?_|refine JG rfl ?_|refine JH rfl ?_|refine JI rfl ?_|refine J2 rfl ?_|refine J3 rfl ?_|refine J4 rfl ?_|refine J1 rfl ?_|refine J6 rfl ?_|refine J7 rfl ?_|refine JJ rfl ?_|refine JK rfl ?_|refine JQ rfl ?_|refine JL rfl rfl ?_|refine JM rfl rfl ?_|refine JN rfl ?_|refine JO rfl ?_|refine JP rfl ?_))
  refine ⟨rfl, vis ++ [e], ⟨rfl, rfl, trivial⟩, ⟨fun x hx => ?_, ?_⟩, ?_⟩
  · rcases List.mem_append.1 hx with h | h
    · exact hvis x h
    · simp only [List.mem_singleton] at h; subst h; exact he
  · rw [List.map_append]; exact Sep.drop (L2 := [_]) S
  · rw [List.map_append]; exact left_lt he hne

end Go.Proofs.Ytgendpinmmmfjaa

/-
  The walks of a shelf's Flush and FlushAll.
-/
namespace Dn
open Go

/-- every disk's cache: keys are sectors, each once -/
def Sh.wf (s : Sh) : Prop := ∀ b ∈ s.bays, b.1.wf
def Sh.flE (s : Sh) (d : Int) : Int := if s.state d = 0 then 1 else s.stepE d.toNat
def Sh.flS (s : Sh) (d : Int) : Sh := if s.state d = 0 then s else s.stepS d.toNat ((s.dk d.toNat).flush)
theorem flush_ok {D : Dk} (h : D.ok) : D.flush.ok ∧ D.flush.dur.length = D.dur.length := by
  refine ⟨⟨fun s hs => ?_, fun e he => by simp [Dk.flush, GM.clear] at he⟩, by simp [Dk.flush]⟩
  have hs : s ∈ flushD D.dur D.cache.es := hs
  obtain ⟨i, hi, hie⟩ := List.mem_iff_getElem.1 hs
  have h1 := flushD_get D.dur D.cache.es i (by simpa using hi)
  rw [List.getElem?_eq_getElem hi, Option.some.injEq, hie] at h1
  rw [h1]
  cases hf : GM.find (i : Int) D.cache.es with
  | none => exact h.1 _ (List.getElem_mem _)
  | some v =>
    obtain ⟨b, hb⟩ := GM.find_mem hf
    exact h.2 _ hb
theorem flush_wf (D : Dk) : D.flush.wf := ⟨⟨by simp [Dk.flush, GM.clear], by simp [Dk.flush, GM.clear], by simp [Dk.flush, GM.clear]⟩, by simp [Dk.flush, GM.clear]⟩

/-- what a step leaves as it was -/
theorem step_keep (s : Sh) (d : Nat) (D : Dk) : (s.stepS d D).q = s.q ∧ (s.stepS d D).bb = s.bb ∧ (s.stepS d D).cap = s.cap ∧ (s.stepS d D).bays.length = s.bays.length ∧ (s.stepS d D).cfg = s.cfg := by
  unfold Sh.stepS
  repeat' split
  all_goals simp [Sh.setD]
theorem step_wf {s : Sh} (h : s.wf) {d : Nat} {D : Dk} (hD : D.wf) : (s.stepS d D).wf := by
  have hset : (s.setD d D).wf := by
    intro b hb
    rcases List.mem_or_eq_of_mem_set (show b ∈ s.bays.set d (D, ((s.bays[d]?).getD (D, 0)).2) from hb) with h1 | h1
    · exact h b h1
    · rw [h1]; exact hD
  unfold Sh.stepS
  repeat' split
  · exact h
  · exact h
  · exact hset
  · exact hset
end Dn
namespace Go.Proofs.Ytgendpinmmmfjaa
open Dn
attribute [local irreducible] Evs Ev EvT DSpec PSpec CallTo
set_option maxRecDepth 10000
set_option maxHeartbeats 1000000

theorem state_in {s : Sh} {d : Int} (h : ¬ s.state d = 0) : 0 ≤ d ∧ d < (s.bays.length : Int) := by
  unfold Sh.state at h
  by_cases e : d < 0 ∨ d ≥ (s.bays.length : Int)
  · rw [if_pos e] at h; exact absurd rfl h
  · omega
theorem fl_ok {s : Sh} (h : s.ok) (hw : s.wf) (d : Int) : (s.flS d).ok ∧ (s.flS d).wf ∧ (s.flS d).q = s.q ∧ (s.flS d).bb = s.bb ∧ (s.flS d).cap = s.cap ∧ (s.flS d).bays.length = s.bays.length ∧ (s.flS d).cfg = s.cfg := by
  unfold Sh.flS
  by_cases e : s.state d = 0
  · rw [if_pos e]; exact ⟨h, hw, rfl, rfl, rfl, rfl, rfl⟩
  · rw [if_neg e]
    obtain ⟨k1, k2⟩ := state_in e
    obtain ⟨st, hb⟩ := dk_at (s := s) (d := d.toNat) (by omega)
    have hf := flush_ok (h.dks _ (List.mem_of_getElem? hb))
    have hs := step_ok h (d := d.toNat) hf.1 (by rw [hf.2]; exact h.szs _ (List.mem_of_getElem? hb))
    obtain ⟨a1, a2, a3, a4, a5⟩ := step_keep s d.toNat (s.dk d.toNat).flush
    exact ⟨hs.1, step_wf hw (flush_wf _), a1, a2, a3, a4, a5⟩

theorem flush_closure (D : Dk) (st : Int) (hok : D.ok) (hwf : D.wf) :
    DSpec Try.prog 43 ([] ++ [.agg ⟨bayV (D, st)⟩] ++ []) ([] ++ D.L) fun _ L => L = [] ++ D.flush.L := by
  refine spec_of mix Try.func43 c43_eq rfl rfl fun w F Q S hQ => ?_
  (repeat (first|(with_reducible first|refine Ja ?_|refine Jb ?_|refine Jc ?_|refine Jd ?_|refine Je ?_|refine Jf ?_|refine Jg ?_|refine Jh ?_|refine Ji ?_|refine Jj ?_|refine Jk rfl ?_|refine Jl ?_|refine Jm ?_|refine Jn ?_|refine Jo ?_|refine Jp ?_|refine Jq ?_)|refine JA rfl ?_|refine JB rfl ?_|refine JC rfl ?_|refine JD rfl ?_|refine JE rfl ?_|refine JF rfl ?_|refine JG rfl ?_|refine JH rfl ?_|refine JI rfl ?_|refine J2 rfl ?_|refine J3 rfl ?_|refine J4 rfl ?_|refine J1 rfl ?_|refine J6 rfl ?_|refine J7 rfl ?_|refine JJ rfl ?_|refine JK rfl ?_|refine JQ rfl ?_|refine JL rfl rfl ?_|refine JM rfl rfl ?_|refine JN rfl ?_|refine JO rfl ?_|refine JP rfl ?_))
  refine e_bx S rfl fun b w S => ?_
  (repeat (first|(with_reducible first|refine Ja ?_|refine Jb ?_|refine Jc ?_|refine Jd ?_|refine Je ?_|refine Jf ?_|refine Jg ?_|refine Jh ?_|refine Ji ?_|refine Jj ?_|refine Jk rfl ?_|refine Jl ?_|refine Jm ?_|refine Jn ?_|refine Jo ?_|refine Jp ?_|refine Jq ?_)|refine JA rfl ?_|refine JB rfl ?_|refine JC rfl ?_|refine JD rfl ?_|refine JE rfl ?_|refine JF rfl ?_|refine JG rfl ?_|refine JH rfl ?_|refine JI rfl ?_|refine J2 rfl ?_|refine J3 rfl ?_|refine J4 rfl ?_|refine J1 rfl ?_|refine J6 rfl ?_|refine J7 rfl ?_|refine JJ rfl ?_|refine JK rfl ?_|refine JQ rfl ?_|refine JL rfl rfl ?_|refine JM rfl rfl ?_|refine JN rfl ?_|refine JO rfl ?_|refine JP rfl ?_))
  refine e_ld (v := D.v) (S.cell 0 rfl rfl) ?_
  refine e_call (L2 := [_]) rfl (dk_flush D hok hwf) S ?_
  rintro _ _ w rfl S
  (repeat (first|(with_reducible first|refine Ja ?_|refine Jb ?_|refine Jc ?_|refine Jd ?_|refine Je ?_|refine Jf ?_|refine Jg ?_|refine Jh ?_|refine Ji ?_|refine Jj ?_|refine Jk rfl ?_|refine Jl ?_|refine Jm ?_|refine Jn ?_|refine Jo ?_|refine Jp ?_|refine Jq ?_)|refine JA rfl ?_|refine JB rfl ?_|refine JC rfl ?_|refine JD rfl ?_|refine JE rfl ?_|refine JF rfl ?_|refine JG rfl ?_|refine JH rfl ?_|refine JI rfl ?_|refine J2 rfl ?_|refine J3 rfl ?_|refine J4 rfl ?_|refine J1 rfl ?_|refine J6 rfl ?_|refine J7 rfl ?_|refine JJ rfl ?_|refine JK rfl ?_|refine JQ rfl ?_|refine JL rfl rfl ?_|refine JM rfl rfl ?_|refine JN rfl ?_|refine JO rfl ?_|refine JP rfl ?_))
  exact f_end rfl rfl (hQ _ _ _ rfl (Sep.drop (L2 := [_]) S))

theorem sh_flush (s : Sh) (d : Int) (h : s.ok) (hw : s.wf) : DSpec Try.prog 21 [s.v, .int .i64 d] s.L fun v L => v = .int .i64 (s.flE d) ∧ L = (s.flS d).L := by
  refine spec_of mix Try.func21 c21_eq rfl rfl fun w F Q S hQ => ?_
  (repeat (first|(with_reducible first|refine Ja ?_|refine Jb ?_|refine Jc ?_|refine Jd ?_|refine Je ?_|refine Jf ?_|refine Jg ?_|refine Jh ?_|refine Ji ?_|refine Jj ?_|refine Jk rfl ?_|refine Jl ?_|refine Jm ?_|refine Jn ?_|refine Jo ?_|refine Jp ?_|refine Jq ?_)|refine JA rfl ?_|refine JB rfl ?_|refine JC rfl ?_|refine JD rfl ?_|refine JE rfl ?_|refine JF rfl ?_|refine JG rfl ?_|refine JH rfl ?_|refine JI rfl ?_|refine J2 rfl ?_|refine J3 rfl ?_|refine J4 rfl ?_|refine J1 rfl ?_|refine J6 rfl ?_|refine J7 rfl ?_|refine JJ rfl ?_|refine JK rfl ?_|refine JQ rfl ?_|refine JL rfl rfl ?_|refine JM rfl rfl ?_|refine JN rfl ?_|refine JO rfl ?_|refine JP rfl ?_))
  refine e_call (L2 := []) rfl (sh_state s d) S ?_
  rintro _ _ w ⟨rfl, rfl⟩ S
  refine e_p (cmp_eqlD rfl rfl) ?_
  (repeat (with_reducible first|refine Ja ?_|refine Jb ?_|refine Jc ?_|refine Jd ?_|refine Je ?_|refine Jf ?_|refine Jg ?_|refine Jh ?_|refine Ji ?_|refine Jj ?_|refine Jk rfl ?_|refine Jl ?_|refine Jm ?_|refine Jn ?_|refine Jo ?_|refine Jp ?_|refine Jq ?_))
  refine s_iteD rfl (fun h1 => ?_) (fun h1 => ?_)
  · (repeat (first|(with_reducible first|refine Ja ?_|refine Jb ?_|refine Jc ?_|refine Jd ?_|refine Je ?_|refine Jf ?_|refine Jg ?_|refine Jh ?_|refine Ji ?_|refine Jj ?_|refine Jk rfl ?_|refine Jl ?_|refine Jm ?_|refine Jn ?_|refine Jo ?_|refine Jp ?_|refine Jq ?_)|refine JA rfl ?_|refine JB rfl ?_|refine JC rfl ?_|refine JD rfl ?_|refine JE rfl ?_|refine JF rfl ?_|refine JG rfl ?_|refine JH rfl ?_|refine JI rfl ?_|refine J2 rfl ?_|refine J3 rfl ?_|refine J4 rfl ?_|refine J1 rfl ?_|refine J6 rfl ?_|refine J7 rfl ?_|refine JJ rfl ?_|refine JK rfl ?_|refine JQ rfl ?_|refine JL rfl rfl ?_|refine JM rfl rfl ?_|refine JN rfl ?_|refine JO rfl ?_|refine JP rfl ?_))
    exact f_ret rfl rfl (hQ _ _ _ ⟨by unfold Sh.flE; rw [if_pos h1]; rfl, by unfold Sh.flS; rw [if_pos h1]; rfl⟩ S)
  obtain ⟨k1, k2⟩ := state_in h1
  obtain ⟨dn, rfl⟩ : ∃ dn : Nat, d = dn := ⟨d.toNat, by omega⟩
  obtain ⟨st, hb⟩ := dk_at (s := s) (d := dn) (by omega)
  have hm := List.mem_of_getElem? hb
  have hstep := sh_step s dn (s.dk dn) (s.dk dn).flush st 43 [] [] [] hb rfl h.fuse (by kernel_rfl) (flush_closure _ _ (h.dks _ hm) (hw _ hm))
  rw [List.append_nil] at hstep
  simp only [List.append_nil] at hstep
  (repeat (first|(with_reducible first|refine Ja ?_|refine Jb ?_|refine Jc ?_|refine Jd ?_|refine Je ?_|refine Jf ?_|refine Jg ?_|refine Jh ?_|refine Ji ?_|refine Jj ?_|refine Jk rfl ?_|refine Jl ?_|refine Jm ?_|refine Jn ?_|refine Jo ?_|refine Jp ?_|refine Jq ?_)|refine JA rfl ?_|refine JB rfl ?_|refine JC rfl ?_|refine JD rfl ?_|refine JE rfl ?_|refine JF rfl ?_|refine JG rfl ?_|refine JH rfl ?_|refine JI rfl ?_|refine J2 rfl ?_|refine J3 rfl ?_|refine J4 rfl ?_|refine J1 rfl ?_|refine J6 rfl ?_|refine J7 rfl ?_|refine JJ rfl ?_|refine JK rfl ?_|refine JQ rfl ?_|refine JL rfl rfl ?_|refine JM rfl rfl ?_|refine JN rfl ?_|refine JO rfl ?_|refine JP rfl ?_))
  refine e_call (L2 := []) rfl hstep S ?_
  rintro _ _ w ⟨rfl, rfl⟩ S
  (repeat (first|(with_reducible first|refine Ja ?_|refine Jb ?_|refine Jc ?_|refine Jd ?_|refine Je ?_|refine Jf ?_|refine Jg ?_|refine Jh ?_|refine Ji ?_|refine Jj ?_|refine Jk rfl ?_|refine Jl ?_|refine Jm ?_|refine Jn ?_|refine Jo ?_|refine Jp ?_|refine Jq ?_)|refine JA rfl ?_|refine JB rfl ?_|refine JC rfl ?_|refine JD rfl ?_|refine JE rfl ?_|refine JF rfl ?_|refine JG rfl ?_|refine JH rfl ?_|refine JI rfl ?_|refine J2 rfl ?_|refine J3 rfl ?_|refine J4 rfl ?_|refine J1 rfl ?_|refine J6 rfl ?_|refine J7 rfl ?_|refine JJ rfl ?_|refine JK rfl ?_|refine JQ rfl ?_|refine JL rfl rfl ?_|refine JM rfl rfl ?_|refine JN rfl ?_|refine JO rfl ?_|refine JP rfl ?_))
  exact f_ret rfl rfl (hQ _ _ _ ⟨by unfold Sh.flE; rw [if_neg h1]; rfl, by unfold Sh.flS; rw [if_neg h1]; rfl⟩ S)

end Go.Proofs.Ytgendpinmmmfjaa

/-
  The plain law: the laws' log.
-/
namespace Dn
open Go

def after (t : Tl) (g : Gn) (r : Sec) : Tl := ⟨t.next + sizeW r.length, t.number + 1, g⟩
def endT : Tl → List (Gn × Sec) → Tl
  | t, [] => t
  | t, (g, r) :: l => endT (after t g r) l
/-! caches stay well formed -/
theorem GM.upd_keys {α : Type} {k : Int} {v : α} : ∀ {l es : List (Int × α × Nat)}, GM.upd k v l = some es → es.map (·.1) = l.map (·.1) ∧ es.map (·.2.2) = l.map (·.2.2) := by
  intro l
  induction l with
  | nil => intro es h; simp [GM.upd] at h
  | cons e l ih =>
    intro es h
    simp only [GM.upd] at h
    split at h
    · rename_i hk
      injection h with h; subst h
      simp [hk]
    · cases hu : GM.upd k v l with
      | none => rw [hu] at h; simp at h
      | some es' =>
        rw [hu] at h
        simp only [Option.map_some, Option.some.injEq] at h
        subst h
        simp [ih hu]
theorem GM.upd_nokey {α : Type} {k : Int} {v : α} : ∀ {l : List (Int × α × Nat)}, GM.upd k v l = none → ∀ e ∈ l, e.1 ≠ k := by
  intro l
  induction l with
  | nil => intro _ e he; simp at he
  | cons x l ih =>
    intro h e he
    simp only [GM.upd] at h
    split at h
    · simp at h
    · rename_i hk
      rcases List.mem_cons.1 he with rfl | he
      · exact fun hh => hk hh.symm
      · exact ih (by simpa using h) e he
theorem GM.set_wf {α : Type} {g : GM α} (h : g.wf) (k : Int) (v : α) : (g.set k v).wf := by
  unfold GM.set
  cases hu : GM.upd k v g.es with
  | some es =>
    obtain ⟨h1, h2⟩ := GM.upd_keys hu
    refine ⟨by simp only [h1]; exact h.keys, by simp only [h2]; exact h.births, fun e he => ?_⟩
    have : e.2.2 ∈ es.map (·.2.2) := List.mem_map.2 ⟨e, he, rfl⟩
    rw [h2] at this
    obtain ⟨e', he', hb⟩ := List.mem_map.1 this
    have := h.lt e' he'
    simp only at hb ⊢
    omega
  | none =>
    refine ⟨?_, ?_, fun e he => ?_⟩
    · simp only [List.map_append, List.map_cons, List.map_nil]
      rw [List.nodup_append]
      refine ⟨h.keys, by simp, fun a ha b hb => ?_⟩
      obtain ⟨e, he, rfl⟩ := List.mem_map.1 ha
      simp only [List.mem_singleton] at hb
      subst hb
      exact GM.upd_nokey hu e he
    · simp only [List.map_append, List.map_cons, List.map_nil]
      rw [List.nodup_append]
      refine ⟨h.births, by simp, fun a ha b hb => ?_⟩
      obtain ⟨e, he, rfl⟩ := List.mem_map.1 ha
      simp only [List.mem_singleton] at hb
      subst hb
      have := h.lt e he
      omega
    · rcases List.mem_append.1 he with h1 | h1
      · have := h.lt e h1
        show e.2.2 < g.clock + 1
        omega
      · simp only [List.mem_singleton] at h1
        subst h1
        show g.clock < g.clock + 1
        omega
theorem GM.set_key {α : Type} {g : GM α} {k : Int} {v : α} {e : Int × α × Nat} (h : e ∈ (g.set k v).es) : e.1 = k ∨ ∃ e' ∈ g.es, e'.1 = e.1 := by
  unfold GM.set at h
  cases hu : GM.upd k v g.es with
  | some es =>
    rw [hu] at h
    have h : e ∈ es := h
    have : e.1 ∈ es.map (·.1) := List.mem_map.2 ⟨e, h, rfl⟩
    rw [(GM.upd_keys hu).1] at this
    obtain ⟨e', he', hb⟩ := List.mem_map.1 this
    exact .inr ⟨e', he', hb⟩
  | none =>
    rw [hu] at h
    rcases List.mem_append.1 h with h1 | h1
    · exact .inr ⟨e, h1, rfl⟩
    · simp only [List.mem_singleton] at h1; subst h1; exact .inl rfl
theorem putC_wf {D : Dk} (h : D.wf) {i : Int} (hi : 0 ≤ i ∧ i < (D.dur.length : Int)) (t : Sec) : (D.putC i t).wf := by
  refine ⟨GM.set_wf h.cache i t, fun e he => ?_⟩
  have he : e ∈ (D.cache.set i t).es := he
  show 0 ≤ e.1 ∧ e.1 < (D.dur.length : Int)
  rcases GM.set_key he with h1 | ⟨e', h1, h2⟩
  · rw [h1]; exact hi
  · rw [← h2]; exact h.rng e' h1
theorem Sh.std.wr_wf {s : Sh} (h : s.std) (hw : s.wf) {d i : Int} {t : Sec} (hd : 0 ≤ d ∧ d < s.cfg.disks) (hi : 0 ≤ i ∧ i < s.cfg.log) (ht : t.length = 64) : (s.wrS (plW d i) t).wf := by
  rw [(h.wr hd hi ht).2]
  refine step_wf hw ?_
  obtain ⟨D, hb, hD, -⟩ := h.bays hd
  have hm := List.mem_of_getElem? hb
  have hsz := h.ok.szs _ hm
  have hc := h.ok.cfg
  unfold Cfg.ok at hc
  rw [hD]
  refine putC_wf (hw _ hm) ⟨hi.1, ?_⟩ t
  simp only at hsz
  rw [hsz]
  unfold Cfg.total
  omega
/-- the records with the generations that the laws' log gives them -/
def tagged (k : Nat) : List Sec → List (Gn × Sec)
  | [] => []
  | r :: l => (⟨1, (k : Int) + 1⟩, r) :: tagged (k + 1) l
/-- the tail behind i records -/
def tailAt (l : List Sec) (i : Nat) : Tl := endT zT (tagged 0 (l.take i))
/-- what the laws' log leaves -/
structure Logged (s : Sh) (c : Cfg) (l : List Sec) (n : Nat) : Prop where
  on : s.on
  fused : s.fused = false
  cfg : s.cfg = c
  le : n ≤ l.length
  chain : chain s 0 zT (tagged 0 (l.take n)) (tailAt l n)
  fit : (tailAt l n).next ≤ c.logN ∨ n = 0
  z0 : ∀ i, (tailAt l n).next ≤ i → i < c.total → s.vw 0 i = zsec
  z1 : ∀ i, 0 ≤ i → i < c.total → s.vw 1 i = zsec
  wf : s.wf

end Dn

/-
  The plain law: the log that was begun on a new shelf; where a scan stops.
-/
namespace Dn
open Go

theorem sizeW_le (n : Nat) : sizeW n ≤ n + 1 := by unfold sizeW; split <;> omega

end Dn

namespace Go.Proofs.Ytgendpinmmmfjaa
open Dn
attribute [local irreducible] Evs Ev EvT DSpec PSpec CallTo
theorem fresh_std {s : Sh} {c : Cfg} (hc : c.ok) (h : ShFresh s c) : s.std := by
  refine ⟨fresh_ok hc h, fun b hb => (h.bay b hb).1, fun b hb => ?_⟩
  obtain ⟨h1, h2, h3⟩ := (h.bay b hb).2
  rw [h3]
theorem fresh_wf {s : Sh} {c : Cfg} (h : ShFresh s c) : s.wf := by
  intro b hb
  obtain ⟨h1, h2, h3⟩ := (h.bay b hb).2
  refine ⟨?_, fun e he => ?_⟩
  · rw [h2]; exact ⟨by simp, by simp, by simp⟩
  · rw [h2] at he; simp at he
end Go.Proofs.Ytgendpinmmmfjaa

/- The compiled forms of functions of this seat, printed by a program of this claim's writer. -/
set_option maxRecDepth 100000
namespace Go.Proofs.Ytgendpinmmmfjaa
open Dn Go
/-- slices.Sorted[int] -/
def c66 : Fun := ⟨9, (.seq (.ops [(.op (.p (some 2) (.mov (.c (.slice none 0 0)))))] false) (.seq (.ops [(.op (.p (some 4) (.mov (.r 0)))), (.op (.call (some 5) 76 [(.r 4)])), (.op (.p (some 3) (.mov (.r 5))))] false) (.seq (.ops [(.op (.p (some 6) (.mov (.r 3)))), (.op (.call (some 7) 77 [(.r 6)]))] false) (.seq (.ops [(.op (.p (some 8) (.mov (.r 3)))), (.op (.p (some 2) (.mov (.r 8))))] false) .ret)))), [(.t (.r 2))]⟩
theorem c66_eq : cF Try.prog Try.f66 = some c66 := by kernel_rfl
/-- maps.Keys[map[int]solvent/disk.sector,int,solvent/disk.sector] -/
def c67 : Fun := ⟨4, (.seq (.ops [(.op (.bx (some 1) 116 (.r 0))), (.op (.p (some 2) (.mov (.c .nilFunc))))] false) (.seq (.ops [(.op (.p (some 3) (.mkf (.func 78) [] [(.r 1)]))), (.op (.p (some 2) (.mov (.r 3))))] false) .ret)), [(.t (.r 2))]⟩
theorem c67_eq : cF Try.prog Try.f67 = some c67 := by kernel_rfl
/-- slices.Collect[int] -/
def c76 : Fun := ⟨5, (.seq (.ops [(.op (.p (some 2) (.mov (.c (.slice none 0 0)))))] false) (.seq (.ops [(.op (.p (some 3) (.mov (.r 0)))), (.op (.call (some 4) 82 [(.c (.slice none 0 0)), (.r 3)])), (.op (.p (some 2) (.mov (.r 4))))] false) .ret)), [(.t (.r 2))]⟩
theorem c76_eq : cF Try.prog Try.f76 = some c76 := by kernel_rfl
/-- slices.AppendSeq[[]int,int] -/
def c82 : Fun := ⟨13, (.seq (.ops [(.op (.bx (some 2) 49 (.r 0))), (.op (.p (some 4) (.mov (.c (.slice none 0 0)))))] false) (.seq (.seq (.ops [(.op (.p (some 6) (.mov (.r 1))))] false) (.blk 0 (.rf (.r 6) [7] (.region 2 #[(.mk (some 5) (.assign (.tmp 7)) 3 "iter.go:51" #[] none)] false) (.block 1 (.region 3 #[(.mk (some 8) (.load 49 (.tmp 2)) 49 "iter.go:52" #[] none), (.mk (some 9) (.move (.tmp 5)) 3 "iter.go:52" #[] none), (.mk (some 10) (.buildSlice 49 1 #[(0, (.tmp 9))]) 49 "iter.go:52" #[(.mk 1 .data)] none), (.mk (some 11) (.call (.mk (.builtin .append) #[(.tmp 8), (.tmp 10)] #[49, 49])) 49 "iter.go:52" #[(.mk 0 .data), (.mk 2 .data)] none), (.mk none (.store 49 (.tmp 2) (.tmp 11)) 0 "iter.go:52" #[(.mk 3 .data), (.mk 3 .chain), (.mk 0 .phase), (.mk 1 .phase), (.mk 2 .phase), (.mk 3 .phase)] none)] false)) (.ops [(.op (.p (some 5) (.mov (.r 7))))] false) (.blk 1 (.ops [(.op (.ld (some 8) none (.r 2))), (.op (.p (some 9) (.mov (.r 5)))), (.op (.raw (some 10) (.buildSlice 49 1 #[(0, (.tmp 9))]) 49)), (.op (.raw (some 11) (.call (.mk (.builtin .append) #[(.tmp 8), (.tmp 10)] #[49, 49])) 49)), (.op (.st none 1 (.r 2) (.r 11)))] false))))) (.seq (.ops [(.op (.ld (some 12) none (.r 2))), (.op (.p (some 4) (.mov (.r 12))))] false) .ret))), [(.t (.r 4))]⟩
theorem c82_eq : cF Try.prog Try.f82 = some c82 := by kernel_rfl
/-- maps.Keys[map[int]solvent/disk.sector,int,solvent/disk.sector]$1 -/
def c78 : Fun := ⟨14, (.seq (.ops [(.op (.ld (some 4) none (.r 1))), (.op (.raw (some 5) (.range 116 (.tmp 4)) 0))] false) (.blk 0 (.loop (.seq (.ops [(.op (.raw (some 6) (.next (.tmp 5) false) 0)), (.op (.p (some 7) (.ext (.r 6) 0)))] false) (.seq (.ite (.r 7) .skip (.exit 0)) (.blk 1 (.seq (.ops [(.op (.raw (some 8) (.entry (.tmp 5)) 0)), (.op (.p (some 9) (.ext (.r 8) 0))), (.op (.p (some 3) (.mov (.r 9))))] false) (.seq (.ops [(.op (.p (some 10) (.mov (.r 0)))), (.op (.p (some 11) (.mov (.r 3)))), (.op (.cf (some 12) (.r 10) [(.r 11)])), (.op (.p (some 13) (.un .not (.r 12))))] false) (.ite (.r 13) .ret .skip))))))))), []⟩
theorem c78_eq : cF Try.prog Try.f78 = some c78 := by kernel_rfl
end Go.Proofs.Ytgendpinmmmfjaa

/-
  A loop over an iterator whose order is open: what is yielded is told by a relation between states.
-/
namespace Dn
open Go

variable {P : Program} {m : Nat} {w : World} {L L0 B : List (Nat × Obj)} {F : Fr} {T : Rg} {K : Ex → Rg → World → Prop}

def IterS (P : Program) (gf : FuncId) (fs cs : List Value) (B : List (Nat × Obj)) {σ : Type} (s0 : σ) (R : σ → List Value → σ → Prop) (fin : σ → Prop) : Prop :=
  ∀ (lp : Nat) (J : σ → List (Nat × Obj) → Prop) (Stop : List (Nat × Obj) → Prop),
    (∀ s a s', R s a s' → ∀ L, J s L → DY P lp a L fun v L' => (v = .bool true ∧ J s' L') ∨ (v = .bool false ∧ Stop L')) → ∀ L0, J s0 L0 →
      DSpec P gf (fs ++ [.func (.yield lp) #[] #[]] ++ cs) (B ++ L0) fun _ L' => ∃ L'', L' = B ++ L'' ∧ ((∃ s, fin s ∧ J s L'') ∨ Stop L'')

theorem s_rfS (hmix : P.follows .mixedOrders = true) {g : X} {ps : List Nat} {assign body : Code} {ca cb : Cd} {gf : FuncId} {fs cs : List Value} {σ : Type} {s0 : σ} {R : σ → List Value → σ → Prop} {fin : σ → Prop} (hg : T.ev g = .func (.func gf) ⟨fs⟩ ⟨cs⟩) (hc : callable P gf = true) (hd : T.ds = [])
    (hps : ps.all (fun p => Nat.blt p m) = true) (hargs : ∀ s a s', R s a s' → a.length = ps.length) (hca : cC P m true assign = ca) (hcb : cC P m true body = cb) (hit : IterS P gf fs cs B s0 R fin) (S : Sep w (L0 ++ B) F)
    (inv : σ → List (Nat × Obj) → Prop) (post : Ex → List (Nat × Obj) → Prop) (h0 : inv s0 L0)
    (hr : ∀ s a s', R s a s' → ∀ w, Ev P m ca (fun e T1 w' => e = .n ∧ w' = w ∧
      ∀ w F (lp : Nat) (o : Obj) (L : List (Nat × Obj)) (Q : Ex → World → Prop), inv s L → Sep w ((lp, o) :: L) F → (∀ w' L', inv s' L' → Sep w' ((lp, o) :: L') F → Q .n w') → (∀ e w' L', e ≠ .n → post e L' → Sep w' ((lp, o) :: L') F → Q e w') →
        Ev P m cb (fun e _ w' => Q e w') T1 w) (updL T ps a) w)
    (hk1 : ∀ w' lp D o s L', fin s → inv s L' → Sep w' ((lp, o) :: (D, .deferred (some [])) :: (B ++ L')) F → K .n ⟨T.f, [D]⟩ w')
    (hk2 : ∀ e w' lp D o L', e ≠ .n → post e L' → Sep w' ((lp, o) :: (D, .deferred (some [])) :: (B ++ L')) F → K e ⟨T.f, [D]⟩ w') : Ev P m (.rf g ps assign body ca cb) K T w := by
  refine s_rf hg hc hd S (post := fun e L'' => ∃ L, L'' = B ++ L ∧ ((e = .n ∧ ∃ s, fin s ∧ inv s L) ∨ (e ≠ .n ∧ post e L))) ?_ ?_
  · intro lp D fn tmps hm hT
    have hi := hit lp (fun s L1 => ∃ L, L1 = (lp, loopObj .ready none fn tmps ps assign body D) :: L ∧ inv s L) (fun L1 => ∃ e L, e ≠ Ex.n ∧ L1 = (lp, loopObj .done e.code fn tmps ps assign body D) :: L ∧ post e L) ?_ ((lp, loopObj .ready none fn tmps ps assign body D) :: L0) ⟨L0, rfl, h0⟩
    · refine DSpec.conv (DSpec.perm (DSpec.frame hi [(D, .deferred (some []))]) ?_) ?_
      · refine List.Perm.trans (List.Perm.swap _ _ _) (List.Perm.cons _ ?_)
        refine List.Perm.trans (List.Perm.cons _ List.perm_append_comm) ?_
        exact List.perm_middle.symm
      · rintro v L' ⟨L2, rfl, L3, rfl, (⟨s, hf, L4, rfl, hn⟩ | ⟨e, L4, he, rfl, hp⟩)⟩
        · refine ⟨(lp, loopObj .ready none fn tmps ps assign body D) :: (D, .deferred (some [])) :: (B ++ L4), ?_, .n, .ready, B ++ L4, by simp, rfl, L4, rfl, .inl ⟨rfl, s, hf, hn⟩⟩
          exact (List.Perm.cons _ List.perm_middle).trans (List.Perm.swap _ _ _)
        · refine ⟨(lp, loopObj .done e.code fn tmps ps assign body D) :: (D, .deferred (some [])) :: (B ++ L4), ?_, e, .done, B ++ L4, by simp, rfl, L4, rfl, .inr ⟨he, hp⟩⟩
          exact (List.Perm.cons _ List.perm_middle).trans (List.Perm.swap _ _ _)
    · rintro s a s' hR _ ⟨L, rfl, hinv⟩
      refine DY.mono (dy_of (post := fun e L' => (e = .n ∧ inv s' L') ∨ (e ≠ .n ∧ post e L')) hmix hm hT hps (hargs s a s' hR) hca hcb hd (fun w => Ev_mono ?_ _ (hr s a s' hR w))) ?_
      · rintro e T1 w' ⟨rfl, rfl, hB⟩
        refine ⟨rfl, rfl, fun w F Q S hQ => ?_⟩
        exact hB w F lp _ L Q hinv S (fun w' L' h1 h2 => hQ .n w' L' (.inl ⟨rfl, h1⟩) h2) (fun e w' L' he h1 h2 => hQ e w' L' (.inr ⟨he, h1⟩) h2)
      · rintro v L' ⟨e, L'', rfl, rfl, (⟨rfl, h1⟩ | ⟨he, h1⟩)⟩
        · exact .inl ⟨rfl, L'', rfl, h1⟩
        · right
          cases e with
          | n => exact absurd rfl he
          | x id => exact ⟨rfl, .x id, L'', he, rfl, h1⟩
          | r => exact ⟨rfl, .r, L'', he, rfl, h1⟩
  · rintro e _ w' lp D o ⟨L, rfl, (⟨rfl, s, hf, h1⟩ | ⟨he, h1⟩)⟩ S'
    · exact hk1 w' lp D o s L hf h1 S'
    · exact hk2 e w' lp D o L he h1 S'

end Dn

/-
  The walks of maps.Keys and slices.Collect over a disk's cache.
-/
namespace Dn
open Go

/-- an entry of the map is visited that has not been -/
def visR (es : List (Int × Sec × Nat)) (vis : List (Int × Sec × Nat)) (a : List Value) (vis' : List (Int × Sec × Nat)) : Prop :=
  ∃ e ∈ es, e.2.2 ∉ vis.map (·.2.2) ∧ a = [.int .i64 e.1] ∧ vis' = vis ++ [e] ∧ vis.length < es.length
def visF (es : List (Int × Sec × Nat)) (vis : List (Int × Sec × Nat)) : Prop := ∀ e ∈ es, e.2.2 ∈ vis.map (·.2.2)
/-- what has been visited: entries of the map, each once -/
structure Vis (es vis : List (Int × Sec × Nat)) : Prop where
  sub : ∀ e ∈ vis, e ∈ es
  nd : (vis.map (·.2.2)).Nodup
theorem Vis.snoc {es vis : List (Int × Sec × Nat)} (h : Vis es vis) {e : Int × Sec × Nat} (he : e ∈ es) (hn : e.2.2 ∉ vis.map (·.2.2)) : Vis es (vis ++ [e]) := by
  refine ⟨fun x hx => ?_, ?_⟩
  · rcases List.mem_append.1 hx with h1 | h1
    · exact h.sub x h1
    · simp only [List.mem_singleton] at h1; subst h1; exact he
  · rw [List.map_append, List.nodup_append]
    refine ⟨h.nd, by simp, fun a ha b hb => ?_⟩
    simp only [List.map_cons, List.map_nil, List.mem_singleton] at hb
    subst hb
    exact fun e' => hn (e' ▸ ha)
theorem nodup_of {α β : Type} (f : α → β) {l : List α} (h : (l.map f).Nodup) : l.Nodup := List.Pairwise.of_map f (fun a b h e => h (congrArg f e)) h
theorem Vis.perm {g : GM Sec} (hg : g.wf) {vis : List (Int × Sec × Nat)} (h : Vis g.es vis) (hf : visF g.es vis) : vis.Perm g.es := by
  have n1 : vis.Nodup := nodup_of (·.2.2) h.nd
  have n2 : g.es.Nodup := nodup_of (·.2.2) hg.births
  refine (List.perm_ext_iff_of_nodup n1 n2).2 fun x => ⟨h.sub x, fun hx => ?_⟩
  obtain ⟨e', he', hb⟩ := List.mem_map.1 (hf x hx)
  have h3 := h.sub e' he'
  have : e' = x := by
    obtain ⟨i, hi, hie⟩ := List.mem_iff_getElem.1 h3
    obtain ⟨j, hj, hje⟩ := List.mem_iff_getElem.1 hx
    have : i = j := by
      refine (List.getElem_inj (xs := g.es.map (·.2.2)) (h₀ := by simpa using hi) (h₁ := by simpa using hj) hg.births).1 ?_
      simp only [List.getElem_map, hie, hje]
      exact hb
    subst this
    rw [← hie, ← hje]
  rw [← this]; exact he'

end Dn
namespace Go.Proofs.Ytgendpinmmmfjaa
open Dn
attribute [local irreducible] Evs Ev EvT DSpec PSpec CallTo
set_option maxRecDepth 10000
set_option maxHeartbeats 1000000

theorem k_iter (b1 c : Nat) (g : GM Sec) (hwf : g.wf) :
    IterS Try.prog 78 [] [.pointer (some ⟨b1, 0, none⟩)] [(b1, .cells ⟨[.map (some c)]⟩ 116), (c, g.obj Dn.encS)] [] (visR g.es) (visF g.es) := by
  intro lp J Stop hy L0 h0
  refine spec_of mix Try.func78 c78_eq rfl rfl fun w F Q S hQ => ?_
  (repeat (first|(with_reducible first|refine Ja ?_|refine Jb ?_|refine Jc ?_|refine Jd ?_|refine Je ?_|refine Jf ?_|refine Jg ?_|refine Jh ?_|refine Ji ?_|refine Jj ?_|refine Jk rfl ?_|refine Jl ?_|refine Jm ?_|refine Jn ?_|refine Jo ?_|refine Jp ?_|refine Jq ?_)|refine JA rfl ?_|refine JB rfl ?_|refine JC rfl ?_|refine JD rfl ?_|refine JE rfl ?_|refine JF rfl ?_|refine JG rfl ?_|refine JH rfl ?_|refine JI rfl ?_|refine J2 rfl ?_|refine J3 rfl ?_|refine J4 rfl ?_|refine J1 rfl ?_|refine J6 rfl ?_|refine J7 rfl ?_|refine JJ rfl ?_|refine JK rfl ?_|refine JQ rfl ?_|refine JL rfl rfl ?_|refine JM rfl rfl ?_|refine JN rfl ?_|refine JO rfl ?_|refine JP rfl ?_))
  refine e_ld (v := .map (some c)) (S.cell 0 rfl rfl) ?_
  refine e_range (enc := Dn.encS) S 1 rfl rfl Try.underlying116 fun r w S => ?_
  (repeat (first|(with_reducible first|refine Ja ?_|refine Jb ?_|refine Jc ?_|refine Jd ?_|refine Je ?_|refine Jf ?_|refine Jg ?_|refine Jh ?_|refine Ji ?_|refine Jj ?_|refine Jk rfl ?_|refine Jl ?_|refine Jm ?_|refine Jn ?_|refine Jo ?_|refine Jp ?_|refine Jq ?_)|refine JA rfl ?_|refine JB rfl ?_|refine JC rfl ?_|refine JD rfl ?_|refine JE rfl ?_|refine JF rfl ?_|refine JG rfl ?_|refine JH rfl ?_|refine JI rfl ?_|refine J2 rfl ?_|refine J3 rfl ?_|refine J4 rfl ?_|refine J1 rfl ?_|refine J6 rfl ?_|refine J7 rfl ?_|refine JJ rfl ?_|refine JK rfl ?_|refine JQ rfl ?_|refine JL rfl rfl ?_|refine JM rfl rfl ?_|refine JN rfl ?_|refine JO rfl ?_|refine JP rfl ?_))
  refine s_loop (σ := List (Int × Sec × Nat)) (fun _ => [(0, .func (.yield lp) #[] #[]), (5, .pointer (some ⟨r, 0, none⟩))])
    (fun vis w => vis.length + (g.es.filter fun x => !(vis.map (·.2.2)).contains x.2.2).length ≤ g.es.length ∧ ∃ L, J vis L ∧ Dn.Sep w ([(r, itO c g (vis.map (·.2.2))), (b1, .cells ⟨[.map (some c)]⟩ 116), (c, g.obj Dn.encS)] ++ L) F)
    (fun vis => (g.es.filter fun x => !(vis.map (·.2.2)).contains x.2.2).length) [] ⟨rfl, rfl, trivial⟩ rfl ⟨by simp [List.length_filter_le], L0, h0, S⟩ ?_
  rintro gg vis w ⟨hcnt, L, hJ, S⟩
  simp only [setL]
  (repeat (first|(with_reducible first|refine Ja ?_|refine Jb ?_|refine Jc ?_|refine Jd ?_|refine Je ?_|refine Jf ?_|refine Jg ?_|refine Jh ?_|refine Ji ?_|refine Jj ?_|refine Jk rfl ?_|refine Jl ?_|refine Jm ?_|refine Jn ?_|refine Jo ?_|refine Jp ?_|refine Jq ?_)|refine JA rfl ?_|refine JB rfl ?_|refine JC rfl ?_|refine JD rfl ?_|refine JE rfl ?_|refine JF rfl ?_|refine JG rfl ?_|refine JH rfl ?_|refine JI rfl ?_|refine J2 rfl ?_|refine J3 rfl ?_|refine J4 rfl ?_|refine J1 rfl ?_|refine J6 rfl ?_|refine J7 rfl ?_|refine JJ rfl ?_|refine JK rfl ?_|refine JQ rfl ?_|refine JL rfl rfl ?_|refine JM rfl rfl ?_|refine JN rfl ?_|refine JO rfl ?_|refine JP rfl ?_))
  refine e_next S 0 2 rfl rfl rfl hwf.lt (fun hall w S => ?_) (fun e he hne w S => ?_)
  · (repeat (first|(with_reducible first|refine Ja ?_|refine Jb ?_|refine Jc ?_|refine Jd ?_|refine Je ?_|refine Jf ?_|refine Jg ?_|refine Jh ?_|refine Ji ?_|refine Jj ?_|refine Jk rfl ?_|refine Jl ?_|refine Jm ?_|refine Jn ?_|refine Jo ?_|refine Jp ?_|refine Jq ?_)|refine JA rfl ?_|refine JB rfl ?_|refine JC rfl ?_|refine JD rfl ?_|refine JE rfl ?_|refine JF rfl ?_|refine JG rfl ?_|refine JH rfl ?_|refine JI rfl ?_|refine J2 rfl ?_|refine J3 rfl ?_|refine J4 rfl ?_|refine J1 rfl ?_|refine J6 rfl ?_|refine J7 rfl ?_|refine JJ rfl ?_|refine JK rfl ?_|refine JQ rfl ?_|refine JL rfl rfl ?_|refine JM rfl rfl ?_|refine JN rfl ?_|refine JO rfl ?_|refine JP rfl ?_))
    exact f_end rfl rfl (hQ _ _ _ ⟨L, rfl, .inl ⟨vis, hall, hJ⟩⟩ (Sep.drop (L2 := [_]) S))
  have hlt := left_lt he hne
  (repeat (first|(with_reducible first|refine Ja ?_|refine Jb ?_|refine Jc ?_|refine Jd ?_|refine Je ?_|refine Jf ?_|refine Jg ?_|refine Jh ?_|refine Ji ?_|refine Jj ?_|refine Jk rfl ?_|refine Jl ?_|refine Jm ?_|refine Jn ?_|refine Jo ?_|refine Jp ?_|refine Jq ?_)|refine JA rfl ?_|refine JB rfl ?_|refine JC rfl ?_|refine JD rfl ?_|refine JE rfl ?_|refine JF rfl ?_|refine JG rfl ?_|refine JH rfl ?_|refine JI rfl ?_|refine J2 rfl ?_|refine J3 rfl ?_|refine J4 rfl ?_|refine J1 rfl ?_|refine J6 rfl ?_|refine J7 rfl ?_|refine JJ rfl ?_|refine JK rfl ?_|refine JQ rfl ?_|refine JL rfl rfl ?_|refine JM rfl rfl ?_|refine JN rfl ?_|refine JO rfl ?_|refine JP rfl ?_))
  refine e_entry (e := e) S 0 2 rfl rfl rfl hwf.births he ?_
  refine e_p (v := .int .i64 e.1) rfl ?_
  (repeat (first|(with_reducible first|refine Ja ?_|refine Jb ?_|refine Jc ?_|refine Jd ?_|refine Je ?_|refine Jf ?_|refine Jg ?_|refine Jh ?_|refine Ji ?_|refine Jj ?_|refine Jk rfl ?_|refine Jl ?_|refine Jm ?_|refine Jn ?_|refine Jo ?_|refine Jp ?_|refine Jq ?_)|refine JA rfl ?_|refine JB rfl ?_|refine JC rfl ?_|refine JD rfl ?_|refine JE rfl ?_|refine JF rfl ?_|refine JG rfl ?_|refine JH rfl ?_|refine JI rfl ?_|refine J2 rfl ?_|refine J3 rfl ?_|refine J4 rfl ?_|refine J1 rfl ?_|refine J6 rfl ?_|refine J7 rfl ?_|refine JJ rfl ?_|refine JK rfl ?_|refine JQ rfl ?_|refine JL rfl rfl ?_|refine JM rfl rfl ?_|refine JN rfl ?_|refine JO rfl ?_|refine JP rfl ?_))
  refine e_cy (L2 := [_, _, _]) (vs := [.int .i64 e.1]) rfl rfl (hy vis [.int .i64 e.1] (vis ++ [e]) ⟨e, he, hne, rfl, rfl, by omega⟩ L hJ) S ?_
  rintro v L' w hv S
  rcases hv with ⟨rfl, hJ'⟩ | ⟨rfl, hst⟩
  · (repeat (first|(with_reducible first|refine Ja ?_|refine Jb ?_|refine Jc ?_|refine Jd ?_|refine Je ?_|refine Jf ?_|refine Jg ?_|refine Jh ?_|refine Ji ?_|refine Jj ?_|refine Jk rfl ?_|refine Jl ?_|refine Jm ?_|refine Jn ?_|refine Jo ?_|refine Jp ?_|refine Jq ?_)|refine JA rfl ?_|refine JB rfl ?_|refine JC rfl ?_|refine JD rfl ?_|refine JE rfl ?_|refine JF rfl ?_|refine JG rfl ?_|refine JH rfl ?_|refine JI rfl ?_|refine J2 rfl ?_|refine J3 rfl ?_|refine J4 rfl ?_|refine J1 rfl ?_|refine J6 rfl ?_|refine J7 rfl ?_|refine JJ rfl ?_|refine JK rfl ?_|refine JQ rfl ?_|refine JL rfl rfl ?_|refine JM rfl rfl ?_|refine JN rfl ?_|refine JO rfl ?_|refine JP rfl ?_))
    refine ⟨rfl, vis ++ [e], ⟨rfl, rfl, trivial⟩, ⟨?_, L', hJ', ?_⟩, ?_⟩
    · rw [List.map_append, List.length_append]
      simp only [List.map_cons, List.map_nil, List.length_singleton]
      omega
    · rw [List.map_append]; exact S
    · rw [List.map_append]; exact hlt
  · (repeat (first|(with_reducible first|refine Ja ?_|refine Jb ?_|refine Jc ?_|refine Jd ?_|refine Je ?_|refine Jf ?_|refine Jg ?_|refine Jh ?_|refine Ji ?_|refine Jj ?_|refine Jk rfl ?_|refine Jl ?_|refine Jm ?_|refine Jn ?_|refine Jo ?_|refine Jp ?_|refine Jq ?_)|refine JA rfl ?_|refine JB rfl ?_|refine JC rfl ?_|refine JD rfl ?_|refine JE rfl ?_|refine JF rfl ?_|refine JG rfl ?_|refine JH rfl ?_|refine JI rfl ?_|refine J2 rfl ?_|refine J3 rfl ?_|refine J4 rfl ?_|refine J1 rfl ?_|refine J6 rfl ?_|refine J7 rfl ?_|refine JJ rfl ?_|refine JK rfl ?_|refine JQ rfl ?_|refine JL rfl rfl ?_|refine JM rfl rfl ?_|refine JN rfl ?_|refine JO rfl ?_|refine JP rfl ?_))
    exact f_ret rfl rfl (hQ _ _ _ ⟨L', rfl, .inr hst⟩ (Sep.drop (L2 := [_]) S))

abbrev OwnI (ad : Option Addr) (n cap : Nat) (l : List Int) (Lb : List (Nat × Obj)) : Prop := OwnS 3 1 ad n cap (l.map (Value.int .i64)) Lb

theorem k_appseq (b1 c : Nat) (g : GM Sec) (hwf : g.wf) (hb : g.es.length ≤ 1000000) :
    DSpec Try.prog 82 [.slice none 0 0, .func (.func 78) #[] #[.pointer (some ⟨b1, 0, none⟩)]] [(b1, .cells ⟨[.map (some c)]⟩ 116), (c, g.obj Dn.encS)]
      fun v L => ∃ (vis : List (Int × Sec × Nat)) (ad : Option Addr) (cap : Nat) (Lb : List (Nat × Obj)), vis.Perm g.es ∧ v = .slice ad vis.length cap ∧ L = [(b1, .cells ⟨[.map (some c)]⟩ 116), (c, g.obj Dn.encS)] ++ Lb ∧ OwnI ad vis.length cap (vis.map (·.1)) Lb := by
  refine spec_of mix Try.func82 c82_eq rfl rfl fun w F Q S hQ => ?_
  (repeat (first|(with_reducible first|refine Ja ?_|refine Jb ?_|refine Jc ?_|refine Jd ?_|refine Je ?_|refine Jf ?_|refine Jg ?_|refine Jh ?_|refine Ji ?_|refine Jj ?_|refine Jk rfl ?_|refine Jl ?_|refine Jm ?_|refine Jn ?_|refine Jo ?_|refine Jp ?_|refine Jq ?_)|refine JA rfl ?_|refine JB rfl ?_|refine JC rfl ?_|refine JD rfl ?_|refine JE rfl ?_|refine JF rfl ?_|refine JG rfl ?_|refine JH rfl ?_|refine JI rfl ?_|refine J2 rfl ?_|refine J3 rfl ?_|refine J4 rfl ?_|refine J1 rfl ?_|refine J6 rfl ?_|refine J7 rfl ?_|refine JJ rfl ?_|refine JK rfl ?_|refine JQ rfl ?_|refine JL rfl rfl ?_|refine JM rfl rfl ?_|refine JN rfl ?_|refine JO rfl ?_|refine JP rfl ?_))
  refine e_bx S rfl fun b2 w S => ?_
  (repeat (first|(with_reducible first|refine Ja ?_|refine Jb ?_|refine Jc ?_|refine Jd ?_|refine Je ?_|refine Jf ?_|refine Jg ?_|refine Jh ?_|refine Ji ?_|refine Jj ?_|refine Jk rfl ?_|refine Jl ?_|refine Jm ?_|refine Jn ?_|refine Jo ?_|refine Jp ?_|refine Jq ?_)|refine JA rfl ?_|refine JB rfl ?_|refine JC rfl ?_|refine JD rfl ?_|refine JE rfl ?_|refine JF rfl ?_|refine JG rfl ?_|refine JH rfl ?_|refine JI rfl ?_|refine J2 rfl ?_|refine J3 rfl ?_|refine J4 rfl ?_|refine J1 rfl ?_|refine J6 rfl ?_|refine J7 rfl ?_|refine JJ rfl ?_|refine JK rfl ?_|refine JQ rfl ?_|refine JL rfl rfl ?_|refine JM rfl rfl ?_|refine JN rfl ?_|refine JO rfl ?_|refine JP rfl ?_))
  refine s_rfS (s0 := []) (R := visR g.es) (fin := visF g.es) mix rfl (by kernel_rfl) rfl rfl (fun s a s' ⟨e, he, hn, ha, _⟩ => by rw [ha]; rfl) (by kernel_rfl) (by kernel_rfl) (k_iter b1 c g hwf) (L0 := [(b2, .cells ⟨[.slice none 0 0]⟩ 49)]) S
    (fun vis L => Vis g.es vis ∧ ∃ ad cap Lb, L = (b2, .cells ⟨[.slice ad vis.length cap]⟩ 49) :: Lb ∧ OwnI ad vis.length cap (vis.map (·.1)) Lb) (fun _ _ => False) ⟨⟨by simp, by simp⟩, none, 0, [], rfl, OwnS.nil⟩ ?_ ?_ ?_
  · rintro vis a vis' ⟨e, he, hn, rfl, rfl, hlt⟩ w
    (repeat (with_reducible first|refine Ja ?_|refine Jb ?_|refine Jc ?_|refine Jd ?_|refine Je ?_|refine Jf ?_|refine Jg ?_|refine Jh ?_|refine Ji ?_|refine Jj ?_|refine Jk rfl ?_|refine Jl ?_|refine Jm ?_|refine Jn ?_|refine Jo ?_|refine Jp ?_|refine Jq ?_))
    refine e_mvI (n := e.1) rfl ?_
    (repeat (with_reducible first|refine Ja ?_|refine Jb ?_|refine Jc ?_|refine Jd ?_|refine Je ?_|refine Jf ?_|refine Jg ?_|refine Jh ?_|refine Ji ?_|refine Jj ?_|refine Jk rfl ?_|refine Jl ?_|refine Jm ?_|refine Jn ?_|refine Jo ?_|refine Jp ?_|refine Jq ?_))
    refine ⟨rfl, rfl, ?_⟩
    rintro w F lp o _ Q ⟨hvis, ad, cap, Lb, rfl, hO⟩ S hn' hx
    (repeat (first|(with_reducible first|refine Ja ?_|refine Jb ?_|refine Jc ?_|refine Jd ?_|refine Je ?_|refine Jf ?_|refine Jg ?_|refine Jh ?_|refine Ji ?_|refine Jj ?_|refine Jk rfl ?_|refine Jl ?_|refine Jm ?_|refine Jn ?_|refine Jo ?_|refine Jp ?_|refine Jq ?_)|refine JA rfl ?_|refine JB rfl ?_|refine JC rfl ?_|refine JD rfl ?_|refine JE rfl ?_|refine JF rfl ?_|refine JG rfl ?_|refine JH rfl ?_|refine JI rfl ?_|refine J2 rfl ?_|refine J3 rfl ?_|refine J4 rfl ?_|refine J1 rfl ?_|refine J6 rfl ?_|refine J7 rfl ?_|refine JJ rfl ?_|refine JK rfl ?_|refine JQ rfl ?_|refine JL rfl rfl ?_|refine JM rfl rfl ?_|refine JN rfl ?_|refine JO rfl ?_|refine JP rfl ?_))
    refine e_ld (v := .slice ad vis.length cap) (S.cell 1 rfl rfl) ?_
    refine e_mvI (n := e.1) rfl ?_
    refine e_bsl (size := 1) (xs := [.int .i64 e.1]) S Try.underlying49 rfl rfl ⟨_, rfl⟩ (by omega) (by omega) (fun zs hz => (match zs, hz with | [u], _ => rfl)) fun bs w S => ?_
    replace S : Dn.Sep w ([(bs, .cells ⟨[.int .i64 e.1]⟩ 3), (lp, o), (b2, .cells ⟨[.slice ad vis.length cap]⟩ 49)] ++ Lb) F := S.perm List.perm_append_comm
    refine e_app (size := 1) (k := 1) (ys := [.int .i64 e.1]) (z := .int .i64 0) S hO rfl (src_row Try.underlying49 (rowOf_at S (ty := 3) (fr := (0, 0)) (cs := [.int .i64 e.1]) (by simp) (by simp) rfl) (by simp [Value.flat])) Try.underlying49 rfl rfl rfl rfl (by show (vis.length + 1) * 8 ≤ _; omega) (by omega) fun ad' cap' Lb' w hO' S => ?_
    refine e_st (vs := [.slice ad' (vis.length + 1) cap']) S 2 rfl rfl rfl rfl (by simp [Value.flat]) (by simp) fun w S => ?_
    (repeat (first|(with_reducible first|refine Ja ?_|refine Jb ?_|refine Jc ?_|refine Jd ?_|refine Je ?_|refine Jf ?_|refine Jg ?_|refine Jh ?_|refine Ji ?_|refine Jj ?_|refine Jk rfl ?_|refine Jl ?_|refine Jm ?_|refine Jn ?_|refine Jo ?_|refine Jp ?_|refine Jq ?_)|refine JA rfl ?_|refine JB rfl ?_|refine JC rfl ?_|refine JD rfl ?_|refine JE rfl ?_|refine JF rfl ?_|refine JG rfl ?_|refine JH rfl ?_|refine JI rfl ?_|refine J2 rfl ?_|refine J3 rfl ?_|refine J4 rfl ?_|refine J1 rfl ?_|refine J6 rfl ?_|refine J7 rfl ?_|refine JJ rfl ?_|refine JK rfl ?_|refine JQ rfl ?_|refine JL rfl rfl ?_|refine JM rfl rfl ?_|refine JN rfl ?_|refine JO rfl ?_|refine JP rfl ?_))
    refine hn' w ((b2, .cells ⟨[.slice ad' (vis.length + 1) cap']⟩ 49) :: Lb') ⟨hvis.snoc he hn, ad', cap', Lb', ?_, ?_⟩ (Sep.drop (L2 := [_]) S)
    · rw [List.length_append]; rfl
    · rw [List.length_append, OwnI, List.map_append, List.map_append]; exact hO'
  · rintro w lp D o vis L' hfin ⟨hvis, ad, cap, Lb, rfl, hO⟩ S
    (repeat (first|(with_reducible first|refine Ja ?_|refine Jb ?_|refine Jc ?_|refine Jd ?_|refine Je ?_|refine Jf ?_|refine Jg ?_|refine Jh ?_|refine Ji ?_|refine Jj ?_|refine Jk rfl ?_|refine Jl ?_|refine Jm ?_|refine Jn ?_|refine Jo ?_|refine Jp ?_|refine Jq ?_)|refine JA rfl ?_|refine JB rfl ?_|refine JC rfl ?_|refine JD rfl ?_|refine JE rfl ?_|refine JF rfl ?_|refine JG rfl ?_|refine JH rfl ?_|refine JI rfl ?_|refine J2 rfl ?_|refine J3 rfl ?_|refine J4 rfl ?_|refine J1 rfl ?_|refine J6 rfl ?_|refine J7 rfl ?_|refine JJ rfl ?_|refine JK rfl ?_|refine JQ rfl ?_|refine JL rfl rfl ?_|refine JM rfl rfl ?_|refine JN rfl ?_|refine JO rfl ?_|refine JP rfl ?_))
    refine e_ld (v := .slice ad vis.length cap) (S.cell 4 rfl rfl) ?_
    (repeat (first|(with_reducible first|refine Ja ?_|refine Jb ?_|refine Jc ?_|refine Jd ?_|refine Je ?_|refine Jf ?_|refine Jg ?_|refine Jh ?_|refine Ji ?_|refine Jj ?_|refine Jk rfl ?_|refine Jl ?_|refine Jm ?_|refine Jn ?_|refine Jo ?_|refine Jp ?_|refine Jq ?_)|refine JA rfl ?_|refine JB rfl ?_|refine JC rfl ?_|refine JD rfl ?_|refine JE rfl ?_|refine JF rfl ?_|refine JG rfl ?_|refine JH rfl ?_|refine JI rfl ?_|refine J2 rfl ?_|refine J3 rfl ?_|refine J4 rfl ?_|refine J1 rfl ?_|refine J6 rfl ?_|refine J7 rfl ?_|refine JJ rfl ?_|refine JK rfl ?_|refine JQ rfl ?_|refine JL rfl rfl ?_|refine JM rfl rfl ?_|refine JN rfl ?_|refine JO rfl ?_|refine JP rfl ?_))
    refine f_retD rfl S 1 rfl fun w' S => ?_
    refine ⟨[.slice ad vis.length cap], rvs1 rfl, hQ _ _ _ ⟨vis, ad, cap, Lb, hvis.perm hwf hfin, rfl, rfl, hO⟩ ?_⟩
    have S9 : Dn.Sep w' ((lp, o) :: (D, .deferred none) :: (b1, .cells ⟨[.map (some c)]⟩ 116) :: (c, g.obj Dn.encS) :: (b2, .cells ⟨[.slice ad vis.length cap]⟩ 49) :: Lb) F := S
    exact Sep.drop (L2 := [_]) ((Sep.drop (L2 := [_, _]) S9).perm ((List.Perm.cons _ (List.Perm.swap _ _ _)).trans (List.Perm.swap _ _ _)))
  · intro e w lp D o L' _ h _
    exact h.elim

end Go.Proofs.Ytgendpinmmmfjaa

/-
  The library's sort of ints, as this seat's program bears it.
-/
namespace Go.Proofs.Ytgendpinmmmfjaa
open Go.Shelf
set_option maxRecDepth 100000
def srtR : Ren := ⟨fun x => bif Nat.beq x 125 then 84 else bif Nat.beq x 128 then 94 else bif Nat.beq x 129 then 95 else bif Nat.beq x 189 then 77 else bif Nat.beq x 215 then 72 else bif Nat.beq x 216 then 91 else bif Nat.beq x 257 then 83 else bif Nat.beq x 294 then 85 else bif Nat.beq x 295 then 86 else bif Nat.beq x 296 then 87 else bif Nat.beq x 297 then 88 else bif Nat.beq x 298 then 89 else bif Nat.beq x 299 then 90 else bif Nat.beq x 300 then 92 else bif Nat.beq x 301 then 93 else bif Nat.beq x 328 then 96 else bif Nat.beq x 329 then 97 else bif Nat.beq x 330 then 98 else bif Nat.beq x 331 then 99 else bif Nat.beq x 332 then 100 else bif Nat.beq x 343 then 101 else 0, fun x => bif Nat.beq x 0 then 0 else bif Nat.beq x 3 then 3 else bif Nat.beq x 4 then 4 else bif Nat.beq x 5 then 5 else bif Nat.beq x 9 then 9 else bif Nat.beq x 28 then 49 else bif Nat.beq x 46 then 133 else bif Nat.beq x 51 then 108 else bif Nat.beq x 53 then 135 else bif Nat.beq x 131 then 137 else bif Nat.beq x 182 then 145 else bif Nat.beq x 183 then 146 else bif Nat.beq x 218 then 154 else bif Nat.beq x 222 then 158 else bif Nat.beq x 228 then 160 else bif Nat.beq x 229 then 161 else 0, fun x => x⟩
theorem srtLays : Lays.n189 Try.prog srtR where
  mixed := by kernel_rfl
  f125 := by kernel_rfl
  f128 := by kernel_rfl
  f129 := by kernel_rfl
  f189 := by kernel_rfl
  f215 := by kernel_rfl
  f216 := by kernel_rfl
  f257 := by kernel_rfl
  f294 := by kernel_rfl
  f295 := by kernel_rfl
  f296 := by kernel_rfl
  f297 := by kernel_rfl
  f298 := by kernel_rfl
  f299 := by kernel_rfl
  f300 := by kernel_rfl
  f301 := by kernel_rfl
  f328 := by kernel_rfl
  f329 := by kernel_rfl
  f330 := by kernel_rfl
  f331 := by kernel_rfl
  f332 := by kernel_rfl
  f343 := by kernel_rfl
  t0 := by kernel_rfl
  a0 := fun w => by kernel_rfl
  z0 := fun w => by kernel_rfl
  v0 := fun w => by kernel_rfl
  t3 := by kernel_rfl
  a3 := fun w => by kernel_rfl
  z3 := fun w => by kernel_rfl
  v3 := fun w => by kernel_rfl
  t4 := by kernel_rfl
  a4 := fun w => by kernel_rfl
  z4 := fun w => by kernel_rfl
  v4 := fun w => by kernel_rfl
  t5 := by kernel_rfl
  a5 := fun w => by kernel_rfl
  z5 := fun w => by kernel_rfl
  v5 := fun w => by kernel_rfl
  t9 := by kernel_rfl
  a9 := fun w => by kernel_rfl
  z9 := fun w => by kernel_rfl
  v9 := fun w => by kernel_rfl
  t28 := by kernel_rfl
  a28 := fun w => by kernel_rfl
  z28 := fun w => by kernel_rfl
  v28 := fun w => by kernel_rfl
  t46 := by kernel_rfl
  a46 := fun w => by kernel_rfl
  z46 := fun w => by kernel_rfl
  v46 := fun w => by kernel_rfl
  t51 := by kernel_rfl
  a51 := fun w => by kernel_rfl
  z51 := fun w => by kernel_rfl
  v51 := fun w => by kernel_rfl
  t53 := by kernel_rfl
  a53 := fun w => by kernel_rfl
  z53 := fun w => by kernel_rfl
  v53 := fun w => by kernel_rfl
  t131 := by kernel_rfl
  a131 := fun w => by kernel_rfl
  z131 := fun w => by kernel_rfl
  v131 := fun w => by kernel_rfl
  t182 := by kernel_rfl
  a182 := fun w => by kernel_rfl
  z182 := fun w => by kernel_rfl
  v182 := fun w => by kernel_rfl
  t183 := by kernel_rfl
  a183 := fun w => by kernel_rfl
  z183 := fun w => by kernel_rfl
  v183 := fun w => by kernel_rfl
  t218 := by kernel_rfl
  a218 := fun w => by kernel_rfl
  z218 := fun w => by kernel_rfl
  v218 := fun w => by kernel_rfl
  t222 := by kernel_rfl
  a222 := fun w => by kernel_rfl
  z222 := fun w => by kernel_rfl
  v222 := fun w => by kernel_rfl
  t228 := by kernel_rfl
  a228 := fun w => by kernel_rfl
  z228 := fun w => by kernel_rfl
  v228 := fun w => by kernel_rfl
  t229 := by kernel_rfl
  a229 := fun w => by kernel_rfl
  z229 := fun w => by kernel_rfl
  v229 := fun w => by kernel_rfl
end Go.Proofs.Ytgendpinmmmfjaa

/-
  The walks of slices.Sorted over a disk's cache: Pending.
-/
namespace Dn
open Go Go.Sort

def leI (x y : Int) : Bool := decide (x ≤ y)
def sortI (l : List Int) : List Int := l.mergeSort leI
theorem sortI_perm {l l' : List Int} (h : l.Perm l') : sortI l = sortI l' := by
  have tr : ∀ a b c : Int, leI a b = true → leI b c = true → leI a c = true := fun a b c h1 h2 => by simp only [leI, decide_eq_true_eq] at *; omega
  have to : ∀ a b : Int, (leI a b || leI b a) = true := fun a b => by simp only [leI, Bool.or_eq_true, decide_eq_true_eq]; omega
  refine List.Perm.eq_of_pairwise (le := fun a b => leI a b = true) (fun a b _ _ h1 h2 => ?_) (List.pairwise_mergeSort tr to l) (List.pairwise_mergeSort tr to l') (((List.mergeSort_perm l leI).trans h).trans (List.mergeSort_perm l' leI).symm)
  simp only [leI, decide_eq_true_eq] at h1 h2
  omega
/-- the numbers of the pending sectors -/
def Dk.pend (D : Dk) : List Int := sortI (D.cache.es.map (·.1))

theorem sorted_sep {w : World} {b : Nat} {cur : List Value} {e : TypeId} {fr : Nat × Nat} {F : Fr} (S : Dn.Sep w [(b, .cells ⟨cur⟩ e fr)] F) (d : Array Int) (n : Nat) (os : Array Obj) :
    Dn.Sep (grow (putRow (Value.int .i64) (Sort.ahead w n) b 0 d) os) [(b, .cells (putCells (Value.int .i64) 0 d ⟨cur⟩) e fr)] F := by
  have hb := S.at_ b _ (List.mem_singleton.2 rfl)
  have hother : ∀ k o, k ≠ b → w.heap[k]? = some o → (grow (putRow (Value.int .i64) (Sort.ahead w n) b 0 d) os).heap[k]? = some o := by
    intro k o hk ho
    have hlt : k < w.heap.size := (Array.getElem?_eq_some_iff.1 ho).1
    rw [heap_grow_old _ _ (by simpa using hlt)]
    simp only [putRow, mapBlock, Sort.ahead, Array.getElem?_modify, if_neg (fun e : b = k => hk e.symm)]
    exact ho
  refine ⟨S.os, S.tape, S.out, by simp, fun k o hm => ?_, fun k o hf => ?_, fun k o hm => ?_⟩
  · simp only [List.mem_singleton, Prod.mk.injEq] at hm
    obtain ⟨rfl, rfl⟩ := hm
    exact heap_sortedI d hb
  · refine hother k o (fun e' => ?_) (S.fr k o hf)
    subst e'
    have := S.ap _ _ (List.mem_singleton.2 rfl)
    rw [this] at hf; simp at hf
  · simp only [List.mem_singleton, Prod.mk.injEq] at hm
    obtain ⟨rfl, rfl⟩ := hm
    exact S.ap _ _ (List.mem_singleton.2 rfl)

theorem put_row (l ts : List Int) (sp : List Value) (h : ts.length = l.length) : putCells (Value.int .i64) 0 ts.toArray ⟨l.map (Value.int .i64) ++ sp⟩ = ⟨ts.map (Value.int .i64) ++ sp⟩ := by
  apply Array.ext'
  apply List.ext_getElem?
  intro i
  simp only [putCells, Array.toList_mapIdx, List.getElem?_mapIdx]
  rcases Nat.lt_or_ge i l.length with hi | hi
  · rw [List.getElem?_append_left (by simpa using hi), List.getElem?_append_left (by simp; omega)]
    have hi' : i < ts.length := by omega
    simp [hi, hi']
  · rw [List.getElem?_append_right (by simpa using hi), List.getElem?_append_right (by simp; omega)]
    simp only [List.length_map, h]
    cases sp[i - l.length]? with
    | none => rfl
    | some v =>
      have : ¬ (i < ts.length) := by omega
      simp [this]

end Dn
namespace Go.Proofs.Ytgendpinmmmfjaa
open Dn
attribute [local irreducible] Evs Ev EvT DSpec PSpec CallTo
set_option maxRecDepth 10000
set_option maxHeartbeats 1000000

theorem k_sort (ad : Option Addr) (n cap : Nat) (l : List Int) (Lb : List (Nat × Obj)) (hO : OwnI ad n cap l Lb) (hn : n ≤ 1000000) :
    DSpec Try.prog 77 [.slice ad n cap] Lb fun _ L => OwnI ad n cap (sortI l) L := by
  have hl : l.length = n := by have := OwnS.len hO; simpa using this
  have hts : (sortI l).length = l.length := (List.mergeSort_perm l leI).length_eq
  unfold DSpec
  intro w F S
  unfold CallTo
  rcases OwnS.own hO with ⟨rfl, rfl, rfl⟩ | ⟨b, sp, lo, hi, rfl, hsp, hfr, rfl⟩
  · have h0 : n = 0 := by have := OwnS.le hO; omega
    subst h0
    have hnil : l = [] := List.eq_nil_of_length_eq_zero hl
    subst hnil
    refine Calls.mono (Any.slices_Sort_int_none srtLays none 0 w) ?_
    rintro e w' ⟨rfl, rfl⟩
    have hz : sortI [] = [] := by simp [sortI]
    exact ⟨_, rfl, [], by show OwnI none 0 0 (sortI []) []; rw [hz]; exact OwnS.nil, S⟩
  · subst hl
    have hb := S.at_ b _ (List.mem_singleton.2 rfl)
    have hH : Go.Sort.Holds (Value.int .i64) w b 0 l.toArray := by
      intro j hj
      have hj' : j < l.length := by simpa using hj
      have hcap := OwnS.le hO
      refine ⟨?_, ?_⟩
      · simp only [World.cell?, hb, Nat.zero_add]
        simp [hj']
        rw [List.getElem?_append_left (by simpa using hj')]
        simp [hj']
      · simp only [World.frozen?, hb, Nat.zero_add]
        simp only [Nat.mul_one] at hfr
        simp
        omega
    refine Calls.mono (Any.slices_Sort_int srtLays b 0 cap l w hH (Array.getElem?_eq_some_iff.1 hb).1 (by omega)) ?_
    rintro e w' ⟨rfl, q, os, rfl⟩
    have S' := sorted_sep S (sortI l).toArray q os
    rw [put_row l (sortI l) sp hts] at S'
    refine ⟨_, rfl, _, ⟨by simp [hts], OwnS.le hO, .inr ⟨b, sp, lo, hi, rfl, hsp, hfr, rfl⟩⟩, S'⟩

theorem dk_pending (D : Dk) (hwf : D.wf) (hb : D.cache.es.length ≤ 1000000) : DSpec Try.prog 45 [D.v] D.L
    fun v L => ∃ ad cap Lb, v = .slice ad D.cache.es.length cap ∧ L = D.L ++ Lb ∧ OwnI ad D.cache.es.length cap D.pend Lb := by
  -- Keys
  have hkeys : ∀ (w : World) (F : Fr) (L : List (Nat × Obj)), True := fun _ _ _ => trivial
  have k_keys : DSpec Try.prog 67 [.map (some D.c)] [] fun v L => ∃ b1, v = .func (.func 78) #[] #[.pointer (some ⟨b1, 0, none⟩)] ∧ L = [(b1, .cells ⟨[.map (some D.c)]⟩ 116)] := by
    refine spec_of mix Try.func67 c67_eq rfl rfl fun w F Q S hQ => ?_
    (repeat (first|(with_reducible first|refine Ja ?_|refine Jb ?_|refine Jc ?_|refine Jd ?_|refine Je ?_|refine Jf ?_|refine Jg ?_|refine Jh ?_|refine Ji ?_|refine Jj ?_|refine Jk rfl ?_|refine Jl ?_|refine Jm ?_|refine Jn ?_|refine Jo ?_|refine Jp ?_|refine Jq ?_)|refine JA rfl ?_|refine JB rfl ?_|refine JC rfl ?_|refine JD rfl ?_|refine JE rfl ?_|refine JF rfl ?_|refine JG rfl ?_|refine JH rfl ?_|refine JI rfl ?_|refine J2 rfl ?_|refine J3 rfl ?_|refine J4 rfl ?_|refine J1 rfl ?_|refine J6 rfl ?_|refine J7 rfl ?_|refine JJ rfl ?_|refine JK rfl ?_|refine JQ rfl ?_|refine JL rfl rfl ?_|refine JM rfl rfl ?_|refine JN rfl ?_|refine JO rfl ?_|refine JP rfl ?_))
    refine e_bx S rfl fun b1 w S => ?_
    (repeat (first|(with_reducible first|refine Ja ?_|refine Jb ?_|refine Jc ?_|refine Jd ?_|refine Je ?_|refine Jf ?_|refine Jg ?_|refine Jh ?_|refine Ji ?_|refine Jj ?_|refine Jk rfl ?_|refine Jl ?_|refine Jm ?_|refine Jn ?_|refine Jo ?_|refine Jp ?_|refine Jq ?_)|refine JA rfl ?_|refine JB rfl ?_|refine JC rfl ?_|refine JD rfl ?_|refine JE rfl ?_|refine JF rfl ?_|refine JG rfl ?_|refine JH rfl ?_|refine JI rfl ?_|refine J2 rfl ?_|refine J3 rfl ?_|refine J4 rfl ?_|refine J1 rfl ?_|refine J6 rfl ?_|refine J7 rfl ?_|refine JJ rfl ?_|refine JK rfl ?_|refine JQ rfl ?_|refine JL rfl rfl ?_|refine JM rfl rfl ?_|refine JN rfl ?_|refine JO rfl ?_|refine JP rfl ?_))
    exact f_ret rfl rfl (hQ _ _ _ ⟨b1, rfl, rfl⟩ S)
  -- Collect
  have k_coll : ∀ b1, DSpec Try.prog 76 [.func (.func 78) #[] #[.pointer (some ⟨b1, 0, none⟩)]] [(b1, .cells ⟨[.map (some D.c)]⟩ 116), (D.c, D.cache.obj Dn.encS)]
      fun v L => ∃ (vis : List (Int × Sec × Nat)) (ad : Option Addr) (cap : Nat) (Lb : List (Nat × Obj)), vis.Perm D.cache.es ∧ v = .slice ad vis.length cap ∧ L = [(b1, .cells ⟨[.map (some D.c)]⟩ 116), (D.c, D.cache.obj Dn.encS)] ++ Lb ∧ OwnI ad vis.length cap (vis.map (·.1)) Lb := by
    intro b1
    refine spec_of mix Try.func76 c76_eq rfl rfl fun w F Q S hQ => ?_
    (repeat (first|(with_reducible first|refine Ja ?_|refine Jb ?_|refine Jc ?_|refine Jd ?_|refine Je ?_|refine Jf ?_|refine Jg ?_|refine Jh ?_|refine Ji ?_|refine Jj ?_|refine Jk rfl ?_|refine Jl ?_|refine Jm ?_|refine Jn ?_|refine Jo ?_|refine Jp ?_|refine Jq ?_)|refine JA rfl ?_|refine JB rfl ?_|refine JC rfl ?_|refine JD rfl ?_|refine JE rfl ?_|refine JF rfl ?_|refine JG rfl ?_|refine JH rfl ?_|refine JI rfl ?_|refine J2 rfl ?_|refine J3 rfl ?_|refine J4 rfl ?_|refine J1 rfl ?_|refine J6 rfl ?_|refine J7 rfl ?_|refine JJ rfl ?_|refine JK rfl ?_|refine JQ rfl ?_|refine JL rfl rfl ?_|refine JM rfl rfl ?_|refine JN rfl ?_|refine JO rfl ?_|refine JP rfl ?_))
    refine e_call (L2 := []) rfl (k_appseq b1 D.c D.cache hwf.cache hb) S ?_
    rintro _ _ w ⟨vis, ad, cap, Lb, hp, rfl, rfl, hO⟩ S
    refine e_mvL rfl ?_
    (repeat (first|(with_reducible first|refine Ja ?_|refine Jb ?_|refine Jc ?_|refine Jd ?_|refine Je ?_|refine Jf ?_|refine Jg ?_|refine Jh ?_|refine Ji ?_|refine Jj ?_|refine Jk rfl ?_|refine Jl ?_|refine Jm ?_|refine Jn ?_|refine Jo ?_|refine Jp ?_|refine Jq ?_)|refine JA rfl ?_|refine JB rfl ?_|refine JC rfl ?_|refine JD rfl ?_|refine JE rfl ?_|refine JF rfl ?_|refine JG rfl ?_|refine JH rfl ?_|refine JI rfl ?_|refine J2 rfl ?_|refine J3 rfl ?_|refine J4 rfl ?_|refine J1 rfl ?_|refine J6 rfl ?_|refine J7 rfl ?_|refine JJ rfl ?_|refine JK rfl ?_|refine JQ rfl ?_|refine JL rfl rfl ?_|refine JM rfl rfl ?_|refine JN rfl ?_|refine JO rfl ?_|refine JP rfl ?_))
    exact f_ret rfl rfl (hQ _ _ _ ⟨vis, ad, cap, Lb, hp, rfl, rfl, hO⟩ S)
  -- Sorted
  have k_sorted : ∀ b1, DSpec Try.prog 66 [.func (.func 78) #[] #[.pointer (some ⟨b1, 0, none⟩)]] [(b1, .cells ⟨[.map (some D.c)]⟩ 116), (D.c, D.cache.obj Dn.encS)]
      fun v L => ∃ (ad : Option Addr) (cap : Nat) (Lb : List (Nat × Obj)), v = .slice ad D.cache.es.length cap ∧ L = [(b1, .cells ⟨[.map (some D.c)]⟩ 116), (D.c, D.cache.obj Dn.encS)] ++ Lb ∧ OwnI ad D.cache.es.length cap D.pend Lb := by
    intro b1
    refine spec_of mix Try.func66 c66_eq rfl rfl fun w F Q S hQ => ?_
    (repeat (first|(with_reducible first|refine Ja ?_|refine Jb ?_|refine Jc ?_|refine Jd ?_|refine Je ?_|refine Jf ?_|refine Jg ?_|refine Jh ?_|refine Ji ?_|refine Jj ?_|refine Jk rfl ?_|refine Jl ?_|refine Jm ?_|refine Jn ?_|refine Jo ?_|refine Jp ?_|refine Jq ?_)|refine JA rfl ?_|refine JB rfl ?_|refine JC rfl ?_|refine JD rfl ?_|refine JE rfl ?_|refine JF rfl ?_|refine JG rfl ?_|refine JH rfl ?_|refine JI rfl ?_|refine J2 rfl ?_|refine J3 rfl ?_|refine J4 rfl ?_|refine J1 rfl ?_|refine J6 rfl ?_|refine J7 rfl ?_|refine JJ rfl ?_|refine JK rfl ?_|refine JQ rfl ?_|refine JL rfl rfl ?_|refine JM rfl rfl ?_|refine JN rfl ?_|refine JO rfl ?_|refine JP rfl ?_))
    refine e_call (L2 := []) rfl (k_coll b1) S ?_
    rintro _ _ w ⟨vis, ad, cap, Lb, hp, rfl, rfl, hO⟩ S
    have hlen : vis.length = D.cache.es.length := hp.length_eq
    rw [hlen] at hO ⊢
    refine e_mvL rfl ?_
    (repeat (with_reducible first|refine Ja ?_|refine Jb ?_|refine Jc ?_|refine Jd ?_|refine Je ?_|refine Jf ?_|refine Jg ?_|refine Jh ?_|refine Ji ?_|refine Jj ?_|refine Jk rfl ?_|refine Jl ?_|refine Jm ?_|refine Jn ?_|refine Jo ?_|refine Jp ?_|refine Jq ?_))
    refine e_mvL rfl ?_
    refine e_call (L2 := [_, _]) rfl (k_sort ad _ cap (vis.map (·.1)) Lb hO (by omega)) S ?_
    rintro _ L w hO2 S
    have hpend : sortI (vis.map (·.1)) = D.pend := sortI_perm (hp.map _)
    rw [hpend] at hO2
    (repeat (with_reducible first|refine Ja ?_|refine Jb ?_|refine Jc ?_|refine Jd ?_|refine Je ?_|refine Jf ?_|refine Jg ?_|refine Jh ?_|refine Ji ?_|refine Jj ?_|refine Jk rfl ?_|refine Jl ?_|refine Jm ?_|refine Jn ?_|refine Jo ?_|refine Jp ?_|refine Jq ?_))
    refine e_mvL rfl ?_
    refine e_mvL rfl ?_
    (repeat (first|(with_reducible first|refine Ja ?_|refine Jb ?_|refine Jc ?_|refine Jd ?_|refine Je ?_|refine Jf ?_|refine Jg ?_|refine Jh ?_|refine Ji ?_|refine Jj ?_|refine Jk rfl ?_|refine Jl ?_|refine Jm ?_|refine Jn ?_|refine Jo ?_|refine Jp ?_|refine Jq ?_)|refine JA rfl ?_|refine JB rfl ?_|refine JC rfl ?_|refine JD rfl ?_|refine JE rfl ?_|refine JF rfl ?_|refine JG rfl ?_|refine JH rfl ?_|refine JI rfl ?_|refine J2 rfl ?_|refine J3 rfl ?_|refine J4 rfl ?_|refine J1 rfl ?_|refine J6 rfl ?_|refine J7 rfl ?_|refine JJ rfl ?_|refine JK rfl ?_|refine JQ rfl ?_|refine JL rfl rfl ?_|refine JM rfl rfl ?_|refine JN rfl ?_|refine JO rfl ?_|refine JP rfl ?_))
    exact f_ret rfl rfl (hQ _ _ _ ⟨ad, cap, L, rfl, rfl, hO2⟩ S)
  refine spec_of mix Try.func45 c45_eq rfl rfl fun w F Q S hQ => ?_
  (repeat (first|(with_reducible first|refine Ja ?_|refine Jb ?_|refine Jc ?_|refine Jd ?_|refine Je ?_|refine Jf ?_|refine Jg ?_|refine Jh ?_|refine Ji ?_|refine Jj ?_|refine Jk rfl ?_|refine Jl ?_|refine Jm ?_|refine Jn ?_|refine Jo ?_|refine Jp ?_|refine Jq ?_)|refine JA rfl ?_|refine JB rfl ?_|refine JC rfl ?_|refine JD rfl ?_|refine JE rfl ?_|refine JF rfl ?_|refine JG rfl ?_|refine JH rfl ?_|refine JI rfl ?_|refine J2 rfl ?_|refine J3 rfl ?_|refine J4 rfl ?_|refine J1 rfl ?_|refine J6 rfl ?_|refine J7 rfl ?_|refine JJ rfl ?_|refine JK rfl ?_|refine JQ rfl ?_|refine JL rfl rfl ?_|refine JM rfl rfl ?_|refine JN rfl ?_|refine JO rfl ?_|refine JP rfl ?_))
  refine e_ld (S.cell 0 rfl rfl) ?_
  refine e_callN rfl k_keys S ?_
  rintro _ _ w ⟨b1, rfl, rfl⟩ S
  have S9 : Dn.Sep w ([(D.q, .cells ⟨D.hd⟩ 119), (D.b, .cells ⟨D.dur.flatMap bcells⟩ 114), (D.c, D.cache.obj Dn.encS), (D.a, D.armed.obj Dn.encI), (b1, .cells ⟨[.map (some D.c)]⟩ 116)]) F := S
  replace S9 : Dn.Sep w ([(D.q, .cells ⟨D.hd⟩ 119), (D.b, .cells ⟨D.dur.flatMap bcells⟩ 114), (D.a, D.armed.obj Dn.encI)] ++ [(b1, .cells ⟨[.map (some D.c)]⟩ 116), (D.c, D.cache.obj Dn.encS)]) F := by
    refine S9.perm (List.Perm.cons _ (List.Perm.cons _ ?_))
    exact ((List.Perm.swap _ _ _).trans (List.Perm.cons _ (List.Perm.swap _ _ _)))
  refine e_call (L2 := [_, _, _]) rfl (k_sorted b1) S9 ?_
  rintro _ _ w ⟨ad, cap, Lb, rfl, rfl, hO⟩ S
  refine e_mvL rfl ?_
  (repeat (first|(with_reducible first|refine Ja ?_|refine Jb ?_|refine Jc ?_|refine Jd ?_|refine Je ?_|refine Jf ?_|refine Jg ?_|refine Jh ?_|refine Ji ?_|refine Jj ?_|refine Jk rfl ?_|refine Jl ?_|refine Jm ?_|refine Jn ?_|refine Jo ?_|refine Jp ?_|refine Jq ?_)|refine JA rfl ?_|refine JB rfl ?_|refine JC rfl ?_|refine JD rfl ?_|refine JE rfl ?_|refine JF rfl ?_|refine JG rfl ?_|refine JH rfl ?_|refine JI rfl ?_|refine J2 rfl ?_|refine J3 rfl ?_|refine J4 rfl ?_|refine J1 rfl ?_|refine J6 rfl ?_|refine J7 rfl ?_|refine JJ rfl ?_|refine JK rfl ?_|refine JQ rfl ?_|refine JL rfl rfl ?_|refine JM rfl rfl ?_|refine JN rfl ?_|refine JO rfl ?_|refine JP rfl ?_))
  refine f_ret rfl rfl (hQ _ _ _ ⟨ad, cap, Lb, rfl, rfl, hO⟩ ?_)
  have S8 : Dn.Sep w ([(D.q, .cells ⟨D.hd⟩ 119), (D.b, .cells ⟨D.dur.flatMap bcells⟩ 114), (D.a, D.armed.obj Dn.encI), (b1, .cells ⟨[.map (some D.c)]⟩ 116), (D.c, D.cache.obj Dn.encS)] ++ Lb) F := S
  have hp : ([(D.q, Obj.cells ⟨D.hd⟩ 119), (D.b, .cells ⟨D.dur.flatMap bcells⟩ 114), (D.a, D.armed.obj Dn.encI), (b1, .cells ⟨[.map (some D.c)]⟩ 116), (D.c, D.cache.obj Dn.encS)]).Perm ((b1, .cells ⟨[.map (some D.c)]⟩ 116) :: D.L) := by
    refine List.Perm.trans ?_ (List.perm_middle (a := (b1, Obj.cells ⟨[.map (some D.c)]⟩ 116)) (l₁ := [(D.q, Obj.cells ⟨D.hd⟩ 119), (D.b, .cells ⟨D.dur.flatMap bcells⟩ 114)]) (l₂ := [(D.c, D.cache.obj Dn.encS), (D.a, D.armed.obj Dn.encI)]))
    refine List.Perm.cons _ (List.Perm.cons _ ?_)
    exact (List.Perm.swap _ _ _).trans (List.Perm.cons _ (List.Perm.swap _ _ _))
  exact Sep.drop (L2 := [_]) (S8.perm (hp.append (List.Perm.refl Lb)))

end Go.Proofs.Ytgendpinmmmfjaa

/-
  The walk of a disk's Cut.
-/
namespace Dn
open Go

/-- the first p bytes of a sector over an old one -/
def clampP (p : Int) : Nat := (if (64 : Int) < (if (0 : Int) > p then 0 else p) then 64 else (if (0 : Int) > p then 0 else p)).toNat
def torn (p : Int) (s old : Sec) : Sec := s.take (clampP p) ++ old.drop (clampP p)
def cutRun : List Int → List Int → Dk → Dk
  | [], _, D => D
  | i :: ks, [], D => cutRun ks [] { D with cache := D.cache.del i }
  | i :: ks, p :: ps, D => cutRun ks ps { D with dur := D.dur.set i.toNat (torn p ((D.cache.get i).getD zsec) (D.sec i.toNat)), cache := D.cache.del i }
def Dk.cut (D : Dk) (picks : List Int) : Dk := { cutRun D.pend picks D with armed := (cutRun D.pend picks D).armed.clear }

theorem clamp_le (p : Int) : clampP p ≤ 64 := by unfold clampP; split <;> split <;> omega

section
variable {P : Program} {m : Nat} {w : World} {L L1 L2 Lb : List (Nat × Obj)} {F : Fr} {T : Rg} {N : Rg → World → Prop} {l : List Ins} {d : Option Nat} {ty : TypeId} {K : Ex → Rg → World → Prop}
variable {α : Type} {enc : α → Value}
/-- an element of a map, or the zero -/
theorem e_look1 {t kt et : TypeId} {x y : Operand} {r : Nat} {k : Int} {g : GM α} {z : Value} (S : Sep w L F) (i : Nat) (hx : T.evR x = .map (some r)) (hy : T.evR y = .int .i64 k) (hL : L[i]? = some (r, g.obj enc))
    (ht : P.underlying t = some (.map kt et)) (hk : P.underlying kt = some (.int .i64)) (hz : (P.info? et).bind (·.zero) = some z) {v : Value} (hv : ∀ u, g.get k = some u → enc u = v) (hn : g.get k = none → z = v) (h : Evs P l N (updO T d v) w) : Evs P (.op (.raw d (.lookup t x y false) ty) :: l) N T w := by
  refine e_raw (w' := w) ?_ h
  have hb := S.at_ _ _ (Sep.mem hL)
  simp only [rawSem, execOp]
  refine pull ?_
  simp only [Instr.lookup, Sem.run_bind, run_und ht, Result.andThen_ok, hx, hy]
  rw [getObj_run hb (by intro c t f; simp [GM.obj])]
  simp only [GM.obj, Result.andThen_ok, Sem.run_bind, Sem.run_pure, checkKey_int hk, findKey_gm hk]
  have := find_idx k g.es
  unfold GM.get at hv hn
  cases hg : GM.find k g.es with
  | none =>
    rw [hg] at this
    rw [← hn hg]
    cases hf : g.es.findIdx? (fun e => k = e.1) with
    | none => simp [run_zero hz]
    | some j => rw [hf] at this; simp at this
  | some u =>
    rw [hg] at this
    rw [← hv u hg]
    cases hf : g.es.findIdx? (fun e => k = e.1) with
    | none => rw [hf] at this; simp at this
    | some j => simp
end

theorem torn_len {p : Int} {s old : Sec} (hs : s.length = 64) (ho : old.length = 64) : (torn p s old).length = 64 := by
  have := clamp_le p
  simp [torn, hs, ho]; omega
theorem del_mem {α : Type} {k : Int} {e : Int × α × Nat} : ∀ {l : List (Int × α × Nat)}, e ∈ GM.del1 k l → e ∈ l := by
  intro l
  induction l with
  | nil => intro h; exact h
  | cons x l ih =>
    intro h
    simp only [GM.del1] at h
    split at h
    · exact List.mem_cons_of_mem _ h
    · rcases List.mem_cons.1 h with rfl | h
      · exact List.mem_cons_self ..
      · exact List.mem_cons_of_mem _ (ih h)
theorem flat_torn {dur : List Sec} (h : ∀ s ∈ dur, s.length = 64) {i : Nat} (hi : i < dur.length) {s : Sec} (hs : s.length = 64) (p : Int) :
    putAt (dur.flatMap bcells) (i * 64) ((bcells s).take (clampP p)) = (dur.set i (torn p s dur[i])).flatMap bcells := by
  have hold : (dur[i]).length = 64 := h _ (List.getElem_mem hi)
  have hcl := clamp_le p
  rw [← flat_set h hi (torn_len hs hold)]
  have hrow := flat_drop h hi
  have hlen := flat_len h
  have e : bcells (torn p s dur[i]) = (bcells s).take (clampP p) ++ (bcells dur[i]).drop (clampP p) := by
    simp [torn, bcells, List.map_take, List.map_drop]
  obtain ⟨X, hX⟩ : ∃ X, dur.flatMap bcells = X := ⟨_, rfl⟩
  rw [hX] at hrow hlen ⊢
  have hXl : i * 64 + 64 ≤ X.length := by omega
  unfold putAt
  rw [e, ← hrow, List.append_assoc]
  congr 2
  have hl1 : ((bcells s).take (clampP p)).length = clampP p := by simp [hs]; omega
  have hl2 : (((X.drop (i * 64)).take 64).drop (clampP p)).length = 64 - clampP p := by
    rw [List.length_drop, List.length_take, List.length_drop]; omega
  rw [List.length_append, hl1, hl2, show i * 64 + (clampP p + (64 - clampP p)) = i * 64 + 64 by omega]
  rw [← List.drop_drop, ← List.drop_drop]
  conv => lhs; rw [← List.take_append_drop 64 (X.drop (i * 64))]
  rw [List.drop_append_of_le_length (by rw [List.length_take, List.length_drop]; omega)]

end Dn
namespace Go.Proofs.Ytgendpinmmmfjaa
open Dn
attribute [local irreducible] Evs Ev EvT DSpec PSpec CallTo
set_option maxRecDepth 10000
set_option maxHeartbeats 1000000

theorem pend_key {D : Dk} {i : Int} (h : i ∈ D.pend) : ∃ e ∈ D.cache.es, e.1 = i := by
  have := (List.mergeSort_perm (D.cache.es.map (·.1)) leI).mem_iff.1 h
  obtain ⟨e, he, hk⟩ := List.mem_map.1 this
  exact ⟨e, he, hk⟩
theorem pend_len (D : Dk) : D.pend.length = D.cache.es.length := by
  simp [Dk.pend, sortI]

theorem cellL {w : World} {L : List (Nat × Obj)} {F : Fr} (S : Dn.Sep w L F) {b off ty : Nat} {cs : List Value} {fr : Nat × Nat} {v : Value} (h : (b, .cells ⟨cs⟩ ty fr) ∈ L) (hv : cs[off]? = some v) : ldV none (.pointer (some ⟨b, off, none⟩)) w = some v := by
  have := S.at_ _ _ h
  simp [ldV, World.cell?, this, hv]
theorem dk_cut (D : Dk) (adp : Option Addr) (cap : Nat) (picks : List Int) (hok : D.ok) (hwf : D.wf) (hb : D.cache.es.length ≤ 1000000) (hbp : picks.length ≤ 4611686018427387904) :
    DSpecF Try.prog 46 [D.v, .slice adp picks.length cap] D.L (fun F => FSl F adp (picks.map (Value.int .i64))) fun _ L => L = (D.cut picks).L := by
  refine specF_of mix Try.func46 c46_eq rfl rfl fun w F Q hF S hQ => ?_
  obtain ⟨RES, hRES⟩ : ∃ RES, cutRun D.pend picks D = RES := ⟨_, rfl⟩
  have hpl := pend_len D
  (repeat (first|(with_reducible first|refine Ja ?_|refine Jb ?_|refine Jc ?_|refine Jd ?_|refine Je ?_|refine Jf ?_|refine Jg ?_|refine Jh ?_|refine Ji ?_|refine Jj ?_|refine Jk rfl ?_|refine Jl ?_|refine Jm ?_|refine Jn ?_|refine Jo ?_|refine Jp ?_|refine Jq ?_)|refine JA rfl ?_|refine JB rfl ?_|refine JC rfl ?_|refine JD rfl ?_|refine JE rfl ?_|refine JF rfl ?_|refine JG rfl ?_|refine JH rfl ?_|refine JI rfl ?_|refine J2 rfl ?_|refine J3 rfl ?_|refine J4 rfl ?_|refine J1 rfl ?_|refine J6 rfl ?_|refine J7 rfl ?_|refine JJ rfl ?_|refine JK rfl ?_|refine JQ rfl ?_|refine JL rfl rfl ?_|refine JM rfl rfl ?_|refine JN rfl ?_|refine JO rfl ?_|refine JP rfl ?_))
  refine e_call (L2 := []) rfl (dk_pending D hwf hb) S ?_
  rintro _ _ w ⟨adk, capk, Lk, rfl, rfl, hOk⟩ S
  refine e_p (v := .int .i64 (D.cache.es.length : Int)) rfl ?_
  (repeat (first|(with_reducible first|refine Ja ?_|refine Jb ?_|refine Jc ?_|refine Jd ?_|refine Je ?_|refine Jf ?_|refine Jg ?_|refine Jh ?_|refine Ji ?_|refine Jj ?_|refine Jk rfl ?_|refine Jl ?_|refine Jm ?_|refine Jn ?_|refine Jo ?_|refine Jp ?_|refine Jq ?_)|refine JA rfl ?_|refine JB rfl ?_|refine JC rfl ?_|refine JD rfl ?_|refine JE rfl ?_|refine JF rfl ?_|refine JG rfl ?_|refine JH rfl ?_|refine JI rfl ?_|refine J2 rfl ?_|refine J3 rfl ?_|refine J4 rfl ?_|refine J1 rfl ?_|refine J6 rfl ?_|refine J7 rfl ?_|refine JJ rfl ?_|refine JK rfl ?_|refine JQ rfl ?_|refine JL rfl rfl ?_|refine JM rfl rfl ?_|refine JN rfl ?_|refine JO rfl ?_|refine JP rfl ?_))
  refine s_loop (σ := Nat × Dk) (fun q => [(10, .int .i64 (q.1 : Int)), (0, D.v), (1, .slice adp picks.length cap), (8, .slice adk D.cache.es.length capk), (9, .int .i64 (D.cache.es.length : Int))])
    (fun q w => q.1 ≤ D.cache.es.length ∧ q.2.ok ∧ q.2.q = D.q ∧ q.2.b = D.b ∧ q.2.c = D.c ∧ q.2.a = D.a ∧ q.2.dur.length = D.dur.length ∧ cutRun (D.pend.drop q.1) (picks.drop q.1) q.2 = RES ∧ Dn.Sep w (q.2.L ++ Lk) F) (fun q => D.cache.es.length - q.1) (0, D)
    ⟨rfl, rfl, rfl, rfl, rfl, trivial⟩ rfl ⟨by simp, hok, rfl, rfl, rfl, rfl, rfl, hRES, S⟩ ?_
  rintro gg ⟨i, E⟩ w ⟨hi, hEok, hq, hEb, hEc, hEa, hdl, hres, S⟩
  simp only [setL] at hi hEok hq hEb hEc hEa hdl hres S ⊢
  have hEv : E.v = D.v := by simp only [Dk.v, hq]
  replace S : Dn.Sep w ([(D.q, .cells ⟨[.slice (some ⟨D.b, 0, none⟩) D.dur.length D.dur.length, .map (some D.c), .map (some D.a)]⟩ 119), (D.b, .cells ⟨E.dur.flatMap bcells⟩ 114), (D.c, E.cache.obj Dn.encS), (D.a, E.armed.obj Dn.encI)] ++ Lk) F := by
    have : E.L = [(D.q, .cells ⟨[.slice (some ⟨D.b, 0, none⟩) D.dur.length D.dur.length, .map (some D.c), .map (some D.a)]⟩ 119), (D.b, .cells ⟨E.dur.flatMap bcells⟩ 114), (D.c, E.cache.obj Dn.encS), (D.a, E.armed.obj Dn.encI)] := by
      simp only [Dk.L, Dk.hd, hq, hEb, hEc, hEa, hdl]
    rw [← this]; exact S
  (repeat (first|(with_reducible first|refine Ja ?_|refine Jb ?_|refine Jc ?_|refine Jd ?_|refine Je ?_|refine Jf ?_|refine Jg ?_|refine Jh ?_|refine Ji ?_|refine Jj ?_|refine Jk rfl ?_|refine Jl ?_|refine Jm ?_|refine Jn ?_|refine Jo ?_|refine Jp ?_|refine Jq ?_)|refine JA rfl ?_|refine JB rfl ?_|refine JC rfl ?_|refine JD rfl ?_|refine JE rfl ?_|refine JF rfl ?_|refine JG rfl ?_|refine JH rfl ?_|refine JI rfl ?_|refine J2 rfl ?_|refine J3 rfl ?_|refine J4 rfl ?_|refine J1 rfl ?_|refine J6 rfl ?_|refine J7 rfl ?_|refine JJ rfl ?_|refine JK rfl ?_|refine JQ rfl ?_|refine JL rfl rfl ?_|refine JM rfl rfl ?_|refine JN rfl ?_|refine JO rfl ?_|refine JP rfl ?_))
  refine s_iteD rfl (fun h => ?_) (fun h => ?_)
  rotate_left
  · have hie : i = D.cache.es.length := by omega
    have hnil : D.pend.drop i = [] := List.drop_eq_nil_of_le (by omega)
    rw [hnil] at hres
    have hres : E = RES := hres
    (repeat (first|(with_reducible first|refine Ja ?_|refine Jb ?_|refine Jc ?_|refine Jd ?_|refine Je ?_|refine Jf ?_|refine Jg ?_|refine Jh ?_|refine Ji ?_|refine Jj ?_|refine Jk rfl ?_|refine Jl ?_|refine Jm ?_|refine Jn ?_|refine Jo ?_|refine Jp ?_|refine Jq ?_)|refine JA rfl ?_|refine JB rfl ?_|refine JC rfl ?_|refine JD rfl ?_|refine JE rfl ?_|refine JF rfl ?_|refine JG rfl ?_|refine JH rfl ?_|refine JI rfl ?_|refine J2 rfl ?_|refine J3 rfl ?_|refine J4 rfl ?_|refine J1 rfl ?_|refine J6 rfl ?_|refine J7 rfl ?_|refine JJ rfl ?_|refine JK rfl ?_|refine JQ rfl ?_|refine JL rfl rfl ?_|refine JM rfl rfl ?_|refine JN rfl ?_|refine JO rfl ?_|refine JP rfl ?_))
    refine e_ld (S.cell 0 rfl rfl) ?_
    refine e_clearM S 3 rfl rfl rfl Try.underlying117 fun w S => ?_
    (repeat (first|(with_reducible first|refine Ja ?_|refine Jb ?_|refine Jc ?_|refine Jd ?_|refine Je ?_|refine Jf ?_|refine Jg ?_|refine Jh ?_|refine Ji ?_|refine Jj ?_|refine Jk rfl ?_|refine Jl ?_|refine Jm ?_|refine Jn ?_|refine Jo ?_|refine Jp ?_|refine Jq ?_)|refine JA rfl ?_|refine JB rfl ?_|refine JC rfl ?_|refine JD rfl ?_|refine JE rfl ?_|refine JF rfl ?_|refine JG rfl ?_|refine JH rfl ?_|refine JI rfl ?_|refine J2 rfl ?_|refine J3 rfl ?_|refine J4 rfl ?_|refine J1 rfl ?_|refine J6 rfl ?_|refine J7 rfl ?_|refine JJ rfl ?_|refine JK rfl ?_|refine JQ rfl ?_|refine JL rfl rfl ?_|refine JM rfl rfl ?_|refine JN rfl ?_|refine JO rfl ?_|refine JP rfl ?_))
    replace S : Dn.Sep w ([(D.q, .cells ⟨[.slice (some ⟨D.b, 0, none⟩) D.dur.length D.dur.length, .map (some D.c), .map (some D.a)]⟩ 119), (D.b, .cells ⟨E.dur.flatMap bcells⟩ 114), (D.c, E.cache.obj Dn.encS), (D.a, E.armed.clear.obj Dn.encI)] ++ Lk) F := S
    refine f_end rfl rfl (hQ _ _ _ ?_ (Sep.drop (L2 := Lk) (S.perm List.perm_append_comm)))
    unfold Dk.cut
    rw [hRES, ← hres]
    simp only [Dk.L, Dk.hd, hq, hEb, hEc, hEa, hdl]
  have hil : i < D.cache.es.length := by omega
  have hip : i < D.pend.length := by omega
  obtain ⟨key, hkey⟩ : ∃ key, D.pend[i] = key := ⟨_, rfl⟩
  obtain ⟨e, he, hek⟩ := pend_key (D := D) (i := key) (by rw [← hkey]; exact List.getElem_mem hip)
  have hrng := hwf.rng e he
  rw [hek] at hrng
  rw [List.drop_eq_getElem_cons hip, hkey] at hres
  have hkl : key.toNat < E.dur.length := by omega
  -- the key
  rcases OwnS.own hOk with ⟨_, hcp, _⟩ | ⟨bk, spk, lok, hik, rfl, hspk, hfrk, eLk⟩
  · have := OwnS.le hOk; omega
  have hkc : ((D.pend.map (Value.int .i64)) ++ spk)[i]? = some (.int .i64 key) := by
    rw [List.getElem?_append_left (by simpa using hip)]
    simp [hip, hkey]
  have hLk : (bk, Obj.cells ⟨D.pend.map (Value.int .i64) ++ spk⟩ 3 (lok, hik)) ∈ Lk := by rw [eLk]; simp
  (repeat (with_reducible first|refine Ja ?_|refine Jb ?_|refine Jc ?_|refine Jd ?_|refine Je ?_|refine Jf ?_|refine Jg ?_|refine Jh ?_|refine Ji ?_|refine Jj ?_|refine Jk rfl ?_|refine Jl ?_|refine Jm ?_|refine Jn ?_|refine Jo ?_|refine Jp ?_|refine Jq ?_))
  refine e_mvI rfl ?_
  refine e_ixa rfl rfl (by omega) (by omega) ?_
  rw [show 0 + (i : Int).toNat * 1 = i by omega]
  refine e_ld (v := .int .i64 key) (cellL S (List.mem_append_right _ hLk) hkc) ?_
  (repeat (with_reducible first|refine Ja ?_|refine Jb ?_|refine Jc ?_|refine Jd ?_|refine Je ?_|refine Jf ?_|refine Jg ?_|refine Jh ?_|refine Ji ?_|refine Jj ?_|refine Jk rfl ?_|refine Jl ?_|refine Jm ?_|refine Jn ?_|refine Jo ?_|refine Jp ?_|refine Jq ?_))
  refine e_mvI rfl ?_
  refine e_mvI rfl ?_
  (repeat (with_reducible first|refine Jc ?_|refine Jd ?_|refine Je ?_|refine Jf ?_|refine Jg ?_|refine Jh ?_|refine Ji ?_|refine Jj ?_|refine Jk rfl ?_|refine Jl ?_|refine Jm ?_|refine Jn ?_|refine Jp ?_|refine Jq ?_))
  -- the sector is written in part
  refine s_cut (σ := Dk) (fun _ => [(10, .int .i64 (i : Int)), (5, .int .i64 key), (0, D.v), (1, .slice adp picks.length cap), (8, .slice (some ⟨bk, 0, none⟩) D.cache.es.length capk), (9, .int .i64 (D.cache.es.length : Int))])
    (fun E' w => E'.ok ∧ E'.q = D.q ∧ E'.b = D.b ∧ E'.c = D.c ∧ E'.a = D.a ∧ E'.dur.length = D.dur.length ∧ E'.armed = E.armed ∧ cutRun (D.pend.drop (i + 1)) (picks.drop (i + 1)) { E' with cache := E'.cache.del key } = RES ∧
      Dn.Sep w ([(D.q, .cells ⟨[.slice (some ⟨D.b, 0, none⟩) D.dur.length D.dur.length, .map (some D.c), .map (some D.a)]⟩ 119), (D.b, .cells ⟨E'.dur.flatMap bcells⟩ 114), (D.c, E'.cache.obj Dn.encS), (D.a, E'.armed.obj Dn.encI)] ++ Lk) F) ?_ ?_
  · (repeat (with_reducible first|refine Ja ?_|refine Jb ?_|refine Jc ?_|refine Jd ?_|refine Je ?_|refine Jf ?_|refine Jg ?_|refine Jh ?_|refine Ji ?_|refine Jj ?_|refine Jk rfl ?_|refine Jl ?_|refine Jm ?_|refine Jn ?_|refine Jo ?_|refine Jp ?_|refine Jq ?_))
    refine e_mvI rfl ?_
    refine e_mvL rfl ?_
    refine e_p (v := .int .i64 (picks.length : Int)) rfl ?_
    refine e_p (v := .bool (decide ((i : Int) < (picks.length : Int)))) rfl ?_
    (repeat (with_reducible first|refine Ja ?_|refine Jb ?_|refine Jc ?_|refine Jd ?_|refine Je ?_|refine Jf ?_|refine Jg ?_|refine Jh ?_|refine Ji ?_|refine Jj ?_|refine Jk rfl ?_|refine Jl ?_|refine Jm ?_|refine Jn ?_|refine Jo ?_|refine Jp ?_|refine Jq ?_))
    refine s_iteD rfl (fun hp => ?_) (fun hp => ?_)
    rotate_left
    · (repeat (first|(with_reducible first|refine Ja ?_|refine Jb ?_|refine Jc ?_|refine Jd ?_|refine Je ?_|refine Jf ?_|refine Jg ?_|refine Jh ?_|refine Ji ?_|refine Jj ?_|refine Jk rfl ?_|refine Jl ?_|refine Jm ?_|refine Jn ?_|refine Jo ?_|refine Jp ?_|refine Jq ?_)|refine JA rfl ?_|refine JB rfl ?_|refine JC rfl ?_|refine JD rfl ?_|refine JE rfl ?_|refine JF rfl ?_|refine JG rfl ?_|refine JH rfl ?_|refine JI rfl ?_|refine J2 rfl ?_|refine J3 rfl ?_|refine J4 rfl ?_|refine J1 rfl ?_|refine J6 rfl ?_|refine J7 rfl ?_|refine JJ rfl ?_|refine JK rfl ?_|refine JQ rfl ?_|refine JL rfl rfl ?_|refine JM rfl rfl ?_|refine JN rfl ?_|refine JO rfl ?_|refine JP rfl ?_))
      have hpn : picks.drop i = [] := List.drop_eq_nil_of_le (by omega)
      have hpn1 : picks.drop (i + 1) = [] := List.drop_eq_nil_of_le (by omega)
      rw [hpn] at hres
      rw [hpn1]
      exact ⟨rfl, E, ⟨rfl, rfl, rfl, rfl, rfl, rfl, trivial⟩, hEok, hq, hEb, hEc, hEa, hdl, rfl, hres, S⟩
    have hpl' : i < picks.length := by omega
    rw [List.drop_eq_getElem_cons hpl'] at hres
    obtain ⟨p, hpe⟩ : ∃ p, picks[i] = p := ⟨_, rfl⟩
    rw [hpe] at hres
    obtain ⟨t, ht⟩ : ∃ t, (E.cache.get key).getD zsec = t := ⟨_, rfl⟩
    have ht64 : t.length = 64 := by
      rw [← ht]
      cases hg : E.cache.get key with
      | none => rfl
      | some v => exact Dk.ok_get hEok hg
    obtain ⟨ba, off, ead, hcell⟩ := hF i (.int .i64 p) (by simp [hpl', hpe])
    have hsec : E.sec key.toNat = E.dur[key.toNat] := by unfold Dk.sec; simp [hkl]
    (repeat (first|(with_reducible first|refine Ja ?_|refine Jb ?_|refine Jc ?_|refine Jd ?_|refine Je ?_|refine Jf ?_|refine Jg ?_|refine Jh ?_|refine Ji ?_|refine Jj ?_|refine Jk rfl ?_|refine Jl ?_|refine Jm ?_|refine Jn ?_|refine Jo ?_|refine Jp ?_|refine Jq ?_)|refine JA rfl ?_|refine JB rfl ?_|refine JC rfl ?_|refine JD rfl ?_|refine JE rfl ?_|refine JF rfl ?_|refine JG rfl ?_|refine JH rfl ?_|refine JI rfl ?_|refine J2 rfl ?_|refine J3 rfl ?_|refine J4 rfl ?_|refine J1 rfl ?_|refine J6 rfl ?_|refine J7 rfl ?_|refine JJ rfl ?_|refine JK rfl ?_|refine JQ rfl ?_|refine JL rfl rfl ?_|refine JM rfl rfl ?_|refine JN rfl ?_|refine JO rfl ?_|refine JP rfl ?_))
    refine e_ld (S.cell 0 rfl rfl) ?_
    (repeat (first|(with_reducible first|refine Ja ?_|refine Jb ?_|refine Jc ?_|refine Jd ?_|refine Je ?_|refine Jf ?_|refine Jg ?_|refine Jh ?_|refine Ji ?_|refine Jj ?_|refine Jk rfl ?_|refine Jl ?_|refine Jm ?_|refine Jn ?_|refine Jo ?_|refine Jp ?_|refine Jq ?_)|refine JA rfl ?_|refine JB rfl ?_|refine JC rfl ?_|refine JD rfl ?_|refine JE rfl ?_|refine JF rfl ?_|refine JG rfl ?_|refine JH rfl ?_|refine JI rfl ?_|refine J2 rfl ?_|refine J3 rfl ?_|refine J4 rfl ?_|refine J1 rfl ?_|refine J6 rfl ?_|refine J7 rfl ?_|refine JJ rfl ?_|refine JK rfl ?_|refine JQ rfl ?_|refine JL rfl rfl ?_|refine JM rfl rfl ?_|refine JN rfl ?_|refine JO rfl ?_|refine JP rfl ?_))
    refine e_look1 (v := Dn.encS t) S 2 rfl rfl rfl Try.underlying116 Try.underlying3 zS (fun u hu => by rw [← ht, hu]; rfl) (fun hu => by rw [← ht, hu]; rfl) ?_
    refine e_nw S fun b6 w S => ?_
    refine e_st (vs := bcells t) S 0 rfl rfl rfl (by simp [ht64]) (bcells_flat _) (by simp) fun w S => ?_
    rw [putAt_all (by simp [ht64])] at S
    replace S : Dn.Sep w ((b6, .cells ⟨bcells t⟩ 114) :: ([(D.q, .cells ⟨[.slice (some ⟨D.b, 0, none⟩) D.dur.length D.dur.length, .map (some D.c), .map (some D.a)]⟩ 119), (D.b, .cells ⟨E.dur.flatMap bcells⟩ 114), (D.c, E.cache.obj Dn.encS), (D.a, E.armed.obj Dn.encI)] ++ Lk)) F := S
    (repeat (with_reducible first|refine Ja ?_|refine Jb ?_|refine Jc ?_|refine Jd ?_|refine Je ?_|refine Jf ?_|refine Jg ?_|refine Jh ?_|refine Ji ?_|refine Jj ?_|refine Jk rfl ?_|refine Jl ?_|refine Jm ?_|refine Jn ?_|refine Jo ?_|refine Jp ?_|refine Jq ?_))
    refine s_opsd ?_
    replace S := S.drew
    (repeat (first|(with_reducible first|refine Ja ?_|refine Jb ?_|refine Jc ?_|refine Jd ?_|refine Je ?_|refine Jf ?_|refine Jg ?_|refine Jh ?_|refine Ji ?_|refine Jj ?_|refine Jk rfl ?_|refine Jl ?_|refine Jm ?_|refine Jn ?_|refine Jo ?_|refine Jp ?_|refine Jq ?_)|refine JA rfl ?_|refine JB rfl ?_|refine JC rfl ?_|refine JD rfl ?_|refine JE rfl ?_|refine JF rfl ?_|refine JG rfl ?_|refine JH rfl ?_|refine JI rfl ?_|refine J2 rfl ?_|refine J3 rfl ?_|refine J4 rfl ?_|refine J1 rfl ?_|refine J6 rfl ?_|refine J7 rfl ?_|refine JJ rfl ?_|refine JK rfl ?_|refine JQ rfl ?_|refine JL rfl rfl ?_|refine JM rfl rfl ?_|refine JN rfl ?_|refine JO rfl ?_|refine JP rfl ?_))
    refine e_ld (S.cell 1 rfl rfl) ?_
    (repeat (first|(with_reducible first|refine Ja ?_|refine Jb ?_|refine Jc ?_|refine Jd ?_|refine Je ?_|refine Jf ?_|refine Jg ?_|refine Jh ?_|refine Ji ?_|refine Jj ?_|refine Jk rfl ?_|refine Jl ?_|refine Jm ?_|refine Jn ?_|refine Jo ?_|refine Jp ?_|refine Jq ?_)|refine JA rfl ?_|refine JB rfl ?_|refine JC rfl ?_|refine JD rfl ?_|refine JE rfl ?_|refine JF rfl ?_|refine JG rfl ?_|refine JH rfl ?_|refine JI rfl ?_|refine J2 rfl ?_|refine J3 rfl ?_|refine J4 rfl ?_|refine J1 rfl ?_|refine J6 rfl ?_|refine J7 rfl ?_|refine JJ rfl ?_|refine JK rfl ?_|refine JQ rfl ?_|refine JL rfl rfl ?_|refine JM rfl rfl ?_|refine JN rfl ?_|refine JO rfl ?_|refine JP rfl ?_))
    refine e_ixa rfl rfl (by omega) (by omega) ?_
    rw [show 0 + key.toNat * 64 = key.toNat * 64 by omega]
    refine e_slp (a := 0) (b := 64) rfl rfl rfl ?_
    subst ead
    refine e_mvL rfl ?_
    refine e_mvI rfl ?_
    refine e_ixa rfl rfl (by omega) (by omega) ?_
    rw [show off + (i : Int).toNat * 1 = off + i by omega]
    refine e_ld (v := .int .i64 p) (S.fc hcell) ?_
    refine e_p (v := .int .i64 (if (0 : Int) > p then 0 else p)) rfl ?_
    refine e_p (v := .int .i64 (clampP p : Int)) ?_ ?_
    · show some (Value.int .i64 (if (64 : Int) < (if (0 : Int) > p then 0 else p) then 64 else (if (0 : Int) > p then 0 else p))) = _
      have : 0 ≤ (if (64 : Int) < (if (0 : Int) > p then 0 else p) then 64 else (if (0 : Int) > p then 0 else p)) := by split <;> split <;> omega
      unfold clampP
      rw [Int.toNat_of_nonneg this]
    refine e_slp (a := 0) (b := clampP p) rfl (bnd_s rfl rfl (clamp_le p)) rfl ?_
    have hcl := clamp_le p
    have hsrc : Src Try.prog 1 95 (.slice (some ⟨b6, 0, none⟩) (clampP p) 64) (clampP p) ((bcells t).take (clampP p)) w.drew :=
      src_row Try.underlying95 (rowOf_at S (b := b6) (off := 0) (ty := 114) (fr := (0, 0)) (n := clampP p * 1) (cs := bcells t) (by simp) (by simp [ht64]; omega) (by simp)) (fun v hv => bcells_flat _ v (List.mem_of_mem_take hv))
    refine e_copy (k := clampP p) (ys := (bcells t).take (clampP p)) S 2 rfl rfl hsrc (by omega) Try.underlying95 rfl (by rw [flat_len hEok.1]; simp [ht64]; omega) fun w S => ?_
    rw [flat_torn hEok.1 hkl ht64, ← hsec] at S
    (repeat (first|(with_reducible first|refine Ja ?_|refine Jb ?_|refine Jc ?_|refine Jd ?_|refine Je ?_|refine Jf ?_|refine Jg ?_|refine Jh ?_|refine Ji ?_|refine Jj ?_|refine Jk rfl ?_|refine Jl ?_|refine Jm ?_|refine Jn ?_|refine Jo ?_|refine Jp ?_|refine Jq ?_)|refine JA rfl ?_|refine JB rfl ?_|refine JC rfl ?_|refine JD rfl ?_|refine JE rfl ?_|refine JF rfl ?_|refine JG rfl ?_|refine JH rfl ?_|refine JI rfl ?_|refine J2 rfl ?_|refine J3 rfl ?_|refine J4 rfl ?_|refine J1 rfl ?_|refine J6 rfl ?_|refine J7 rfl ?_|refine JJ rfl ?_|refine JK rfl ?_|refine JQ rfl ?_|refine JL rfl rfl ?_|refine JM rfl rfl ?_|refine JN rfl ?_|refine JO rfl ?_|refine JP rfl ?_))
    refine ⟨rfl, { E with dur := E.dur.set key.toNat (torn p t (E.sec key.toNat)) }, ⟨rfl, rfl, rfl, rfl, rfl, rfl, trivial⟩, ⟨fun x hx => ?_, hEok.2⟩, hq, hEb, hEc, hEa, by simp [hdl], rfl, ?_, Sep.drop (L2 := [_]) S⟩
    · rcases List.mem_or_eq_of_mem_set hx with h1 | h1
      · exact hEok.1 x h1
      · rw [h1]
        exact torn_len ht64 (by rw [hsec]; exact hEok.1 _ (List.getElem_mem hkl))
    · rw [← ht]; exact hres
  rintro gg2 E' w ⟨hE'ok, q1, q2, q3, q4, q5, q6, hres', S⟩
  simp only [setL]
  (repeat (first|(with_reducible first|refine Ja ?_|refine Jb ?_|refine Jc ?_|refine Jd ?_|refine Je ?_|refine Jf ?_|refine Jg ?_|refine Jh ?_|refine Ji ?_|refine Jj ?_|refine Jk rfl ?_|refine Jl ?_|refine Jm ?_|refine Jn ?_|refine Jo ?_|refine Jp ?_|refine Jq ?_)|refine JA rfl ?_|refine JB rfl ?_|refine JC rfl ?_|refine JD rfl ?_|refine JE rfl ?_|refine JF rfl ?_|refine JG rfl ?_|refine JH rfl ?_|refine JI rfl ?_|refine J2 rfl ?_|refine J3 rfl ?_|refine J4 rfl ?_|refine J1 rfl ?_|refine J6 rfl ?_|refine J7 rfl ?_|refine JJ rfl ?_|refine JK rfl ?_|refine JQ rfl ?_|refine JL rfl rfl ?_|refine JM rfl rfl ?_|refine JN rfl ?_|refine JO rfl ?_|refine JP rfl ?_))
  refine e_ld (S.cell 0 rfl rfl) ?_
  (repeat (first|(with_reducible first|refine Ja ?_|refine Jb ?_|refine Jc ?_|refine Jd ?_|refine Je ?_|refine Jf ?_|refine Jg ?_|refine Jh ?_|refine Ji ?_|refine Jj ?_|refine Jk rfl ?_|refine Jl ?_|refine Jm ?_|refine Jn ?_|refine Jo ?_|refine Jp ?_|refine Jq ?_)|refine JA rfl ?_|refine JB rfl ?_|refine JC rfl ?_|refine JD rfl ?_|refine JE rfl ?_|refine JF rfl ?_|refine JG rfl ?_|refine JH rfl ?_|refine JI rfl ?_|refine J2 rfl ?_|refine J3 rfl ?_|refine J4 rfl ?_|refine J1 rfl ?_|refine J6 rfl ?_|refine J7 rfl ?_|refine JJ rfl ?_|refine JK rfl ?_|refine JQ rfl ?_|refine JL rfl rfl ?_|refine JM rfl rfl ?_|refine JN rfl ?_|refine JO rfl ?_|refine JP rfl ?_))
  refine e_delete S 2 rfl rfl rfl rfl Try.underlying116 Try.underlying3 fun w S => ?_
  (repeat (first|(with_reducible first|refine Ja ?_|refine Jb ?_|refine Jc ?_|refine Jd ?_|refine Je ?_|refine Jf ?_|refine Jg ?_|refine Jh ?_|refine Ji ?_|refine Jj ?_|refine Jk rfl ?_|refine Jl ?_|refine Jm ?_|refine Jn ?_|refine Jo ?_|refine Jp ?_|refine Jq ?_)|refine JA rfl ?_|refine JB rfl ?_|refine JC rfl ?_|refine JD rfl ?_|refine JE rfl ?_|refine JF rfl ?_|refine JG rfl ?_|refine JH rfl ?_|refine JI rfl ?_|refine J2 rfl ?_|refine J3 rfl ?_|refine J4 rfl ?_|refine J1 rfl ?_|refine J6 rfl ?_|refine J7 rfl ?_|refine JJ rfl ?_|refine JK rfl ?_|refine JQ rfl ?_|refine JL rfl rfl ?_|refine JM rfl rfl ?_|refine JN rfl ?_|refine JO rfl ?_|refine JP rfl ?_))
  refine e_add (a := (i : Int)) (b := 1) rfl rfl (by omega) (by omega) ?_
  (repeat (first|(with_reducible first|refine Ja ?_|refine Jb ?_|refine Jc ?_|refine Jd ?_|refine Je ?_|refine Jf ?_|refine Jg ?_|refine Jh ?_|refine Ji ?_|refine Jj ?_|refine Jk rfl ?_|refine Jl ?_|refine Jm ?_|refine Jn ?_|refine Jo ?_|refine Jp ?_|refine Jq ?_)|refine JA rfl ?_|refine JB rfl ?_|refine JC rfl ?_|refine JD rfl ?_|refine JE rfl ?_|refine JF rfl ?_|refine JG rfl ?_|refine JH rfl ?_|refine JI rfl ?_|refine J2 rfl ?_|refine J3 rfl ?_|refine J4 rfl ?_|refine J1 rfl ?_|refine J6 rfl ?_|refine J7 rfl ?_|refine JJ rfl ?_|refine JK rfl ?_|refine JQ rfl ?_|refine JL rfl rfl ?_|refine JM rfl rfl ?_|refine JN rfl ?_|refine JO rfl ?_|refine JP rfl ?_))
  refine ⟨rfl, (i + 1, { E' with cache := E'.cache.del key }), ⟨rfl, rfl, rfl, rfl, rfl, trivial⟩, ⟨by simp only; omega, ⟨hE'ok.1, fun x hx => hE'ok.2 x (del_mem hx)⟩, q1, q2, q3, q4, q5, hres', ?_⟩, by simp only; omega⟩
  have e9 : ({ E' with cache := E'.cache.del key } : Dk).L = [(D.q, .cells ⟨[.slice (some ⟨D.b, 0, none⟩) D.dur.length D.dur.length, .map (some D.c), .map (some D.a)]⟩ 119), (D.b, .cells ⟨E'.dur.flatMap bcells⟩ 114), (D.c, (E'.cache.del key).obj Dn.encS), (D.a, E'.armed.obj Dn.encI)] := by
    simp only [Dk.L, Dk.hd, q1, q2, q3, q4, q5]
  simp only
  rw [e9]
  exact S

end Go.Proofs.Ytgendpinmmmfjaa

/-
  The walk of a shelf's Mount.
-/
namespace Dn
open Go

theorem GM.del_sub {α : Type} (k : Int) : ∀ (l : List (Int × α × Nat)), (GM.del1 k l).Sublist l
  | [] => List.Sublist.slnil
  | e :: l => by
    simp only [GM.del1]
    split
    · exact List.sublist_cons_self e l
    · exact (GM.del_sub k l).cons_cons e
theorem GM.del_wf {α : Type} {g : GM α} (h : g.wf) (k : Int) : (g.del k).wf :=
  ⟨h.keys.sublist ((GM.del_sub k g.es).map _), h.births.sublist ((GM.del_sub k g.es).map _), fun e he => h.lt e ((GM.del_sub k g.es).mem he)⟩

theorem cut_step_ok {D : Dk} (h : D.ok) {i : Nat} (hi : i < D.dur.length) (p : Int) {t : Sec} (ht : t.length = 64) : ∀ s ∈ D.dur.set i (torn p t (D.sec i)), s.length = 64 := by
  intro s hs
  rcases List.mem_or_eq_of_mem_set hs with h1 | h1
  · exact h.1 s h1
  · rw [h1]
    refine torn_len ht ?_
    unfold Dk.sec
    rw [List.getD_eq_getElem?_getD, List.getElem?_eq_getElem hi]
    exact h.1 _ (List.getElem_mem hi)
theorem cutRun_keep : ∀ (ks ps : List Int) (D : Dk), D.ok → D.wf → (∀ k ∈ ks, 0 ≤ k ∧ k < (D.dur.length : Int)) →
    (cutRun ks ps D).q = D.q ∧ (cutRun ks ps D).b = D.b ∧ (cutRun ks ps D).c = D.c ∧ (cutRun ks ps D).a = D.a ∧ (cutRun ks ps D).armed = D.armed ∧ (cutRun ks ps D).dur.length = D.dur.length ∧ (cutRun ks ps D).ok ∧ (cutRun ks ps D).wf := by
  intro ks
  induction ks with
  | nil => intro ps D h1 h2 h3; exact ⟨rfl, rfl, rfl, rfl, rfl, rfl, h1, h2⟩
  | cons k ks ih =>
    intro ps D h1 h2 h3
    have hk := h3 k (by simp)
    cases ps with
    | nil =>
      exact ih [] { D with cache := D.cache.del k } ⟨h1.1, fun e he => h1.2 e (del_mem he)⟩ ⟨GM.del_wf h2.cache k, fun e he => h2.rng e (del_mem he)⟩ (fun x hx => h3 x (by simp [hx]))
    | cons p ps =>
      have hl : (D.dur.set k.toNat (torn p ((D.cache.get k).getD zsec) (D.sec k.toNat))).length = D.dur.length := by simp
      have ht : ((D.cache.get k).getD zsec).length = 64 := by
        cases hg : D.cache.get k with
        | none => rfl
        | some v => exact Dk.ok_get h1 hg
      obtain ⟨a1, a2, a3, a4, a5, a6, a7, a8⟩ := ih ps { D with dur := D.dur.set k.toNat (torn p ((D.cache.get k).getD zsec) (D.sec k.toNat)), cache := D.cache.del k }
        ⟨cut_step_ok h1 (by omega) p ht, fun e he => h1.2 e (del_mem he)⟩ ⟨GM.del_wf h2.cache k, fun e he => by rw [hl]; exact h2.rng e (del_mem he)⟩ (fun x hx => by rw [hl]; exact h3 x (by simp [hx]))
      exact ⟨a1, a2, a3, a4, a5, a6.trans hl, a7, a8⟩
theorem pend_rng {D : Dk} (h : D.wf) : ∀ k ∈ D.pend, 0 ≤ k ∧ k < (D.dur.length : Int) := by
  intro k hk
  have := (List.mergeSort_perm (D.cache.es.map (·.1)) leI).mem_iff.1 hk
  obtain ⟨e, he, rfl⟩ := List.mem_map.1 this
  exact h.rng e he
theorem cut_keep {D : Dk} (h1 : D.ok) (h2 : D.wf) (ps : List Int) : (D.cut ps).q = D.q ∧ (D.cut ps).dur.length = D.dur.length ∧ (D.cut ps).ok ∧ (D.cut ps).wf ∧ (D.cut ps).armed.es = [] := by
  obtain ⟨a1, a2, a3, a4, a5, a6, a7, a8⟩ := cutRun_keep D.pend ps D h1 h2 (pend_rng h2)
  exact ⟨a1, a6, ⟨a7.1, a7.2⟩, ⟨a8.cache, a8.rng⟩, rfl⟩

theorem nodup_lt : ∀ (n : Nat) (l : List Nat), l.Nodup → (∀ x ∈ l, x < n) → l.length ≤ n := by
  intro n
  induction n with
  | zero =>
    intro l _ h
    cases l with
    | nil => simp
    | cons x l => exact absurd (h x (by simp)) (by omega)
  | succ n ih =>
    intro l hn h
    have h1 := ih (l.erase n) (hn.erase n) fun x hx => by
      have := hn.mem_erase_iff.1 hx
      have h2 := h x this.2
      have := this.1
      omega
    rw [List.length_erase] at h1
    split at h1 <;> omega
theorem wf_len {D : Dk} (h : D.wf) : D.cache.es.length ≤ D.dur.length := by
  have := nodup_lt D.dur.length (D.cache.es.map fun e => e.1.toNat) ?_ ?_
  · simpa using this
  · have h1 := h.cache.keys
    rw [List.Nodup, List.pairwise_map] at h1 ⊢
    refine h1.imp_of_mem fun {a b} ha hb hne e => hne ?_
    have := h.rng a ha
    have := h.rng b hb
    omega
  · intro x hx
    obtain ⟨e, he, rfl⟩ := List.mem_map.1 hx
    have := h.rng e he
    omega

/-- the bays from the d-th on are switched off and on -/
def mtRun : Nat → Nat → List Int → Sh → Sh
  | 0, _, _, s => s
  | k + 1, d, ps, s =>
    if ((s.bays[d]?).map (·.2)).getD 0 = 1 then mtRun k (d + 1) (ps.drop (min (s.dk d).cache.es.length ps.length)) (s.setD d ((s.dk d).cut (ps.take (min (s.dk d).cache.es.length ps.length))))
    else mtRun k (d + 1) ps s
def mountW (s : Sh) (ps : List Int) : Sh := { mtRun s.bays.length 0 ps s with off := false, fused := false }
end Dn
namespace Go.Proofs.Ytgendpinmmmfjaa
open Dn
attribute [local irreducible] Evs Ev EvT DSpec PSpec CallTo
set_option maxRecDepth 10000
set_option maxHeartbeats 1000000

theorem FSl_take {F : Fr} {ad : Option Addr} {vs : List Value} (h : FSl F ad vs) (k : Nat) : FSl F ad (vs.take k) := by
  intro i v hi
  have hik : i < k := by
    rcases Nat.lt_or_ge i k with h' | h'
    · exact h'
    · rw [List.getElem?_take_eq_none h'] at hi; simp at hi
  rw [List.getElem?_take_of_lt hik] at hi
  exact h i v hi

theorem sh_mount (s : Sh) (adp : Option Addr) (cap : Nat) (picks : List Int) (h : s.ok) (hw : s.wf) (hcap : picks.length ≤ cap) (hbp : picks.length ≤ 4611686018427387904) :
    DSpecF Try.prog 22 [s.v, .slice adp picks.length cap] s.L (fun F => FSl F adp (picks.map (Value.int .i64))) fun _ L => L = (mountW s picks).L := by
  refine specF_of mix Try.func22 c22_eq rfl rfl fun w F Q hF S hQ => ?_
  have hcf := h.cfg
  have hlen := h.len
  unfold Cfg.ok at hcf
  obtain ⟨RES, hRES⟩ : ∃ RES, mtRun s.bays.length 0 picks s = RES := ⟨_, rfl⟩
  (repeat (first|(with_reducible first|refine Ja ?_|refine Jb ?_|refine Jc ?_|refine Jd ?_|refine Je ?_|refine Jf ?_|refine Jg ?_|refine Jh ?_|refine Ji ?_|refine Jj ?_|refine Jk rfl ?_|refine Jl ?_|refine Jm ?_|refine Jn ?_|refine Jo ?_|refine Jp ?_|refine Jq ?_)|refine JA rfl ?_|refine JB rfl ?_|refine JC rfl ?_|refine JD rfl ?_|refine JE rfl ?_|refine JF rfl ?_|refine JG rfl ?_|refine JH rfl ?_|refine JI rfl ?_|refine J2 rfl ?_|refine J3 rfl ?_|refine J4 rfl ?_|refine J1 rfl ?_|refine J6 rfl ?_|refine J7 rfl ?_|refine JJ rfl ?_|refine JK rfl ?_|refine JQ rfl ?_|refine JL rfl rfl ?_|refine JM rfl rfl ?_|refine JN rfl ?_|refine JO rfl ?_|refine JP rfl ?_))
  refine e_ld (S.cell 0 rfl rfl) ?_
  refine e_p (v := .int .i64 (s.bays.length : Int)) rfl ?_
  (repeat (first|(with_reducible first|refine Ja ?_|refine Jb ?_|refine Jc ?_|refine Jd ?_|refine Je ?_|refine Jf ?_|refine Jg ?_|refine Jh ?_|refine Ji ?_|refine Jj ?_|refine Jk rfl ?_|refine Jl ?_|refine Jm ?_|refine Jn ?_|refine Jo ?_|refine Jp ?_|refine Jq ?_)|refine JA rfl ?_|refine JB rfl ?_|refine JC rfl ?_|refine JD rfl ?_|refine JE rfl ?_|refine JF rfl ?_|refine JG rfl ?_|refine JH rfl ?_|refine JI rfl ?_|refine J2 rfl ?_|refine J3 rfl ?_|refine J4 rfl ?_|refine J1 rfl ?_|refine J6 rfl ?_|refine J7 rfl ?_|refine JJ rfl ?_|refine JK rfl ?_|refine JQ rfl ?_|refine JL rfl rfl ?_|refine JM rfl rfl ?_|refine JN rfl ?_|refine JO rfl ?_|refine JP rfl ?_))
  refine s_loop (σ := Nat × Sh × Option Addr × Nat × List Int) (fun q => [(12, .int .i64 (q.1 : Int)), (0, s.v), (10, .slice (some ⟨s.bb, 0, none⟩) s.bays.length s.cap), (11, .int .i64 (s.bays.length : Int)), (1, .slice q.2.2.1 q.2.2.2.2.length q.2.2.2.1)])
    (fun q w => q.1 ≤ s.bays.length ∧ q.2.1.ok ∧ q.2.1.wf ∧ q.2.1.q = s.q ∧ q.2.1.bb = s.bb ∧ q.2.1.cfg = s.cfg ∧ q.2.1.bays.length = s.bays.length ∧ q.2.2.2.2.length ≤ q.2.2.2.1 ∧ q.2.2.2.2.length ≤ 4611686018427387904 ∧ FSl F q.2.2.1 (q.2.2.2.2.map (Value.int .i64)) ∧
      mtRun (s.bays.length - q.1) q.1 q.2.2.2.2 q.2.1 = RES ∧ Dn.Sep w q.2.1.L F) (fun q => s.bays.length - q.1) (0, s, adp, cap, picks)
    ⟨rfl, rfl, rfl, rfl, rfl, trivial⟩ rfl ⟨by simp, h, hw, rfl, rfl, rfl, rfl, hcap, hbp, hF, by simpa using hRES, S⟩ ?_
  rintro g ⟨i, u, ad, cp, ps⟩ w ⟨hi, hok, hwf, hq, hbb, hcfg, hl, hpc, hpb, hFu, hres, S⟩
  simp only [setL] at hi hok hwf hq hbb hcfg hl hpc hpb hFu hres S ⊢
  (repeat (first|(with_reducible first|refine Ja ?_|refine Jb ?_|refine Jc ?_|refine Jd ?_|refine Je ?_|refine Jf ?_|refine Jg ?_|refine Jh ?_|refine Ji ?_|refine Jj ?_|refine Jk rfl ?_|refine Jl ?_|refine Jm ?_|refine Jn ?_|refine Jo ?_|refine Jp ?_|refine Jq ?_)|refine JA rfl ?_|refine JB rfl ?_|refine JC rfl ?_|refine JD rfl ?_|refine JE rfl ?_|refine JF rfl ?_|refine JG rfl ?_|refine JH rfl ?_|refine JI rfl ?_|refine J2 rfl ?_|refine J3 rfl ?_|refine J4 rfl ?_|refine J1 rfl ?_|refine J6 rfl ?_|refine J7 rfl ?_|refine JJ rfl ?_|refine JK rfl ?_|refine JQ rfl ?_|refine JL rfl rfl ?_|refine JM rfl rfl ?_|refine JN rfl ?_|refine JO rfl ?_|refine JP rfl ?_))
  refine s_iteD rfl (fun h2 => ?_) (fun h2 => ?_)
  rotate_left
  · have e : s.bays.length - i = 0 := by omega
    rw [e] at hres
    have hres : u = RES := hres
    have hhd : u.L[(0 : Nat)]? = some (s.q, .cells ⟨u.hd⟩ 80) := by rw [← hq]; rfl
    (repeat (first|(with_reducible first|refine Ja ?_|refine Jb ?_|refine Jc ?_|refine Jd ?_|refine Je ?_|refine Jf ?_|refine Jg ?_|refine Jh ?_|refine Ji ?_|refine Jj ?_|refine Jk rfl ?_|refine Jl ?_|refine Jm ?_|refine Jn ?_|refine Jo ?_|refine Jp ?_|refine Jq ?_)|refine JA rfl ?_|refine JB rfl ?_|refine JC rfl ?_|refine JD rfl ?_|refine JE rfl ?_|refine JF rfl ?_|refine JG rfl ?_|refine JH rfl ?_|refine JI rfl ?_|refine J2 rfl ?_|refine J3 rfl ?_|refine J4 rfl ?_|refine J1 rfl ?_|refine J6 rfl ?_|refine J7 rfl ?_|refine JJ rfl ?_|refine JK rfl ?_|refine JQ rfl ?_|refine JL rfl rfl ?_|refine JM rfl rfl ?_|refine JN rfl ?_|refine JO rfl ?_|refine JP rfl ?_))
    refine e_st (vs := [.bool false]) S 0 rfl hhd rfl rfl (by simp [Value.flat]) (by simp [Sh.hd, Cfg.v]) fun w S => ?_
    have e1 : u.L.set 0 (s.q, .cells ⟨putAt u.hd (0 + 8) [.bool false]⟩ 80) = ({ u with off := false } : Sh).L := by rw [← hq]; rfl
    rw [e1] at S
    have hhd2 : ({ u with off := false } : Sh).L[(0 : Nat)]? = some (s.q, .cells ⟨({ u with off := false } : Sh).hd⟩ 80) := by rw [← hq]; rfl
    (repeat (first|(with_reducible first|refine Ja ?_|refine Jb ?_|refine Jc ?_|refine Jd ?_|refine Je ?_|refine Jf ?_|refine Jg ?_|refine Jh ?_|refine Ji ?_|refine Jj ?_|refine Jk rfl ?_|refine Jl ?_|refine Jm ?_|refine Jn ?_|refine Jo ?_|refine Jp ?_|refine Jq ?_)|refine JA rfl ?_|refine JB rfl ?_|refine JC rfl ?_|refine JD rfl ?_|refine JE rfl ?_|refine JF rfl ?_|refine JG rfl ?_|refine JH rfl ?_|refine JI rfl ?_|refine J2 rfl ?_|refine J3 rfl ?_|refine J4 rfl ?_|refine J1 rfl ?_|refine J6 rfl ?_|refine J7 rfl ?_|refine JJ rfl ?_|refine JK rfl ?_|refine JQ rfl ?_|refine JL rfl rfl ?_|refine JM rfl rfl ?_|refine JN rfl ?_|refine JO rfl ?_|refine JP rfl ?_))
    refine e_st (vs := [.bool false]) S 0 rfl hhd2 rfl rfl (by simp [Value.flat]) (by simp [Sh.hd, Cfg.v]) fun w S => ?_
    have e2 : ({ u with off := false } : Sh).L.set 0 (s.q, .cells ⟨putAt ({ u with off := false } : Sh).hd (0 + 9) [.bool false]⟩ 80) = ({ u with off := false, fused := false } : Sh).L := by rw [← hq]; rfl
    rw [e2] at S
    (repeat (first|(with_reducible first|refine Ja ?_|refine Jb ?_|refine Jc ?_|refine Jd ?_|refine Je ?_|refine Jf ?_|refine Jg ?_|refine Jh ?_|refine Ji ?_|refine Jj ?_|refine Jk rfl ?_|refine Jl ?_|refine Jm ?_|refine Jn ?_|refine Jo ?_|refine Jp ?_|refine Jq ?_)|refine JA rfl ?_|refine JB rfl ?_|refine JC rfl ?_|refine JD rfl ?_|refine JE rfl ?_|refine JF rfl ?_|refine JG rfl ?_|refine JH rfl ?_|refine JI rfl ?_|refine J2 rfl ?_|refine J3 rfl ?_|refine J4 rfl ?_|refine J1 rfl ?_|refine J6 rfl ?_|refine J7 rfl ?_|refine JJ rfl ?_|refine JK rfl ?_|refine JQ rfl ?_|refine JL rfl rfl ?_|refine JM rfl rfl ?_|refine JN rfl ?_|refine JO rfl ?_|refine JP rfl ?_))
    refine f_end rfl rfl (hQ _ _ _ ?_ S)
    unfold mountW
    rw [hRES, ← hres]
  have hil : i < u.bays.length := by omega
  obtain ⟨st, hb⟩ := dk_at (s := u) (d := i) hil
  have hbay := bay_at u.bays i _ u.sp hb
  have e : s.bays.length - i = (s.bays.length - (i + 1)) + 1 := by omega
  rw [e] at hres
  simp only [mtRun, hb, Option.map_some, Option.getD_some] at hres
  have hm := List.mem_of_getElem? hb
  have hDok := hok.dks _ hm
  have hDwf := hwf _ hm
  have hDsz := hok.szs _ hm
  simp only at hDok hDwf hDsz
  have hcl := wf_len hDwf
  have htot : u.cfg.total ≤ 200704 := by rw [hcfg]; unfold Cfg.total; omega
  obtain ⟨D, hD⟩ : ∃ D, u.dk i = D := ⟨_, rfl⟩
  rw [hD] at hb hbay hres hDok hDwf hDsz hcl
  (repeat (with_reducible first|refine Ja ?_|refine Jb ?_|refine Jc ?_|refine Jd ?_|refine Je ?_|refine Jf ?_|refine Jg ?_|refine Jh ?_|refine Ji ?_|refine Jj ?_|refine Jk rfl ?_|refine Jl ?_|refine Jm ?_|refine Jn ?_|refine Jo ?_|refine Jp ?_|refine Jq ?_))
  refine e_ixa rfl rfl (by omega) (by omega) ?_
  rw [show 0 + (i : Int).toNat * 2 = i * 2 by omega]
  refine e_ld (v := .agg ⟨bayV (D, st)⟩) (S.row 1 (b := s.bb) (by rw [← hbb]; rfl) hbay.2.2.2 hbay.1) ?_
  refine e_nw S fun b5 w S => ?_
  refine e_st (vs := bayV (D, st)) S 0 rfl rfl rfl rfl (by simp [bayV, Dk.v, Value.flat]) (by simp) fun w S => ?_
  replace S : Dn.Sep w ([(b5, .cells ⟨bayV (D, st)⟩ 83)] ++ u.L) F := S
  (repeat (first|(with_reducible first|refine Ja ?_|refine Jb ?_|refine Jc ?_|refine Jd ?_|refine Je ?_|refine Jf ?_|refine Jg ?_|refine Jh ?_|refine Ji ?_|refine Jj ?_|refine Jk rfl ?_|refine Jl ?_|refine Jm ?_|refine Jn ?_|refine Jo ?_|refine Jp ?_|refine Jq ?_)|refine JA rfl ?_|refine JB rfl ?_|refine JC rfl ?_|refine JD rfl ?_|refine JE rfl ?_|refine JF rfl ?_|refine JG rfl ?_|refine JH rfl ?_|refine JI rfl ?_|refine J2 rfl ?_|refine J3 rfl ?_|refine J4 rfl ?_|refine J1 rfl ?_|refine J6 rfl ?_|refine J7 rfl ?_|refine JJ rfl ?_|refine JK rfl ?_|refine JQ rfl ?_|refine JL rfl rfl ?_|refine JM rfl rfl ?_|refine JN rfl ?_|refine JO rfl ?_|refine JP rfl ?_))
  refine e_ld (v := .int .i64 st) (S.cell 0 rfl rfl) ?_
  refine e_p (cmp_eqlD rfl rfl) ?_
  (repeat (with_reducible first|refine Ja ?_|refine Jb ?_|refine Jc ?_|refine Jd ?_|refine Je ?_|refine Jf ?_|refine Jg ?_|refine Jh ?_|refine Ji ?_|refine Jj ?_|refine Jk rfl ?_|refine Jl ?_|refine Jm ?_|refine Jn ?_|refine Jo ?_|refine Jp ?_|refine Jq ?_))
  refine s_iteD rfl (fun h3 => ?_) (fun h3 => ?_)
  rotate_left
  · rw [if_neg h3] at hres
    (repeat (first|(with_reducible first|refine Ja ?_|refine Jb ?_|refine Jc ?_|refine Jd ?_|refine Je ?_|refine Jf ?_|refine Jg ?_|refine Jh ?_|refine Ji ?_|refine Jj ?_|refine Jk rfl ?_|refine Jl ?_|refine Jm ?_|refine Jn ?_|refine Jo ?_|refine Jp ?_|refine Jq ?_)|refine JA rfl ?_|refine JB rfl ?_|refine JC rfl ?_|refine JD rfl ?_|refine JE rfl ?_|refine JF rfl ?_|refine JG rfl ?_|refine JH rfl ?_|refine JI rfl ?_|refine J2 rfl ?_|refine J3 rfl ?_|refine J4 rfl ?_|refine J1 rfl ?_|refine J6 rfl ?_|refine J7 rfl ?_|refine JJ rfl ?_|refine JK rfl ?_|refine JQ rfl ?_|refine JL rfl rfl ?_|refine JM rfl rfl ?_|refine JN rfl ?_|refine JO rfl ?_|refine JP rfl ?_))
    refine e_add (a := (i : Int)) (b := 1) rfl rfl (by omega) (by omega) ?_
    (repeat (first|(with_reducible first|refine Ja ?_|refine Jb ?_|refine Jc ?_|refine Jd ?_|refine Je ?_|refine Jf ?_|refine Jg ?_|refine Jh ?_|refine Ji ?_|refine Jj ?_|refine Jk rfl ?_|refine Jl ?_|refine Jm ?_|refine Jn ?_|refine Jo ?_|refine Jp ?_|refine Jq ?_)|refine JA rfl ?_|refine JB rfl ?_|refine JC rfl ?_|refine JD rfl ?_|refine JE rfl ?_|refine JF rfl ?_|refine JG rfl ?_|refine JH rfl ?_|refine JI rfl ?_|refine J2 rfl ?_|refine J3 rfl ?_|refine J4 rfl ?_|refine J1 rfl ?_|refine J6 rfl ?_|refine J7 rfl ?_|refine JJ rfl ?_|refine JK rfl ?_|refine JQ rfl ?_|refine JL rfl rfl ?_|refine JM rfl rfl ?_|refine JN rfl ?_|refine JO rfl ?_|refine JP rfl ?_))
    exact ⟨rfl, (i + 1, u, ad, cp, ps), ⟨rfl, rfl, rfl, rfl, rfl, trivial⟩, ⟨by simp only; omega, hok, hwf, hq, hbb, hcfg, hl, hpc, hpb, hFu, hres, Sep.drop (L2 := [_]) S⟩, by simp only; omega⟩
  rw [if_pos h3] at hres
  obtain ⟨n, hn⟩ : ∃ n, min D.cache.es.length ps.length = n := ⟨_, rfl⟩
  rw [hn] at hres
  have hnl : n ≤ ps.length := by omega
  have etk : (ps.take n).length = n := by simp; omega
  have edr : (ps.drop n).length = ps.length - n := by simp
  have hcut := dk_cut D (if cp = 0 then ad else ad.map (·.add (0 * 1))) (cp - 0) (ps.take n) hDok hDwf (by omega) (by omega)
  rw [etk] at hcut
  obtain ⟨c1, c2, c3, c4, c5⟩ := cut_keep hDok hDwf (ps.take n)
  have hset := setD_ok hok (d := i) c3 (by rw [c2]; exact hDsz)
  replace S : Dn.Sep w (((b5, .cells ⟨bayV (D, st)⟩ 83) :: u.pre i) ++ D.L) F := S.perm (List.Perm.cons _ (u.out i D st hb))
  (repeat (first|(with_reducible first|refine Ja ?_|refine Jb ?_|refine Jc ?_|refine Jd ?_|refine Je ?_|refine Jf ?_|refine Jg ?_|refine Jh ?_|refine Ji ?_|refine Jj ?_|refine Jk rfl ?_|refine Jl ?_|refine Jm ?_|refine Jn ?_|refine Jo ?_|refine Jp ?_|refine Jq ?_)|refine JA rfl ?_|refine JB rfl ?_|refine JC rfl ?_|refine JD rfl ?_|refine JE rfl ?_|refine JF rfl ?_|refine JG rfl ?_|refine JH rfl ?_|refine JI rfl ?_|refine J2 rfl ?_|refine J3 rfl ?_|refine J4 rfl ?_|refine J1 rfl ?_|refine J6 rfl ?_|refine J7 rfl ?_|refine JJ rfl ?_|refine JK rfl ?_|refine JQ rfl ?_|refine JL rfl rfl ?_|refine JM rfl rfl ?_|refine JN rfl ?_|refine JO rfl ?_|refine JP rfl ?_))
  refine e_ld (v := D.v) (S.cell 0 rfl rfl) ?_
  refine e_call (L2 := _ :: u.pre i) rfl (dk_pending D hDwf (by omega)) S ?_
  rintro _ _ w ⟨adk, capk, Lk, rfl, rfl, hOk⟩ S
  replace S : Dn.Sep w (((b5, .cells ⟨bayV (D, st)⟩ 83) :: u.pre i) ++ D.L) F := by
    have S9 : Dn.Sep w ((((b5, .cells ⟨bayV (D, st)⟩ 83) :: u.pre i) ++ D.L) ++ Lk) F := by rw [List.append_assoc]; exact S
    exact Sep.drop (L2 := Lk) (S9.perm List.perm_append_comm)
  refine e_p (v := .int .i64 (D.cache.es.length : Int)) rfl ?_
  refine e_mvL rfl ?_
  refine e_p (v := .int .i64 (ps.length : Int)) rfl ?_
  refine e_p (v := .int .i64 (n : Int)) ?_ ?_
  · show some (Value.int .i64 (if (ps.length : Int) < (D.cache.es.length : Int) then (ps.length : Int) else (D.cache.es.length : Int))) = _
    congr 2
    split <;> omega
  (repeat (with_reducible first|refine Ja ?_|refine Jb ?_|refine Jc ?_|refine Jd ?_|refine Je ?_|refine Jf ?_|refine Jg ?_|refine Jh ?_|refine Ji ?_|refine Jj ?_|refine Jk rfl ?_|refine Jl ?_|refine Jm ?_|refine Jn ?_|refine Jo ?_|refine Jp ?_|refine Jq ?_))
  refine e_mvI rfl ?_
  (repeat (with_reducible first|refine Ja ?_|refine Jb ?_|refine Jc ?_|refine Jd ?_|refine Je ?_|refine Jf ?_|refine Jg ?_|refine Jh ?_|refine Ji ?_|refine Jj ?_|refine Jk rfl ?_|refine Jl ?_|refine Jm ?_|refine Jn ?_|refine Jo ?_|refine Jp ?_|refine Jq ?_))
  refine s_opsd ?_
  replace S := S.drew
  (repeat (first|(with_reducible first|refine Ja ?_|refine Jb ?_|refine Jc ?_|refine Jd ?_|refine Je ?_|refine Jf ?_|refine Jg ?_|refine Jh ?_|refine Ji ?_|refine Jj ?_|refine Jk rfl ?_|refine Jl ?_|refine Jm ?_|refine Jn ?_|refine Jo ?_|refine Jp ?_|refine Jq ?_)|refine JA rfl ?_|refine JB rfl ?_|refine JC rfl ?_|refine JD rfl ?_|refine JE rfl ?_|refine JF rfl ?_|refine JG rfl ?_|refine JH rfl ?_|refine JI rfl ?_|refine J2 rfl ?_|refine J3 rfl ?_|refine J4 rfl ?_|refine J1 rfl ?_|refine J6 rfl ?_|refine J7 rfl ?_|refine JJ rfl ?_|refine JK rfl ?_|refine JQ rfl ?_|refine JL rfl rfl ?_|refine JM rfl rfl ?_|refine JN rfl ?_|refine JO rfl ?_|refine JP rfl ?_))
  refine e_ld (v := D.v) (S.cell 0 rfl rfl) ?_
  refine e_mvL rfl ?_
  refine e_mvI rfl ?_
  refine e_sll (a := 0) (b := n) rfl (bnd_s rfl rfl (by omega)) rfl ?_
  have S9 : Dn.Sep w.drew (((b5, .cells ⟨bayV (D, st)⟩ 83) :: u.pre i) ++ D.L) F := S
  refine e_callF (L2 := _ :: u.pre i) rfl hcut S ?_ ?_
  · have h9 := (hFu.add S9).drop 0 cp
    rcases h9 with h9 | ⟨_, h9⟩
    · have h10 := FSl_take h9 n
      rw [List.drop_zero, ← List.map_take] at h10
      exact h10
    · exact absurd rfl h9
  rintro _ _ w rfl S
  have hq' : (D.cut (ps.take n)).q = D.q := c1
  replace S : Dn.Sep w ([(b5, .cells ⟨bayV (D, st)⟩ 83)] ++ (u.setD i (D.cut (ps.take n))).L) F := S.perm (List.Perm.cons _ (u.back i D (D.cut (ps.take n)) st hb hq'))
  (repeat (with_reducible first|refine Ja ?_|refine Jb ?_|refine Jc ?_|refine Jd ?_|refine Je ?_|refine Jf ?_|refine Jg ?_|refine Jh ?_|refine Ji ?_|refine Jj ?_|refine Jk rfl ?_|refine Jl ?_|refine Jm ?_|refine Jn ?_|refine Jo ?_|refine Jp ?_|refine Jq ?_))
  refine e_mvL rfl ?_
  refine e_mvI rfl ?_
  refine e_sll (a := n) (b := ps.length) rfl rfl (bnd_s rfl rfl hnl) ?_
  (repeat (first|(with_reducible first|refine Ja ?_|refine Jb ?_|refine Jc ?_|refine Jd ?_|refine Je ?_|refine Jf ?_|refine Jg ?_|refine Jh ?_|refine Ji ?_|refine Jj ?_|refine Jk rfl ?_|refine Jl ?_|refine Jm ?_|refine Jn ?_|refine Jo ?_|refine Jp ?_|refine Jq ?_)|refine JA rfl ?_|refine JB rfl ?_|refine JC rfl ?_|refine JD rfl ?_|refine JE rfl ?_|refine JF rfl ?_|refine JG rfl ?_|refine JH rfl ?_|refine JI rfl ?_|refine J2 rfl ?_|refine J3 rfl ?_|refine J4 rfl ?_|refine J1 rfl ?_|refine J6 rfl ?_|refine J7 rfl ?_|refine JJ rfl ?_|refine JK rfl ?_|refine JQ rfl ?_|refine JL rfl rfl ?_|refine JM rfl rfl ?_|refine JN rfl ?_|refine JO rfl ?_|refine JP rfl ?_))
  refine e_add (a := (i : Int)) (b := 1) rfl rfl (by omega) (by omega) ?_
  (repeat (first|(with_reducible first|refine Ja ?_|refine Jb ?_|refine Jc ?_|refine Jd ?_|refine Je ?_|refine Jf ?_|refine Jg ?_|refine Jh ?_|refine Ji ?_|refine Jj ?_|refine Jk rfl ?_|refine Jl ?_|refine Jm ?_|refine Jn ?_|refine Jo ?_|refine Jp ?_|refine Jq ?_)|refine JA rfl ?_|refine JB rfl ?_|refine JC rfl ?_|refine JD rfl ?_|refine JE rfl ?_|refine JF rfl ?_|refine JG rfl ?_|refine JH rfl ?_|refine JI rfl ?_|refine J2 rfl ?_|refine J3 rfl ?_|refine J4 rfl ?_|refine J1 rfl ?_|refine J6 rfl ?_|refine J7 rfl ?_|refine JJ rfl ?_|refine JK rfl ?_|refine JQ rfl ?_|refine JL rfl rfl ?_|refine JM rfl rfl ?_|refine JN rfl ?_|refine JO rfl ?_|refine JP rfl ?_))
  refine ⟨rfl, (i + 1, u.setD i (D.cut (ps.take n)), (if cp = n then ad else ad.map (·.add (n * 1))), cp - n, ps.drop n), ⟨rfl, rfl, rfl, rfl, ?_, trivial⟩, ⟨by simp only; omega, hset, ?_, hq, hbb, hcfg, by simp [Sh.setD, hl], by simp only [edr]; omega, by simp only [edr]; omega, ?_, hres, Sep.drop (L2 := [_]) S⟩, by simp only; omega⟩
  · simp only [edr]; rfl
  · intro x hx
    rcases List.mem_or_eq_of_mem_set (show x ∈ u.bays.set i (D.cut (ps.take n), ((u.bays[i]?).getD (D.cut (ps.take n), 0)).2) from hx) with h1 | h1
    · exact hwf x h1
    · rw [h1]; exact c4
  · have h9 := hFu.drop n cp
    rw [List.map_drop]
    rcases h9 with h9 | ⟨h9, h10⟩
    · exact h9
    · have : ps.drop n = [] := List.drop_eq_nil_of_le (by omega)
      rw [← List.map_drop, this]
      exact FSl.nil

end Go.Proofs.Ytgendpinmmmfjaa

/-
  The plain law: torn sectors; what a power failure leaves of a disk.
-/
namespace Dn
open Go

theorem take_take' (l : Sec) (a b : Nat) (h : a ≤ b) : (l.take b).take a = l.take a := by rw [List.take_take, Nat.min_eq_left h]
theorem seal_gen (p : Pl) (g : Gn) (s : Sec) : ((sealS p g s).drop 8).take 8 = gnB g := by rw [seal_cons]; rfl
theorem seal_trail {p : Pl} {g : Gn} {s : Sec} (hs : s.length ≤ 40) : (sealS p g s).drop 56 = gnB g := by
  have h16 : (sealS p g s).drop 16 = s ++ List.replicate (40 - s.length) 0 ++ gnB g := by rw [seal_cons]; rfl
  have hl : (s ++ List.replicate (40 - s.length) (0 : UInt8)).length = 40 := by simp; omega
  rw [show (56 : Nat) = 16 + 40 from rfl, ← List.drop_drop, h16, List.drop_left' hl]
theorem torn_split (p : Int) (s old : Sec) : torn p s old = s.take (clampP p) ++ old.drop (clampP p) := rfl

/-- a torn sector with a whole header: it is valid only if it is whole -/
theorem torn_new {p : Int} {q : Pl} {g : Gn} {s old : Sec} (hs : s.length ≤ 40) (ho : old.length = 64) (hk : 57 ≤ clampP p) (h : lblOK (torn p (sealS q g s) old)) : torn p (sealS q g s) old = sealS q g s := by
  have hl : (sealS q g s).length = 64 := sealS_len hs
  have hc := clamp_le p
  have htl : ((sealS q g s).take (clampP p)).length = clampP p := by simp [hl]; omega
  unfold lblOK at h
  have h4 := h.2.2.2
  rw [torn_split] at h4 ⊢
  have e1 : (((sealS q g s).take (clampP p) ++ old.drop (clampP p)).drop 8).take 8 = gnB g := by
    rw [List.drop_append_of_le_length (by omega), List.take_append_of_le_length (by simp [hl]; omega), List.drop_take, List.take_take, Nat.min_eq_left (by omega)]
    exact seal_gen q g s
  rw [e1] at h4
  have e2 : ((sealS q g s).take (clampP p) ++ old.drop (clampP p)).take 56 = (sealS q g s).take 56 := by
    rw [List.take_append_of_le_length (by omega), take_take' _ _ _ (by omega)]
  rw [← List.take_append_drop 56 ((sealS q g s).take (clampP p) ++ old.drop (clampP p)), e2, ← h4, ← seal_trail (p := q) (g := g) hs, List.take_append_drop]

theorem torn_same (p : Int) (s : Sec) : torn p s s = s := by unfold torn; exact List.take_append_drop _ _

/-! what a cut leaves -/
theorem GM.find_del {α : Type} {k k' : Int} : ∀ {l : List (Int × α × Nat)}, (l.map (·.1)).Nodup → GM.find k' (GM.del1 k l) = if k' = k then none else GM.find k' l := by
  intro l
  induction l with
  | nil => intro _; simp [GM.del1, GM.find]
  | cons e l ih =>
    intro hn
    simp only [List.map_cons, List.nodup_cons] at hn
    simp only [GM.del1]
    by_cases h1 : k = e.1
    · rw [if_pos h1]
      by_cases h2 : k' = k
      · rw [if_pos h2]
        refine GM.find_none fun x hx he => hn.1 ?_
        rw [← h1, ← h2, ← he]
        exact List.mem_map.2 ⟨x, hx, rfl⟩
      · rw [if_neg h2]
        simp only [GM.find]
        rw [if_neg (by rw [← h1]; exact h2)]
    · rw [if_neg h1]
      simp only [GM.find]
      by_cases h2 : k' = e.1
      · rw [if_pos h2, if_pos h2, if_neg (by rw [h2]; exact fun h => h1 h.symm)]
      · rw [if_neg h2, if_neg h2]
        exact ih hn.2

theorem cutRun_sec : ∀ (ks ps : List Int) (D : Dk), D.ok → D.wf → ks.Nodup → (∀ k ∈ ks, 0 ≤ k ∧ k < (D.dur.length : Int)) →
    (∀ j : Nat, (cutRun ks ps D).cache.get (j : Int) = if (j : Int) ∈ ks then none else D.cache.get (j : Int)) ∧
    ∀ j : Nat, (cutRun ks ps D).sec j = D.sec j ∨ ((j : Int) ∈ ks ∧ ∃ p, (cutRun ks ps D).sec j = torn p ((D.cache.get (j : Int)).getD zsec) (D.sec j)) := by
  intro ks
  induction ks with
  | nil => intro ps D h1 h2 hn h3; exact ⟨fun j => by simp [cutRun], fun j => .inl rfl⟩
  | cons k ks ih =>
    intro ps D h1 h2 hn h3
    have hk := h3 k (by simp)
    rw [List.nodup_cons] at hn
    have hget : ∀ j : Nat, (D.cache.del k).get (j : Int) = if (j : Int) = k then none else D.cache.get (j : Int) := fun j => GM.find_del h2.cache.keys
    have hcomb : ∀ j : Nat, (if (j : Int) ∈ ks then none else (D.cache.del k).get (j : Int)) = if (j : Int) ∈ k :: ks then none else D.cache.get (j : Int) := by
      intro j
      rw [hget]
      by_cases e1 : (j : Int) ∈ ks
      · rw [if_pos e1, if_pos (List.mem_cons_of_mem _ e1)]
      · by_cases e2 : (j : Int) = k
        · rw [if_neg e1, if_pos e2, if_pos (by rw [e2]; simp)]
        · rw [if_neg e1, if_neg e2, if_neg (by simp [e1, e2])]
    cases ps with
    | nil =>
      obtain ⟨a1, a2⟩ := ih [] { D with cache := D.cache.del k } ⟨h1.1, fun e he => h1.2 e (del_mem he)⟩ ⟨GM.del_wf h2.cache k, fun e he => h2.rng e (del_mem he)⟩ hn.2 (fun x hx => h3 x (by simp [hx]))
      refine ⟨fun j => (a1 j).trans (hcomb j), fun j => ?_⟩
      rcases a2 j with a2 | ⟨b1, p, b2⟩
      · exact .inl a2
      · right
        refine ⟨List.mem_cons_of_mem _ b1, p, ?_⟩
        have hne : ¬ (j : Int) = k := fun e => hn.1 (e ▸ b1)
        have e2 : ({ D with cache := D.cache.del k } : Dk).cache.get (j : Int) = D.cache.get (j : Int) := by
          show (D.cache.del k).get (j : Int) = _
          rw [hget, if_neg hne]
        rw [e2] at b2
        exact b2
    | cons p ps =>
      have hl : (D.dur.set k.toNat (torn p ((D.cache.get k).getD zsec) (D.sec k.toNat))).length = D.dur.length := by simp
      have ht : ((D.cache.get k).getD zsec).length = 64 := by
        cases hg : D.cache.get k with
        | none => rfl
        | some v => exact Dk.ok_get h1 hg
      obtain ⟨a1, a2⟩ := ih ps { D with dur := D.dur.set k.toNat (torn p ((D.cache.get k).getD zsec) (D.sec k.toNat)), cache := D.cache.del k }
        ⟨cut_step_ok h1 (by omega) p ht, fun e he => h1.2 e (del_mem he)⟩ ⟨GM.del_wf h2.cache k, fun e he => by rw [hl]; exact h2.rng e (del_mem he)⟩ hn.2 (fun x hx => by rw [hl]; exact h3 x (by simp [hx]))
      refine ⟨fun j => (a1 j).trans (hcomb j), fun j => ?_⟩
      have hsec : ∀ j : Nat, ({ D with dur := D.dur.set k.toNat (torn p ((D.cache.get k).getD zsec) (D.sec k.toNat)), cache := D.cache.del k } : Dk).sec j = if (j : Int) = k then torn p ((D.cache.get k).getD zsec) (D.sec j) else D.sec j := by
        intro j
        unfold Dk.sec
        simp only [List.getD_eq_getElem?_getD, List.getElem?_set]
        by_cases e : (j : Int) = k
        · have e' : k.toNat = j := by omega
          rw [if_pos e', if_pos e, if_pos (by omega), e']
          rfl
        · rw [if_neg (by omega), if_neg e]
      rcases a2 j with a2 | ⟨b1, p', b2⟩
      · rw [hsec] at a2
        by_cases e : (j : Int) = k
        · rw [if_pos e] at a2
          right
          exact ⟨by rw [e]; simp, p, by rw [e]; exact a2⟩
        · rw [if_neg e] at a2; exact .inl a2
      · have hne : ¬ (j : Int) = k := fun e => hn.1 (e ▸ b1)
        right
        refine ⟨List.mem_cons_of_mem _ b1, p', ?_⟩
        rw [hsec, if_neg hne] at b2
        have e2 : ({ D with dur := D.dur.set k.toNat (torn p ((D.cache.get k).getD zsec) (D.sec k.toNat)), cache := D.cache.del k } : Dk).cache.get (j : Int) = D.cache.get (j : Int) := by
          show (D.cache.del k).get (j : Int) = _
          rw [hget, if_neg hne]
        rw [e2] at b2
        exact b2

theorem pend_nodup {D : Dk} (h : D.wf) : D.pend.Nodup := by
  unfold Dk.pend sortI
  exact (List.mergeSort_perm (D.cache.es.map (·.1)) leI).nodup_iff.2 h.cache.keys
theorem find_some_mem {α : Type} {k : Int} : ∀ {l : List (Int × α × Nat)}, (∃ e ∈ l, e.1 = k) → ∃ v, GM.find k l = some v := by
  intro l
  induction l with
  | nil => rintro ⟨e, he, _⟩; simp at he
  | cons x l ih =>
    rintro ⟨e, he, hk⟩
    simp only [GM.find]
    by_cases h : k = x.1
    · exact ⟨_, by rw [if_pos h]⟩
    · rw [if_neg h]
      rcases List.mem_cons.1 he with rfl | he
      · exact absurd hk.symm h
      · exact ih ⟨e, he, hk⟩

/-- after a power failure a sector has its durable content, or a part of the pending one over it -/
theorem cut_read {D : Dk} (h1 : D.ok) (h2 : D.wf) (ps : List Int) (j : Nat) : (D.cut ps).read j = D.sec j ∨ ∃ p, (D.cut ps).read j = torn p (D.read j) (D.sec j) := by
  obtain ⟨a1, a2⟩ := cutRun_sec D.pend ps D h1 h2 (pend_nodup h2) (pend_rng h2)
  have hnone : (cutRun D.pend ps D).cache.get (j : Int) = none := by
    rw [a1]
    by_cases e : (j : Int) ∈ D.pend
    · rw [if_pos e]
    · rw [if_neg e]
      refine GM.find_none fun x hx hk => e ?_
      have : (j : Int) ∈ D.cache.es.map (·.1) := by rw [← hk]; exact List.mem_map.2 ⟨x, hx, rfl⟩
      exact (List.mergeSort_perm (D.cache.es.map (·.1)) leI).mem_iff.2 this
  have hr : (D.cut ps).read j = (cutRun D.pend ps D).sec j := by
    unfold Dk.read
    have e : (D.cut ps).cache = (cutRun D.pend ps D).cache := rfl
    rw [e, hnone]; rfl
  rw [hr]
  rcases a2 j with a2 | ⟨b1, p, b2⟩
  · exact .inl a2
  · right
    refine ⟨p, ?_⟩
    have hm := (List.mergeSort_perm (D.cache.es.map (·.1)) leI).mem_iff.1 b1
    obtain ⟨e, he, hk⟩ := List.mem_map.1 hm
    obtain ⟨v, hv⟩ := find_some_mem ⟨e, he, hk⟩
    have hv' : D.cache.get (j : Int) = some v := hv
    rw [b2, hv']
    unfold Dk.read
    rw [hv']
    rfl

/-! a shelf that is switched off and on -/
theorem mt_on : ∀ (k i : Nat) (ps : List Int) (s : Sh), s.std → s.wf → i + k = s.bays.length →
    (mtRun k i ps s).std ∧ (mtRun k i ps s).wf ∧ (mtRun k i ps s).cfg = s.cfg ∧ (mtRun k i ps s).q = s.q ∧ (mtRun k i ps s).bays.length = s.bays.length ∧
      ∀ d, ∃ qs, (mtRun k i ps s).dk d = if i ≤ d ∧ d < i + k then (s.dk d).cut qs else s.dk d := by
  intro k
  induction k with
  | zero =>
    intro i ps s h hw hk
    exact ⟨h, hw, rfl, rfl, rfl, fun d => ⟨[], by rw [if_neg (by omega)]; rfl⟩⟩
  | succ k ih =>
    intro i ps s h hw hk
    have hil : i < s.bays.length := by omega
    obtain ⟨st, hb⟩ := Go.Proofs.Ytgendpinmmmfjaa.dk_at (s := s) (d := i) hil
    have hm := List.mem_of_getElem? hb
    have hst := h.inn _ hm
    simp only at hst
    subst hst
    have hDok := h.ok.dks _ hm
    have hDwf := hw _ hm
    have hDsz := h.ok.szs _ hm
    simp only at hDok hDwf hDsz
    obtain ⟨n, hn⟩ : ∃ n, min (s.dk i).cache.es.length ps.length = n := ⟨_, rfl⟩
    obtain ⟨c1, c2, c3, c4, c5⟩ := cut_keep hDok hDwf (ps.take n)
    have hset := setD_ok h.ok (d := i) c3 (by rw [c2]; exact hDsz)
    have hstd := std_setD h hil c5 hset
    have hwf' : (s.setD i ((s.dk i).cut (ps.take n))).wf := by
      intro x hx
      rcases List.mem_or_eq_of_mem_set (show x ∈ s.bays.set i ((s.dk i).cut (ps.take n), ((s.bays[i]?).getD ((s.dk i).cut (ps.take n), 0)).2) from hx) with h1 | h1
      · exact hw x h1
      · rw [h1]; exact c4
    have e : mtRun (k + 1) i ps s = mtRun k (i + 1) (ps.drop n) (s.setD i ((s.dk i).cut (ps.take n))) := by
      simp only [mtRun, hb, Option.map_some, Option.getD_some, if_true, hn]
    rw [e]
    obtain ⟨a1, a2, a3, a4, a5, a6⟩ := ih (i + 1) (ps.drop n) _ hstd hwf' (by simp [Sh.setD]; omega)
    refine ⟨a1, a2, a3, a4, by rw [a5]; simp [Sh.setD], fun d => ?_⟩
    obtain ⟨qs, hqs⟩ := a6 d
    rw [dk_setD s hil] at hqs
    by_cases e1 : d = i
    · subst e1
      refine ⟨ps.take n, ?_⟩
      rw [hqs, if_neg (by omega), if_pos rfl, if_pos (by omega)]
    · refine ⟨qs, ?_⟩
      rw [hqs, if_neg e1]
      by_cases e2 : i + 1 ≤ d ∧ d < i + 1 + k
      · rw [if_pos e2, if_pos (by omega)]
      · rw [if_neg e2, if_neg (by omega)]

/-- what is durable of a sector -/
def Sh.dv (s : Sh) (d i : Int) : Sec := (s.dk d.toNat).sec i.toNat
theorem mount_vw {s : Sh} (h : s.std) (hw : s.wf) (ps : List Int) : (mountW s ps).on ∧ (mountW s ps).cfg = s.cfg ∧ (mountW s ps).q = s.q ∧
    ∀ d i, 0 ≤ d ∧ d < s.cfg.disks → 0 ≤ i → (mountW s ps).vw d i = s.dv d i ∨ ∃ p, (mountW s ps).vw d i = torn p (s.vw d i) (s.dv d i) := by
  obtain ⟨a1, a2, a3, a4, a5, a6⟩ := mt_on s.bays.length 0 ps s h hw (by omega)
  refine ⟨⟨⟨⟨a1.ok.cfg, a1.ok.len, fun hh => by simp [mountW] at hh, a1.ok.dks, a1.ok.szs⟩, a1.inn, a1.arm⟩, rfl⟩, a3, a4, fun d i hd hi => ?_⟩
  have hlen := h.ok.len
  obtain ⟨qs, hqs⟩ := a6 d.toNat
  rw [if_pos (by omega)] at hqs
  have hdk : (mountW s ps).dk d.toNat = (s.dk d.toNat).cut qs := hqs
  obtain ⟨st, hb⟩ := Go.Proofs.Ytgendpinmmmfjaa.dk_at (s := s) (d := d.toNat) (by omega)
  have hm := List.mem_of_getElem? hb
  have := cut_read (h.ok.dks _ hm) (hw _ hm) qs i.toNat
  unfold Sh.vw Sh.dv
  rw [hdk]
  exact this

end Dn

/-
  The plain law WalCrash.
-/
namespace Dn
open Go

theorem flush_readI {D : Dk} {i : Nat} (hi : i < D.dur.length) : D.flush.read i = D.read i := by
  unfold Dk.read Dk.sec
  have e1 : D.flush.cache.get (i : Int) = none := rfl
  rw [e1]
  have e2 : D.flush.dur[i]? = some ((GM.find (i : Int) D.cache.es).getD D.dur[i]) := flushD_get D.dur D.cache.es i hi
  simp only [Option.getD_none, List.getD_eq_getElem?_getD, e2, Option.getD_some, List.getElem?_eq_getElem hi]
  rfl

/-- the part that belongs into a sector of record q -/
def recE (l : List Sec) (q : Nat) (a : Nat) : Sec := sealS (plW 0 ((tailAt l q).next + a)) ⟨1, (q : Int) + 1⟩ (payB (tailAt l q) (l.getD q []) a)

/-- a shelf on whose first disk records are being appended: n of them are there, the last perhaps in part; the first of them are durable -/
structure Pre (s : Sh) (c : Cfg) (l : List Sec) (safe n : Nat) : Prop where
  std : s.std
  wf : s.wf
  cfg : s.cfg = c
  le : n ≤ l.length
  sle : safe ≤ n
  fits : ∀ q, q < n → (tailAt l q).ok ∧ (l.getD q []).length ≤ 4096 ∧ (tailAt l q).next + sizeW (l.getD q []).length ≤ c.logN
  parts : ∀ q, q < n → ∀ a, a < sizeW (l.getD q []).length → (s.vw 0 ((tailAt l q).next + a) = recE l q a ∨ s.vw 0 ((tailAt l q).next + a) = zsec) ∧ (s.dv 0 ((tailAt l q).next + a) = s.vw 0 ((tailAt l q).next + a) ∨ s.dv 0 ((tailAt l q).next + a) = zsec)
  safeE : ∀ q, q < safe → ∀ a, a < sizeW (l.getD q []).length → s.vw 0 ((tailAt l q).next + a) = recE l q a ∧ s.dv 0 ((tailAt l q).next + a) = recE l q a
  rest : ∀ j, (tailAt l n).next ≤ j → j < c.total → s.vw 0 j = zsec ∧ s.dv 0 j = zsec
/-- .. and the power is on, and all of them are whole -/
structure PreOn (s : Sh) (c : Cfg) (l : List Sec) (safe n : Nat) : Prop where
  pre : Pre s c l safe n
  off : s.off = false
  full : ∀ q, q < n → ∀ a, a < sizeW (l.getD q []).length → s.vw 0 ((tailAt l q).next + a) = recE l q a
  tok : (tailAt l n).ok

end Dn

/-
  The plain law WalMarks.
-/
namespace Dn
open Go

theorem leN_injM {a b : Sec} (hl : a.length = b.length) (h : leN a = leN b) : a = b := by
  rw [← leB_leN a, ← leB_leN b, h, hl]

/-- a sector torn over one of the same place -/
theorem torn_gen {p : Int} {q q' : Pl} {g g' : Gn} {s s' : Sec} (hs : s.length ≤ 40) (hs' : s'.length ≤ 40) (hg : (gnB g)[0]? ≠ (gnB g')[0]?) :
    torn p (sealS q g s) (sealS q g' s') = sealS q g s ∨ torn p (sealS q g s) (sealS q g' s') = sealS q g' s' ∨ opened q' (torn p (sealS q g s) (sealS q g' s')) = none := by
  by_cases h : lblOK (torn p (sealS q g s) (sealS q g' s'))
  case neg => right; right; unfold opened; rw [if_neg (fun hh => h hh.1)]
  have hl : (sealS q g s).length = 64 := sealS_len hs
  have hl' : (sealS q g' s').length = 64 := sealS_len hs'
  have hc := clamp_le p
  rcases Nat.lt_or_ge (clampP p) 57 with hk | hk
  case inr => exact .inl (torn_new hs hl' hk h)
  have hX : ∀ i, (torn p (sealS q g s) (sealS q g' s'))[i]? = if i < clampP p then (sealS q g s)[i]? else (sealS q g' s')[i]? := by
    intro i
    rw [torn_split]
    have htl : ((sealS q g s).take (clampP p)).length = clampP p := by simp [hl]; omega
    by_cases e : i < clampP p
    · rw [if_pos e, List.getElem?_append_left (by omega), List.getElem?_take_of_lt e]
    · rw [if_neg e, List.getElem?_append_right (by omega), htl, List.getElem?_drop]
      congr 1; omega
  obtain ⟨X, hXe⟩ : ∃ X, torn p (sealS q g s) (sealS q g' s') = X := ⟨_, rfl⟩
  rw [hXe] at h hX ⊢
  unfold lblOK at h
  obtain ⟨h1, h2, h3, h4⟩ := h
  rcases Nat.lt_or_ge 8 (clampP p) with hk8 | hk8
  · -- the generations differ
    exfalso
    have e1 : X[8]? = X[56]? := by
      have := congrArg (fun l : Sec => l[0]?) h4
      simp only [List.getElem?_take_of_lt (show 0 < 8 by omega), List.getElem?_drop] at this
      exact this
    have e2 : (sealS q g s)[8]? = (gnB g)[0]? := by
      have := congrArg (fun l : Sec => l[0]?) (seal_gen q g s)
      simp only [List.getElem?_take_of_lt (show 0 < 8 by omega), List.getElem?_drop] at this
      exact this
    have e3 : (sealS q g' s')[56]? = (gnB g')[0]? := by
      have := congrArg (fun l : Sec => l[0]?) (seal_trail (p := q) (g := g') hs')
      simp only [List.getElem?_drop] at this
      exact this
    rw [hX, hX, if_pos hk8, if_neg (by omega), e2, e3] at e1
    exact hg e1
  · -- only the checksum
    right; left
    have h48 : ((sealS q g s).drop 4).take 4 = ((sealS q g' s').drop 4).take 4 := by rw [seal_cons, seal_cons]; rfl
    have hd : X.drop 4 = (sealS q g' s').drop 4 := by
      apply List.ext_getElem?
      intro i
      rw [List.getElem?_drop, List.getElem?_drop, hX]
      by_cases e : 4 + i < clampP p
      · rw [if_pos e]
        have := congrArg (fun l : Sec => l[i]?) h48
        simp only [List.getElem?_take_of_lt (show i < 4 by omega), List.getElem?_drop] at this
        exact this
      · rw [if_neg e]
    have hXl : X.length = 64 := by
      have := congrArg List.length hXe
      rw [torn_len hl hl'] at this
      exact this.symm
    have ht : X.take 4 = (sealS q g' s').take 4 := by
      refine leN_injM (by simp [hXl, hl']) ?_
      rw [h1, hd]
      have e1 : (sealS q g' s').drop 4 = sealB q g' s' := by unfold sealS; rw [List.drop_left' (by simp)]
      have e2 : (sealS q g' s').take 4 = leB 4 (crcOf (sealB q g' s')).toNat := by unfold sealS; rw [List.take_left' (by simp)]
      rw [e1, e2, leN_leB 4 _ (crcOf (sealB q g' s')).isLt]
    rw [← List.take_append_drop 4 X, ht, hd, List.take_append_drop]

/-- the register of a mark, and what belongs there -/
def mkI (n : Nat) : Int := 3 - ((n % 3 : Nat) : Int)
def mkS (n : Nat) : Sec := sealS (plW 0 (mkI n)) ⟨(n : Int), 0⟩ []
theorem mkI_rng (n : Nat) : 1 ≤ mkI n ∧ mkI n ≤ 3 := by unfold mkI; omega
theorem mkI_back (n : Nat) : mkI (n + 3) = mkI n := by unfold mkI; omega
theorem mkS_len (n : Nat) : (mkS n).length = 64 := sealS_len (by simp)
theorem mk_opened {n : Nat} (h1 : 1 ≤ n) (h2 : n < 4294967296) : opened (plW 0 (mkI n)) (mkS n) = some (⟨(n : Int), 0⟩, List.replicate 40 0) := by
  have := mkI_rng n
  refine opened_seal ?_ ?_ (by simp)
  · unfold Pl.ok plW; simp only; omega
  · unfold Gn.ok Gn.ok0; simp only; omega
theorem mk_torn {n : Nat} (p : Int) : torn p (mkS (n + 3)) (mkS n) = mkS (n + 3) ∨ torn p (mkS (n + 3)) (mkS n) = mkS n ∨ opened (plW 0 (mkI n)) (torn p (mkS (n + 3)) (mkS n)) = none := by
  unfold mkS
  rw [mkI_back]
  refine torn_gen (by simp) (by simp) ?_
  intro h
  have h : some (UInt8.ofNat (n + 3)) = some (UInt8.ofNat n) := h
  have := congrArg UInt8.toNat (Option.some.inj h)
  simp at this
  omega

/-- the power is on, the marks before the n-th, from lo on, are durable in their registers -/
structure Mk (s : Sh) (c : Cfg) (lo n : Nat) : Prop where
  std : s.std
  wf : s.wf
  cfg : s.cfg = c
  off : s.off = false
  rg : ∀ q, lo ≤ q → q < n → n ≤ q + 3 → s.vw 0 (mkI q) = mkS q ∧ s.dv 0 (mkI q) = mkS q
/-- the n-th one is perhaps there -/
structure MkP (s : Sh) (c : Cfg) (n : Nat) : Prop where
  std : s.std
  wf : s.wf
  cfg : s.cfg = c
  r1 : s.vw 0 (mkI (n + 2)) = mkS (n + 2) ∧ s.dv 0 (mkI (n + 2)) = mkS (n + 2)
  r2 : s.vw 0 (mkI (n + 1)) = mkS (n + 1) ∧ s.dv 0 (mkI (n + 1)) = mkS (n + 1)
  r3 : s.dv 0 (mkI n) = mkS n ∧ (s.vw 0 (mkI n) = mkS n ∨ s.vw 0 (mkI n) = mkS (n + 3))
theorem Mk.p {s : Sh} {c : Cfg} {lo n : Nat} (h : Mk s c lo (n + 3)) (hl : lo ≤ n) : MkP s c n :=
  ⟨h.std, h.wf, h.cfg, h.rg (n + 2) (by omega) (by omega) (by omega), h.rg (n + 1) (by omega) (by omega) (by omega), (h.rg n hl (by omega) (by omega)).2, .inl (h.rg n hl (by omega) (by omega)).1⟩

/-- a step of the first disk: the power fails, and nothing is done, or it is executed -/
theorem step0 {s : Sh} (h : s.std) (ho : s.off = false) (hd0 : 1 ≤ s.cfg.disks) (D : Dk) :
    (s.stepE 0 ≠ 0 ∧ s.fused = true ∧ s.stepS 0 D = { s with off := true, fused := false }) ∨
    (s.stepE 0 = 0 ∧ (s.stepS 0 D).off = false ∧ (s.stepS 0 D).fused = s.fused ∧ (s.stepS 0 D).bays = (s.setD 0 D).bays ∧ ∀ d, (s.stepS 0 D).dk d = if d = 0 then D else s.dk d) := by
  have hd0' : 0 ≤ (0 : Int) ∧ 0 < s.cfg.disks := by omega
  have hacc := h.acc hd0'
  rw [ho] at hacc
  have hacc0 : s.acc 0 = 0 := hacc
  have hbl : 0 < s.bays.length := by have := h.ok.len; omega
  unfold Sh.stepE
  rw [hacc0, if_neg (by simp)]
  by_cases hf : s.fused = true ∧ s.left = 0
  · rw [if_pos hf]
    left
    refine ⟨by simp, hf.1, ?_⟩
    unfold Sh.stepS
    rw [hacc0, if_neg (by simp), if_pos hf.1, if_pos hf.2]
  · rw [if_neg hf]
    right
    unfold Sh.stepS
    rw [hacc0, if_neg (by simp)]
    by_cases hfu : s.fused = true
    · rw [if_pos hfu, if_neg (fun hz => hf ⟨hfu, hz⟩)]
      exact ⟨rfl, ho, rfl, rfl, fun d => dk_setD s hbl D d⟩
    · rw [if_neg hfu]
      exact ⟨rfl, ho, rfl, rfl, fun d => dk_setD s hbl D d⟩

theorem dark_std {s : Sh} (h : s.std) (hok : ({ s with off := true, fused := false } : Sh).ok) : ({ s with off := true, fused := false } : Sh).std := ⟨hok, h.inn, h.arm⟩

/-- a flush of the first disk -/
theorem flush0 {s : Sh} (h : s.std) (hw : s.wf) (ho : s.off = false) (hd0 : 1 ≤ s.cfg.disks) :
    (s.flS 0).std ∧ (s.flS 0).wf ∧ (s.flS 0).cfg = s.cfg ∧ (s.flS 0).q = s.q ∧
    ((s.flE 0 ≠ 0 ∧ s.fused = true ∧ ∀ j, (s.flS 0).vw 0 j = s.vw 0 j ∧ (s.flS 0).dv 0 j = s.dv 0 j) ∨
     (s.flE 0 = 0 ∧ (s.flS 0).off = false ∧ (s.flS 0).fused = s.fused ∧ ∀ j, 0 ≤ j → j < s.cfg.total → (s.flS 0).vw 0 j = s.vw 0 j ∧ (s.flS 0).dv 0 j = s.vw 0 j)) := by
  have hd0' : 0 ≤ (0 : Int) ∧ 0 < s.cfg.disks := by omega
  have hst := h.state hd0'
  have hfo := Go.Proofs.Ytgendpinmmmfjaa.fl_ok h.ok hw 0
  obtain ⟨D, hb, hD, hA⟩ := h.bays hd0'
  have hb : s.bays[(0 : Nat)]? = some (D, 1) := hb
  have hD : s.dk 0 = D := hD
  have hm := List.mem_of_getElem? hb
  have hsz := h.ok.szs _ hm
  simp only at hsz
  have h1 := step0 h ho hd0 (s.dk 0).flush
  have eE : s.flE 0 = s.stepE 0 := by unfold Sh.flE; rw [hst, if_neg (by decide)]; rfl
  have eS : s.flS 0 = s.stepS 0 (s.dk 0).flush := by unfold Sh.flS; rw [hst, if_neg (by decide)]; rfl
  rw [← eE, ← eS] at h1
  have e0 : (0 : Int).toNat = 0 := rfl
  rcases h1 with ⟨k1, k2, k3⟩ | ⟨k1, k2, k3, k4, k5⟩
  · have hst2 : (s.flS 0).std := by
      rw [k3]; exact dark_std h (by rw [← k3]; exact hfo.1)
    refine ⟨hst2, hfo.2.1, hfo.2.2.2.2.2.2, hfo.2.2.1, .inl ⟨k1, k2, fun j => ?_⟩⟩
    rw [k3]; exact ⟨rfl, rfl⟩
  · have hst2 : (s.flS 0).std := by
      refine ⟨hfo.1, fun b hb' => ?_, fun b hb' => ?_⟩
      · rw [k4] at hb'
        rcases List.mem_or_eq_of_mem_set (show b ∈ s.bays.set 0 ((s.dk 0).flush, ((s.bays[(0 : Nat)]?).getD ((s.dk 0).flush, 0)).2) from hb') with h1 | h1
        · exact h.inn b h1
        · rw [h1, hb]; rfl
      · rw [k4] at hb'
        rcases List.mem_or_eq_of_mem_set (show b ∈ s.bays.set 0 ((s.dk 0).flush, ((s.bays[(0 : Nat)]?).getD ((s.dk 0).flush, 0)).2) from hb') with h1 | h1
        · exact h.arm b h1
        · rw [h1, hD]; exact hA
    refine ⟨hst2, hfo.2.1, hfo.2.2.2.2.2.2, hfo.2.2.1, .inr ⟨k1, k2, k3, fun j h1 h2 => ?_⟩⟩
    have hv : (s.flS 0).vw 0 j = s.vw 0 j := by
      unfold Sh.vw
      rw [e0, k5, if_pos rfl, hD]
      exact flush_readI (by omega)
    refine ⟨hv, ?_⟩
    rw [← hv]
    unfold Sh.vw Sh.dv
    rw [e0, k5, if_pos rfl, hD]
    unfold Dk.read
    have : D.flush.cache.get (j.toNat : Int) = none := rfl
    rw [this]; rfl

/-- a write to the first disk's log -/
theorem write0 {s : Sh} (h : s.std) (hw : s.wf) (ho : s.off = false) (hd0 : 1 ≤ s.cfg.disks) {i : Int} {t : Sec} (hi : 0 ≤ i ∧ i < s.cfg.log) (ht : t.length = 64) :
    (s.wrS (plW 0 i) t).std ∧ (s.wrS (plW 0 i) t).wf ∧ (s.wrS (plW 0 i) t).cfg = s.cfg ∧ (s.wrS (plW 0 i) t).q = s.q ∧
    ((s.wrE (plW 0 i) t ≠ 0 ∧ s.fused = true ∧ ∀ j, (s.wrS (plW 0 i) t).vw 0 j = s.vw 0 j ∧ (s.wrS (plW 0 i) t).dv 0 j = s.dv 0 j) ∨
     (s.wrE (plW 0 i) t = 0 ∧ (s.wrS (plW 0 i) t).off = false ∧ (s.wrS (plW 0 i) t).fused = s.fused ∧ ∀ j, 0 ≤ j → (s.wrS (plW 0 i) t).vw 0 j = (if j = i then t else s.vw 0 j) ∧ (s.wrS (plW 0 i) t).dv 0 j = s.dv 0 j)) := by
  have hd0' : 0 ≤ (0 : Int) ∧ 0 < s.cfg.disks := by omega
  obtain ⟨e1, e2⟩ := h.wr hd0' hi ht
  have hok := Go.Proofs.Ytgendpinmmmfjaa.wr_ok h.ok (plW 0 i) t
  have hwf := h.wr_wf hw hd0' hi ht
  have e0 : (0 : Int).toNat = 0 := rfl
  rcases step0 h ho hd0 ((s.dk 0).putC i t) with ⟨k1, k2, k3⟩ | ⟨k1, k2, k3, k4, k5⟩
  · have e3 : s.wrS (plW 0 i) t = { s with off := true, fused := false } := e2.trans k3
    have hst2 : (s.wrS (plW 0 i) t).std := by
      rw [e3]; exact dark_std h (by rw [← e3]; exact hok.1)
    refine ⟨hst2, hwf, hok.2.1, hok.2.2, .inl ⟨by rw [e1]; exact k1, k2, fun j => ?_⟩⟩
    rw [e3]; exact ⟨rfl, rfl⟩
  · have hE : s.wrE (plW 0 i) t = 0 := e1.trans k1
    obtain ⟨a1, a2, a3, a4, a5, a6, a7, a8⟩ := h.wrOK hd0' hi ht hE
    refine ⟨a1, hwf, a2, hok.2.2, .inr ⟨hE, a4, a5, fun j hj => ?_⟩⟩
    unfold Sh.vw Sh.dv
    rw [a8, if_pos rfl]
    refine ⟨putC_read _ hi.1 hj t, rfl⟩

/-- a mark and its flush -/
theorem mk_step {s : Sh} {c : Cfg} {lo n : Nat} (hdk : 1 ≤ c.disks) (hlog : c.log = 4) (hct : 4 ≤ c.total) (h : Mk s c lo n) :
    let u := s.wrS (plW 0 (mkI n)) (mkS n)
    u.std ∧ u.wf ∧ u.q = s.q ∧ (u.flS 0).q = s.q ∧
    ((s.wrE (plW 0 (mkI n)) (mkS n) ≠ 0 ∧ s.fused = true ∧ (∀ k, n = k + 3 → lo ≤ k → MkP u c k)) ∨
     (s.wrE (plW 0 (mkI n)) (mkS n) = 0 ∧ u.flE 0 ≠ 0 ∧ s.fused = true ∧ (∀ k, n = k + 3 → lo ≤ k → MkP (u.flS 0) c k)) ∨
     (s.wrE (plW 0 (mkI n)) (mkS n) = 0 ∧ u.flE 0 = 0 ∧ (u.flS 0).fused = s.fused ∧ Mk (u.flS 0) c lo (n + 1))) := by
  intro u
  have hr := mkI_rng n
  have hr' : ∀ q, 0 ≤ mkI q ∧ mkI q < c.total := fun q => by have := mkI_rng q; omega
  obtain ⟨a1, a2, a3, a4, a5⟩ := write0 (t := mkS n) h.std h.wf h.off (by rw [h.cfg]; exact hdk) (i := mkI n) (by rw [h.cfg, hlog]; omega) (mkS_len n)
  rcases a5 with ⟨b1, b2, b3⟩ | ⟨b1, b2, b3, b4⟩
  · -- the power fails in the write
    have hq : (u.flS 0).q = s.q := (Go.Proofs.Ytgendpinmmmfjaa.fl_ok a1.ok a2 0).2.2.1.trans a4
    refine ⟨a1, a2, a4, hq, .inl ⟨b1, b2, fun k hk hl => ?_⟩⟩
    subst hk
    have hp := h.p hl
    have hv : ∀ j, u.vw 0 j = s.vw 0 j ∧ u.dv 0 j = s.dv 0 j := b3
    refine ⟨a1, a2, a3.trans h.cfg, ?_, ?_, ?_⟩
    · rw [(hv _).1, (hv _).2]; exact hp.r1
    · rw [(hv _).1, (hv _).2]; exact hp.r2
    · rw [(hv _).1, (hv _).2]; exact hp.r3
  have hv : ∀ j, 0 ≤ j → u.vw 0 j = (if j = mkI n then mkS n else s.vw 0 j) ∧ u.dv 0 j = s.dv 0 j := b4
  obtain ⟨d1, d2, d3, d4, d5⟩ := flush0 (s := u) a1 a2 b2 (by rw [a3, h.cfg]; exact hdk)
  refine ⟨a1, a2, a4, d4.trans a4, .inr ?_⟩
  have hcu : u.cfg = c := a3.trans h.cfg
  rcases d5 with ⟨f1, f2, f3⟩ | ⟨f1, f2, f3, f4⟩
  · left
    refine ⟨b1, f1, b3 ▸ f2, fun k hk hl => ?_⟩
    subst hk
    have hp := h.p hl
    have n1 : mkI (k + 2) ≠ mkI (k + 3) := by unfold mkI; omega
    have n2 : mkI (k + 1) ≠ mkI (k + 3) := by unfold mkI; omega
    refine ⟨d1, d2, d3.trans hcu, ?_, ?_, ?_⟩
    · rw [(f3 _).1, (f3 _).2, (hv _ (hr' _).1).1, (hv _ (hr' _).1).2, if_neg n1]; exact hp.r1
    · rw [(f3 _).1, (f3 _).2, (hv _ (hr' _).1).1, (hv _ (hr' _).1).2, if_neg n2]; exact hp.r2
    · rw [(f3 _).1, (f3 _).2, (hv _ (hr' _).1).1, (hv _ (hr' _).1).2, if_pos (mkI_back k).symm]; exact ⟨hp.r3.1, .inr rfl⟩
  · right
    refine ⟨b1, f1, f3.trans b3, d1, d2, d3.trans hcu, f2, fun q h1 h2 h3 => ?_⟩
    obtain ⟨g1, g2⟩ := f4 (mkI q) (hr' q).1 (by rw [hcu]; exact (hr' q).2)
    rw [g1, g2, (hv _ (hr' _).1).1]
    by_cases e : q = n
    · subst e; rw [if_pos rfl]; exact ⟨rfl, rfl⟩
    · have hne : mkI q ≠ mkI n := by
        have : n ≤ q + 2 := by omega
        unfold mkI; omega
      rw [if_neg hne]
      exact ⟨(h.rg q h1 (by omega) (by omega)).1, (h.rg q h1 (by omega) (by omega)).1⟩

/-! what Marked makes of the registers -/
def mkF (o : Option (Gn × Sec)) (r : Int × Int) : Int × Int :=
  match o with
  | none => r
  | some (g, _) => (if g.epoch > r.1 then g.epoch else r.1, if g.epoch.tmod 2 = 1 then (if g.epoch > r.2 then g.epoch else r.2) else r.2)
def mrkRun (u : Sh) (d : Int) : Nat → Int → Int × Int → Int × Int
  | 0, _, r => r
  | k + 1, i, r => mrkRun u d k (i + 1) (mkF (opened (plW d i) (u.vw d i)) r)

theorem mk_tmod (n : Nat) : ((n : Int).tmod 2 = 1) = (n % 2 = 1) := by
  have : (n : Int).tmod 2 = ((n % 2 : Nat) : Int) := rfl
  rw [this]
  exact propext ⟨fun h => by omega, fun h => by omega⟩

set_option maxHeartbeats 4000000 in
/-- after the power failure -/
theorem mk_mount {s : Sh} {c : Cfg} {n : Nat} (hdk : 1 ≤ c.disks) (hn : 1 ≤ n) (hn2 : n + 3 < 4294967296) (h : MkP s c n) (ps : List Int) :
    (mountW s ps).on ∧ (mountW s ps).cfg = c ∧ (mountW s ps).q = s.q ∧ ∃ m : Nat, (m = n + 2 ∨ m = n + 3) ∧ mrkRun (mountW s ps) 0 3 1 (0, 0) = ((m : Int), (m : Int) - 1 + ((m % 2 : Nat) : Int)) := by
  obtain ⟨m1, m2, m3, m4⟩ := mount_vw h.std h.wf ps
  refine ⟨m1, m2.trans h.cfg, m3, ?_⟩
  obtain ⟨u, hu⟩ : ∃ u, mountW s ps = u := ⟨_, rfl⟩
  rw [hu] at m4 ⊢
  have hd0s : 0 ≤ (0 : Int) ∧ 0 < s.cfg.disks := by rw [h.cfg]; omega
  have r1 := mkI_rng n
  have r2 := mkI_rng (n + 1)
  have r3 := mkI_rng (n + 2)
  have v2 : u.vw 0 (mkI (n + 2)) = mkS (n + 2) := by
    rcases m4 0 (mkI (n + 2)) hd0s (by omega) with e | ⟨p, e⟩
    · rw [e]; exact h.r1.2
    · rw [e, h.r1.1, h.r1.2, torn_same]
  have v1 : u.vw 0 (mkI (n + 1)) = mkS (n + 1) := by
    rcases m4 0 (mkI (n + 1)) hd0s (by omega) with e | ⟨p, e⟩
    · rw [e]; exact h.r2.2
    · rw [e, h.r2.1, h.r2.2, torn_same]
  have v0 : u.vw 0 (mkI n) = mkS n ∨ u.vw 0 (mkI n) = mkS (n + 3) ∨ opened (plW 0 (mkI n)) (u.vw 0 (mkI n)) = none := by
    rcases m4 0 (mkI n) hd0s (by omega) with e | ⟨p, e⟩
    · rw [e]; exact .inl h.r3.1
    · rw [e, h.r3.1]
      rcases h.r3.2 with e2 | e2
      · rw [e2, torn_same]; exact .inl rfl
      · rw [e2]
        rcases mk_torn (n := n) p with e3 | e3 | e3
        · exact .inr (.inl e3)
        · exact .inl e3
        · exact .inr (.inr e3)
  have o2 : opened (plW 0 (mkI (n + 2))) (u.vw 0 (mkI (n + 2))) = some (⟨((n + 2 : Nat) : Int), 0⟩, List.replicate 40 0) := by rw [v2]; exact mk_opened (by omega) (by omega)
  have o1 : opened (plW 0 (mkI (n + 1))) (u.vw 0 (mkI (n + 1))) = some (⟨((n + 1 : Nat) : Int), 0⟩, List.replicate 40 0) := by rw [v1]; exact mk_opened (by omega) (by omega)
  have o0 : opened (plW 0 (mkI n)) (u.vw 0 (mkI n)) = some (⟨((n : Nat) : Int), 0⟩, List.replicate 40 0) ∨ opened (plW 0 (mkI n)) (u.vw 0 (mkI n)) = some (⟨((n + 3 : Nat) : Int), 0⟩, List.replicate 40 0) ∨ opened (plW 0 (mkI n)) (u.vw 0 (mkI n)) = none := by
    rcases v0 with e | e | e
    · left; rw [e]; exact mk_opened (by omega) (by omega)
    · right; left; rw [e, ← mkI_back]; exact mk_opened (by omega) (by omega)
    · exact .inr (.inr e)
  simp only [mrkRun]
  have e123 : (1 : Int) + 1 = 2 ∧ (2 : Int) + 1 = 3 := by omega
  rw [e123.1, e123.2]
  have hcase : (mkI n = 3 ∧ mkI (n + 1) = 2 ∧ mkI (n + 2) = 1) ∨ (mkI n = 2 ∧ mkI (n + 1) = 1 ∧ mkI (n + 2) = 3) ∨ (mkI n = 1 ∧ mkI (n + 1) = 3 ∧ mkI (n + 2) = 2) := by unfold mkI; omega
  rcases o0 with o0 | o0 | o0
  · refine ⟨n + 2, .inl rfl, ?_⟩
    rcases hcase with ⟨c0, c1, c2⟩ | ⟨c0, c1, c2⟩ | ⟨c0, c1, c2⟩ <;>
    · rw [c0] at o0; rw [c1] at o1; rw [c2] at o2
      rw [o0, o1, o2]
      simp only [mkF, mk_tmod]
      refine Prod.ext ?_ ?_ <;> simp only <;> (repeat' split) <;> omega
  · refine ⟨n + 3, .inr rfl, ?_⟩
    rcases hcase with ⟨c0, c1, c2⟩ | ⟨c0, c1, c2⟩ | ⟨c0, c1, c2⟩ <;>
    · rw [c0] at o0; rw [c1] at o1; rw [c2] at o2
      rw [o0, o1, o2]
      simp only [mkF, mk_tmod]
      refine Prod.ext ?_ ?_ <;> simp only <;> (repeat' split) <;> omega
  · refine ⟨n + 2, .inl rfl, ?_⟩
    rcases hcase with ⟨c0, c1, c2⟩ | ⟨c0, c1, c2⟩ | ⟨c0, c1, c2⟩ <;>
    · rw [c0] at o0; rw [c1] at o1; rw [c2] at o2
      rw [o0, o1, o2]
      simp only [mkF, mk_tmod]
      refine Prod.ext ?_ ?_ <;> simp only <;> (repeat' split) <;> omega

end Dn

/-
  Mark and Marked on a law's shelf.
-/
namespace Dn
open Go
theorem markW_eq {s : Sh} {n : Nat} (hs : s.ok) (h1 : 1 ≤ n) (h2 : n < 4294967296) (h3 : s.cfg.log = 4) :
    markW s 0 (n : Int) = (s.wrE (plW 0 (mkI n)) (mkS n), s.wrS (plW 0 (mkI n)) (mkS n)) := by
  have hc := hs.cfg
  unfold Cfg.ok at hc
  have e : markP s 0 (n : Int) = plW 0 (mkI n) := by
    unfold markP plW mkI
    have : ((n : Int).tmod 3) = ((n % 3 : Nat) : Int) := rfl
    rw [h3, this]
    congr 1
  unfold markW mkS
  rw [if_pos (by unfold markOK; omega), e]
theorem markedW_eq {u : Sh} (h : u.on) (hd : 1 ≤ u.cfg.disks) (h3 : u.cfg.log = 4) : markedW u 0 = ((mrkRun u 0 3 1 (0, 0)).1, (mrkRun u 0 3 1 (0, 0)).2, 0) := by
  have hN : u.cfg.logN = 1 := by unfold Cfg.logN; rw [h3]; rfl
  unfold markedW
  rw [if_neg (by omega), if_pos (by omega), hN]
  have key : ∀ (k : Nat) (i la od : Int), 0 ≤ i → i + k ≤ 4 → mkdRun u 0 k i la od = ((mrkRun u 0 k i (la, od)).1, (mrkRun u 0 k i (la, od)).2, 0) := by
    intro k
    induction k with
    | zero => intro i la od _ _; rfl
    | succ k ih =>
      intro i la od h1 h2
      simp only [mkdRun, mrkRun]
      rw [h.std.rd ⟨Int.le_refl 0, by omega⟩ ⟨h1, by omega⟩ h.off]
      rw [if_neg (by simp)]
      cases ho : opened (plW 0 i) (u.vw 0 i) with
      | none => simp only [mkF]; exact ih _ _ _ (by omega) (by omega)
      | some x =>
        obtain ⟨g, p⟩ := x
        simp only [mkF]
        rw [ih _ _ _ (by omega) (by omega)]
        rfl
  exact key 3 1 0 0 (by omega) (by omega)
end Dn

/-
  From a walk's contract to what a row asks; a list of strings, as the row reads it.
-/
namespace Dn
open Go Go.ChangeShapes Go.WideShapes Go.RowKit

def frameOf (W : World) : Fr := ⟨W.os, W.tape, W.output, fun b => W.heap[b]?⟩
theorem sep_frame (W : World) : Sep W [] (frameOf W) := ⟨rfl, rfl, rfl, List.nodup_nil, fun b o h => by simp at h, fun b o h => h, fun b o h => by simp at h⟩
theorem below_frame {W w' : World} {L : List (Nat × Obj)} (S : Sep w' L (frameOf W)) : Below W.heap.size W w' := by
  refine ⟨S.os, S.tape, S.out, ?_, fun k hk => ?_⟩
  · rcases Nat.eq_zero_or_pos W.heap.size with h | h
    · omega
    · have hlt : W.heap.size - 1 < W.heap.size := by omega
      have := S.fr (W.heap.size - 1) W.heap[W.heap.size - 1] (Array.getElem?_eq_getElem hlt)
      have := (Array.getElem?_eq_some_iff.1 this).1
      omega
  · have := S.fr k W.heap[k] (Array.getElem?_eq_getElem hk)
    rw [this, Array.getElem?_eq_getElem hk]

theorem calls_of {P : Program} {f : FuncId} {args : List Value} {Φ : Fr → Prop} {u : Value} (h : DSpecF P f args [] Φ fun v _ => v = u) {W : World} (hΦ : Φ (frameOf W)) :
    Calls P f ⟨args⟩ W fun e w' => e = .returned u ∧ Below W.heap.size W w' :=
  Calls.mono (h W (frameOf W) hΦ (sep_frame W)) fun e w' ⟨v, he, L', hv, S⟩ => ⟨by rw [he, hv], below_frame S⟩

theorem fcell_of {W : World} {a : Addr} {v : Value} (h : W.cell? a = some v) : a = ⟨a.block, a.off, none⟩ ∧ FCell (frameOf W) a.block a.off v := by
  unfold World.cell? at h
  split at h
  · rename_i c ty fr hb
    split at h
    · simp at h
    · rename_i hs
      obtain ⟨b, off, spot⟩ := a
      have : spot = none := by simpa using hs
      subst this
      refine ⟨rfl, c.toList, ty, fr, hb, by simpa using h⟩
  · simp at h

end Dn

/-
  Slices of ints and of bools, as the row reads them.
-/
namespace Dn
open Go Go.ChangeShapes Go.WideShapes Go.RowKit

theorem open_slF {H α : Type} {enc : TypeId × Value → H} {P : Program} {W : World} {held : Bool} {t e : TypeId} {a : Option Addr} {len cap : Nat} {d : DataW H} {ps : List MemPlace} {ts : List TypeId} {ds : List (DataW H)} {j : Nat} (f : α → Value)
    (ht : P.underlying t = some (.slice e)) (one : ∀ n cs y, DataW.trod enc P W 0 (fun _ => true) held n e cs = some y → ∃ x, cs = [f x]) (hc : P.cellsOf e = 1) (hby : 1 ≤ P.bytesOf e) (h : DataW.Trod enc P W 0 (fun _ => true) held t (.slice a len cap) d ps)
    (hsz : (DataW.weightsEach P ts ds).all (· ≤ reachBytes) = true) (hj : ts[j]? = some t) (hd : ds[j]? = some d) :
    ∃ l : List α, l.length = len ∧ len ≤ cap ∧ l.length < 140737488355328 ∧ FSl (frameOf W) a (l.map f) := by
  obtain ⟨fuel, hf⟩ := h
  rcases DataW.trod_slice ht hf with ⟨hcs, _⟩ | ⟨x, ln, cp, elems, rest, n, _, hcs, hx, _, hl, hm, hlen, hel, _, _⟩
  · simp [Value.cells] at hcs
    obtain ⟨rfl, rfl, rfl⟩ := hcs
    exact ⟨[], rfl, Nat.le_refl _, by simp, FSl.nil⟩
  · simp [Value.cells] at hcs
    obtain ⟨rfl, rfl, rfl⟩ := hcs
    have hd' := congrArg Prod.fst hx
    simp only at hd'
    rw [hd'] at hd
    have hlt := reachBytes_lt
    have h1 := sized_slice hsz hj hd ht
    simp only [List.length_map] at h1
    have hcell : ∀ i, i < len → ∃ y, W.cell? (x.add i) = some (f y) := by
      intro i hi
      have h2 := hel i hi
      rw [List.getElem?_eq_getElem (by omega), hc, Nat.mul_one, Option.bind_eq_some_iff] at h2
      obtain ⟨cs', hcs, hy'⟩ := h2
      obtain ⟨y, rfl⟩ := one _ _ _ hy'
      exact ⟨y, cell_of_cells?_one hcs⟩
    have hlist : ∀ k, k ≤ len → ∃ l : List α, l.length = k ∧ ∀ i y, l[i]? = some y → W.cell? (x.add i) = some (f y) := by
      intro k
      induction k with
      | zero => intro _; exact ⟨[], rfl, fun i y h => by simp at h⟩
      | succ k ih =>
        intro hk
        obtain ⟨l, h1, h2⟩ := ih (by omega)
        obtain ⟨y, hy⟩ := hcell k (by omega)
        refine ⟨l ++ [y], by simp [h1], fun i z hz => ?_⟩
        by_cases e : i < l.length
        · rw [List.getElem?_append_left e] at hz; exact h2 i z hz
        · rw [List.getElem?_append_right (by omega)] at hz
          obtain ⟨k1, k2⟩ := List.getElem?_eq_some_iff.1 hz
          simp at k1 k2
          have : i = k := by omega
          rw [this, ← k2]; exact hy
    obtain ⟨l, k1, k2⟩ := hlist len (Nat.le_refl _)
    have hle : len * 1 ≤ (elems.length + rest.length) * P.bytesOf e := Nat.mul_le_mul (by omega) hby
    refine ⟨l, k1, hl, by omega, ?_⟩
    intro i v hi
    rw [List.getElem?_map] at hi
    cases hsi : l[i]? with
    | none => rw [hsi] at hi; simp at hi
    | some s =>
      rw [hsi] at hi
      simp only [Option.map_some, Option.some.injEq] at hi
      have hil : i < len := by
        have := (List.getElem?_eq_some_iff.1 hsi).1
        omega
      have hcl := k2 i s hsi
      obtain ⟨m1, m2⟩ := fcell_of hcl
      obtain ⟨y0, hc0⟩ := hcell 0 (by omega)
      have e0 : x.add 0 = x := by unfold Addr.add; rw [if_pos rfl]
      rw [e0] at hc0
      obtain ⟨m3, -⟩ := fcell_of hc0
      obtain ⟨b, off, spot⟩ := x
      injection m3 with _ _ ks
      subst ks
      refine ⟨b, off, rfl, ?_⟩
      rw [← hi]
      have e1 : (⟨b, off, none⟩ : Addr).add i = ⟨b, off + i, none⟩ := by
        unfold Addr.add; split
        · rename_i h0; subst h0; rfl
        · rfl
      rw [e1] at m2
      exact m2

theorem open_intsF {H : Type} {enc : TypeId × Value → H} {P : Program} {W : World} {held : Bool} {t e : TypeId} {a : Option Addr} {len cap : Nat} {d : DataW H} {ps : List MemPlace} {ts : List TypeId} {ds : List (DataW H)} {j : Nat}
    (ht : P.underlying t = some (.slice e)) (he : P.underlying e = some (.int .i64)) (hc : P.cellsOf e = 1) (hby : Nat.ble 1 (P.bytesOf e) = true) (h : DataW.Trod enc P W 0 (fun _ => true) held t (.slice a len cap) d ps)
    (hsz : (DataW.weightsEach P ts ds).all (· ≤ reachBytes) = true) (hj : ts[j]? = some t) (hd : ds[j]? = some d) :
    ∃ l : List Int, l.length = len ∧ len ≤ cap ∧ l.length < 140737488355328 ∧ FSl (frameOf W) a (l.map (Value.int .i64)) :=
  open_slF (Value.int .i64) ht (fun n cs y h => by obtain ⟨m, h1, _⟩ := DataW.trod_int he h; exact ⟨m, h1⟩) hc (Nat.le_of_ble_eq_true hby) h hsz hj hd
theorem int_rng {n : Int} (h : (Lit.int .i64 n).wf = true) : -9223372036854775808 ≤ n ∧ n < 9223372036854775808 := by
  simp [Lit.wf, IntKind.min, IntKind.max, IntKind.signed, IntKind.bits] at h
  omega

theorem open_capF {H : Type} {enc : TypeId × Value → H} {P : Program} {W : World} {held : Bool} {t e : TypeId} {a : Option Addr} {len cap : Nat} {d : DataW H} {ps : List MemPlace}
    (ht : P.underlying t = some (.slice e)) (h : DataW.Trod enc P W 0 (fun _ => true) held t (.slice a len cap) d ps) : len ≤ cap := by
  obtain ⟨fuel, hf⟩ := h
  rcases DataW.trod_slice ht hf with ⟨hcs, _⟩ | ⟨x, ln, cp, elems, rest, n, _, hcs, hx, _, hl, hm, hlen, hel, _, _⟩
  · simp [Value.cells] at hcs; omega
  · simp [Value.cells] at hcs
    obtain ⟨rfl, rfl, rfl⟩ := hcs
    exact hl

end Dn
