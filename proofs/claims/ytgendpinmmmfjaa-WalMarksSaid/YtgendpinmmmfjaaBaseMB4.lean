/- Lemmas for a proof in several parts. -/
import Derived.Test.YtgendpinmmmfjaaBaseMB3
set_option linter.unusedVariables false
set_option linter.unusedSimpArgs false
/-
  The log: plain side, and the walks of its small functions.
-/
namespace Dn
open Go

def sizeW (n : Nat) : Nat := if n = 0 then 1 else (n - 1) / 26 + 1
structure Tl where
  next : Int
  number : Int
  gen : Gn
deriving DecidableEq
def Tl.v (t : Tl) : List Value := [.int .i64 t.next, .int .i64 t.number, .int .i64 t.gen.epoch, .int .i64 t.gen.count]
def Tl.ok (t : Tl) : Prop := 0 ≤ t.next ∧ 0 ≤ t.number ∧ t.next ≤ 2147483647 ∧ t.number ≤ 2147483647 ∧ t.gen.ok0
@[irreducible] instance Tl.okD (t : Tl) : Decidable t.ok := by unfold Tl.ok; infer_instance
def Cfg.logN (c : Cfg) : Int := if (0 : Int) > c.log - 3 then 0 else c.log - 3
/-- valid -/
def validW (s : Sh) (d : Int) (t : Tl) : Prop := 0 ≤ d ∧ d < s.cfg.disks ∧ t.ok
@[irreducible] instance validWD (s : Sh) (d : Int) (t : Tl) : Decidable (validW s d t) := by unfold validW; infer_instance
/-- the payload of a part -/
def payB (t : Tl) (r : Sec) (i : Nat) : Sec := leB 4 (t.number + 1).toNat ++ leB 2 (r.length - 26 * i) ++ gnB t.gen ++ (r.drop (26 * i)).take 26
def plW (d : Int) (i : Int) : Pl := ⟨d, 1, i⟩
/-- The parts from i on are written: the error, and the shelf. -/
def appW (d : Int) (t : Tl) (g : Gn) (r : Sec) : Nat → Nat → Sh → Int × Sh
  | 0, _, s => (0, s)
  | k + 1, i, s =>
    if s.wrE (plW d (t.next + i)) (sealS (plW d (t.next + i)) g (payB t r i)) = 0 then appW d t g r k (i + 1) (s.wrS (plW d (t.next + i)) (sealS (plW d (t.next + i)) g (payB t r i)))
    else (s.wrE (plW d (t.next + i)) (sealS (plW d (t.next + i)) g (payB t r i)), s.wrS (plW d (t.next + i)) (sealS (plW d (t.next + i)) g (payB t r i)))
def zT : Tl := ⟨0, 0, ⟨0, 0⟩⟩
/-- Append: the tail, the error, the shelf. -/
def appendW (s : Sh) (d : Int) (t : Tl) (g : Gn) (r : Sec) : Tl × Int × Sh :=
  if ¬ (validW s d t ∧ g.ok0) then (zT, 1, s)
  else if ¬ g.newer t.gen then (zT, 9, s)
  else if r.length > 4096 then (zT, 2, s)
  else if t.next + sizeW r.length > s.cfg.logN then (zT, 16, s)
  else if (appW d t g r (sizeW r.length) 0 s).1 = 0 then (⟨t.next + sizeW r.length, t.number + 1, g⟩, 0, (appW d t g r (sizeW r.length) 0 s).2)
  else (zT, (appW d t g r (sizeW r.length) 0 s).1, (appW d t g r (sizeW r.length) 0 s).2)

end Dn

namespace Go.Proofs.Ytgendpinmmmfjaa
open Dn
attribute [local irreducible] Evs Ev EvT DSpec PSpec CallTo
set_option maxRecDepth 10000

theorem ar_quoI (a b r : Int) (hb : b ≠ 0) (hr : a.tdiv b = r) (h1 : -9223372036854775808 ≤ r) (h2 : r < 9223372036854775808) : arV .quo (.int .i64 a) (.int .i64 b) = some (.int .i64 r) := by
  simp only [arV, kEq, cond_true, if_neg hb, hr, wrap_id h1 h2]
theorem w_size (n : Nat) (hn : n < 9223372036854775808) : PSpec Try.prog 13 [.int .i64 (n : Int)] (.int .i64 (sizeW n : Int)) := by
  refine pspec_of mix Try.func13 c13_eq rfl rfl fun w F Q S hQ => ?_
  (repeat (first|(with_reducible first|refine Ja ?_|refine Jb ?_|refine Jc ?_|refine Jd ?_|refine Je ?_|refine Jf ?_|refine Jg ?_|refine Jh ?_|refine Ji ?_|refine Jj ?_|refine Jk rfl ?_|refine Jl ?_|refine Jm ?_|refine Jn ?_|refine Jo ?_|refine Jp ?_|refine Jq ?_)|refine JA rfl ?_|refine JB rfl ?_|refine JC rfl ?_|refine JD rfl ?_|refine JE rfl ?_|refine JF rfl ?_|refine JG rfl ?_|refine JH rfl ?_|refine JI rfl ?_|refine J2 rfl ?_|refine J3 rfl ?_|refine J4 rfl ?_|refine J1 rfl ?_|refine J6 rfl ?_|refine J7 rfl ?_|refine JJ rfl ?_|refine JK rfl ?_|refine JQ rfl ?_|refine JL rfl rfl ?_|refine JM rfl rfl ?_|refine JN rfl ?_|refine JO rfl ?_|refine JP rfl ?_))
  refine s_ite rfl (fun h => ?_) (fun h => ?_)
  · (repeat (first|(with_reducible first|refine Ja ?_|refine Jb ?_|refine Jc ?_|refine Jd ?_|refine Je ?_|refine Jf ?_|refine Jg ?_|refine Jh ?_|refine Ji ?_|refine Jj ?_|refine Jk rfl ?_|refine Jl ?_|refine Jm ?_|refine Jn ?_|refine Jo ?_|refine Jp ?_|refine Jq ?_)|refine JA rfl ?_|refine JB rfl ?_|refine JC rfl ?_|refine JD rfl ?_|refine JE rfl ?_|refine JF rfl ?_|refine JG rfl ?_|refine JH rfl ?_|refine JI rfl ?_|refine J2 rfl ?_|refine J3 rfl ?_|refine J4 rfl ?_|refine J1 rfl ?_|refine J6 rfl ?_|refine J7 rfl ?_|refine JJ rfl ?_|refine JK rfl ?_|refine JQ rfl ?_|refine JL rfl rfl ?_|refine JM rfl rfl ?_|refine JN rfl ?_|refine JO rfl ?_|refine JP rfl ?_))
    have h : n = 0 := by simpa using h
    exact f_ret rfl rfl (hQ _ _ _ (congrArg (Value.int .i64) (by unfold sizeW; rw [if_pos (by omega)]; rfl)) S)
  · have h : ¬ n = 0 := by simpa using h
    (repeat (first|(with_reducible first|refine Ja ?_|refine Jb ?_|refine Jc ?_|refine Jd ?_|refine Je ?_|refine Jf ?_|refine Jg ?_|refine Jh ?_|refine Ji ?_|refine Jj ?_|refine Jk rfl ?_|refine Jl ?_|refine Jm ?_|refine Jn ?_|refine Jo ?_|refine Jp ?_|refine Jq ?_)|refine JA rfl ?_|refine JB rfl ?_|refine JC rfl ?_|refine JD rfl ?_|refine JE rfl ?_|refine JF rfl ?_|refine JG rfl ?_|refine JH rfl ?_|refine JI rfl ?_|refine J2 rfl ?_|refine J3 rfl ?_|refine J4 rfl ?_|refine J1 rfl ?_|refine J6 rfl ?_|refine J7 rfl ?_|refine JJ rfl ?_|refine JK rfl ?_|refine JQ rfl ?_|refine JL rfl rfl ?_|refine JM rfl rfl ?_|refine JN rfl ?_|refine JO rfl ?_|refine JP rfl ?_))
    refine e_sub rfl rfl (by omega) (by omega) ?_
    have hq : ((n : Int) - 1).tdiv 26 = (((n - 1) / 26 : Nat) : Int) := by rw [Int.tdiv_eq_ediv_of_nonneg (by omega)]; omega
    refine e_arv (r := .int .i64 (((n - 1) / 26 : Nat) : Int)) rfl rfl (ar_quoI _ _ _ (by omega) hq (by omega) (by omega)) ?_
    refine e_add rfl rfl (by omega) (by omega) ?_
    (repeat (first|(with_reducible first|refine Ja ?_|refine Jb ?_|refine Jc ?_|refine Jd ?_|refine Je ?_|refine Jf ?_|refine Jg ?_|refine Jh ?_|refine Ji ?_|refine Jj ?_|refine Jk rfl ?_|refine Jl ?_|refine Jm ?_|refine Jn ?_|refine Jo ?_|refine Jp ?_|refine Jq ?_)|refine JA rfl ?_|refine JB rfl ?_|refine JC rfl ?_|refine JD rfl ?_|refine JE rfl ?_|refine JF rfl ?_|refine JG rfl ?_|refine JH rfl ?_|refine JI rfl ?_|refine J2 rfl ?_|refine J3 rfl ?_|refine J4 rfl ?_|refine J1 rfl ?_|refine J6 rfl ?_|refine J7 rfl ?_|refine JJ rfl ?_|refine JK rfl ?_|refine JQ rfl ?_|refine JL rfl rfl ?_|refine JM rfl rfl ?_|refine JN rfl ?_|refine JO rfl ?_|refine JP rfl ?_))
    exact f_ret rfl rfl (hQ _ _ _ (congrArg (Value.int .i64) (by unfold sizeW; rw [if_neg (by omega)]; omega)) S)

theorem w_sizeNeg (n : Int) (hn : n < 0) : PSpec Try.prog 13 [.int .i64 n] (.int .i64 0) := by
  refine pspec_of mix Try.func13 c13_eq rfl rfl fun w F Q S hQ => ?_
  (repeat (first|(with_reducible first|refine Ja ?_|refine Jb ?_|refine Jc ?_|refine Jd ?_|refine Je ?_|refine Jf ?_|refine Jg ?_|refine Jh ?_|refine Ji ?_|refine Jj ?_|refine Jk rfl ?_|refine Jl ?_|refine Jm ?_|refine Jn ?_|refine Jo ?_|refine Jp ?_|refine Jq ?_)|refine JA rfl ?_|refine JB rfl ?_|refine JC rfl ?_|refine JD rfl ?_|refine JE rfl ?_|refine JF rfl ?_|refine JG rfl ?_|refine JH rfl ?_|refine JI rfl ?_|refine J2 rfl ?_|refine J3 rfl ?_|refine J4 rfl ?_|refine J1 rfl ?_|refine J6 rfl ?_|refine J7 rfl ?_|refine JJ rfl ?_|refine JK rfl ?_|refine JQ rfl ?_|refine JL rfl rfl ?_|refine JM rfl rfl ?_|refine JN rfl ?_|refine JO rfl ?_|refine JP rfl ?_))
  refine s_iteD rfl (fun h => ?_) (fun h => by omega)
  (repeat (first|(with_reducible first|refine Ja ?_|refine Jb ?_|refine Jc ?_|refine Jd ?_|refine Je ?_|refine Jf ?_|refine Jg ?_|refine Jh ?_|refine Ji ?_|refine Jj ?_|refine Jk rfl ?_|refine Jl ?_|refine Jm ?_|refine Jn ?_|refine Jo ?_|refine Jp ?_|refine Jq ?_)|refine JA rfl ?_|refine JB rfl ?_|refine JC rfl ?_|refine JD rfl ?_|refine JE rfl ?_|refine JF rfl ?_|refine JG rfl ?_|refine JH rfl ?_|refine JI rfl ?_|refine J2 rfl ?_|refine J3 rfl ?_|refine J4 rfl ?_|refine J1 rfl ?_|refine J6 rfl ?_|refine J7 rfl ?_|refine JJ rfl ?_|refine JK rfl ?_|refine JQ rfl ?_|refine JL rfl rfl ?_|refine JM rfl rfl ?_|refine JN rfl ?_|refine JO rfl ?_|refine JP rfl ?_))
  exact f_ret rfl rfl (hQ _ _ _ rfl S)

theorem w_validGen (g : Gn) : PSpec Try.prog 28 [.agg ⟨g.v⟩] (.bool (decide g.ok0)) := by
  refine pspec_of mix Try.func28 c28_eq rfl rfl fun w F Q S hQ => ?_
  (repeat (first|(with_reducible first|refine Ja ?_|refine Jb ?_|refine Jc ?_|refine Jd ?_|refine Je ?_|refine Jf ?_|refine Jg ?_|refine Jh ?_|refine Ji ?_|refine Jj ?_|refine Jk rfl ?_|refine Jl ?_|refine Jm ?_|refine Jn ?_|refine Jo ?_|refine Jp ?_|refine Jq ?_)|refine JA rfl ?_|refine JB rfl ?_|refine JC rfl ?_|refine JD rfl ?_|refine JE rfl ?_|refine JF rfl ?_|refine JG rfl ?_|refine JH rfl ?_|refine JI rfl ?_|refine J2 rfl ?_|refine J3 rfl ?_|refine J4 rfl ?_|refine J1 rfl ?_|refine J6 rfl ?_|refine J7 rfl ?_|refine JJ rfl ?_|refine JK rfl ?_|refine JQ rfl ?_|refine JL rfl rfl ?_|refine JM rfl rfl ?_|refine JN rfl ?_|refine JO rfl ?_|refine JP rfl ?_))
  refine e_bx S rfl fun b w S => ?_
  (repeat (first|(with_reducible first|refine Ja ?_|refine Jb ?_|refine Jc ?_|refine Jd ?_|refine Je ?_|refine Jf ?_|refine Jg ?_|refine Jh ?_|refine Ji ?_|refine Jj ?_|refine Jk rfl ?_|refine Jl ?_|refine Jm ?_|refine Jn ?_|refine Jo ?_|refine Jp ?_|refine Jq ?_)|refine JA rfl ?_|refine JB rfl ?_|refine JC rfl ?_|refine JD rfl ?_|refine JE rfl ?_|refine JF rfl ?_|refine JG rfl ?_|refine JH rfl ?_|refine JI rfl ?_|refine J2 rfl ?_|refine J3 rfl ?_|refine J4 rfl ?_|refine J1 rfl ?_|refine J6 rfl ?_|refine J7 rfl ?_|refine JJ rfl ?_|refine JK rfl ?_|refine JQ rfl ?_|refine JL rfl rfl ?_|refine JM rfl rfl ?_|refine JN rfl ?_|refine JO rfl ?_|refine JP rfl ?_))
  refine e_ld (S.cell 0 rfl rfl) ?_
  (repeat (first|(with_reducible first|refine Ja ?_|refine Jb ?_|refine Jc ?_|refine Jd ?_|refine Je ?_|refine Jf ?_|refine Jg ?_|refine Jh ?_|refine Ji ?_|refine Jj ?_|refine Jk rfl ?_|refine Jl ?_|refine Jm ?_|refine Jn ?_|refine Jo ?_|refine Jp ?_|refine Jq ?_)|refine JA rfl ?_|refine JB rfl ?_|refine JC rfl ?_|refine JD rfl ?_|refine JE rfl ?_|refine JF rfl ?_|refine JG rfl ?_|refine JH rfl ?_|refine JI rfl ?_|refine J2 rfl ?_|refine J3 rfl ?_|refine J4 rfl ?_|refine J1 rfl ?_|refine J6 rfl ?_|refine J7 rfl ?_|refine JJ rfl ?_|refine JK rfl ?_|refine JQ rfl ?_|refine JL rfl rfl ?_|refine JM rfl rfl ?_|refine JN rfl ?_|refine JO rfl ?_|refine JP rfl ?_))
  refine e_ld (S.cell 0 rfl rfl) ?_
  (repeat (first|(with_reducible first|refine Ja ?_|refine Jb ?_|refine Jc ?_|refine Jd ?_|refine Je ?_|refine Jf ?_|refine Jg ?_|refine Jh ?_|refine Ji ?_|refine Jj ?_|refine Jk rfl ?_|refine Jl ?_|refine Jm ?_|refine Jn ?_|refine Jo ?_|refine Jp ?_|refine Jq ?_)|refine JA rfl ?_|refine JB rfl ?_|refine JC rfl ?_|refine JD rfl ?_|refine JE rfl ?_|refine JF rfl ?_|refine JG rfl ?_|refine JH rfl ?_|refine JI rfl ?_|refine J2 rfl ?_|refine J3 rfl ?_|refine J4 rfl ?_|refine J1 rfl ?_|refine J6 rfl ?_|refine J7 rfl ?_|refine JJ rfl ?_|refine JK rfl ?_|refine JQ rfl ?_|refine JL rfl rfl ?_|refine JM rfl rfl ?_|refine JN rfl ?_|refine JO rfl ?_|refine JP rfl ?_))
  refine e_brD rfl (fun h1 => ?_) (fun h1 => ?_)
  · (repeat (first|(with_reducible first|refine Ja ?_|refine Jb ?_|refine Jc ?_|refine Jd ?_|refine Je ?_|refine Jf ?_|refine Jg ?_|refine Jh ?_|refine Ji ?_|refine Jj ?_|refine Jk rfl ?_|refine Jl ?_|refine Jm ?_|refine Jn ?_|refine Jo ?_|refine Jp ?_|refine Jq ?_)|refine JA rfl ?_|refine JB rfl ?_|refine JC rfl ?_|refine JD rfl ?_|refine JE rfl ?_|refine JF rfl ?_|refine JG rfl ?_|refine JH rfl ?_|refine JI rfl ?_|refine J2 rfl ?_|refine J3 rfl ?_|refine J4 rfl ?_|refine J1 rfl ?_|refine J6 rfl ?_|refine J7 rfl ?_|refine JJ rfl ?_|refine JK rfl ?_|refine JQ rfl ?_|refine JL rfl rfl ?_|refine JM rfl rfl ?_|refine JN rfl ?_|refine JO rfl ?_|refine JP rfl ?_))
    refine e_ld (S.cell 0 rfl rfl) ?_
    (repeat (first|(with_reducible first|refine Ja ?_|refine Jb ?_|refine Jc ?_|refine Jd ?_|refine Je ?_|refine Jf ?_|refine Jg ?_|refine Jh ?_|refine Ji ?_|refine Jj ?_|refine Jk rfl ?_|refine Jl ?_|refine Jm ?_|refine Jn ?_|refine Jo ?_|refine Jp ?_|refine Jq ?_)|refine JA rfl ?_|refine JB rfl ?_|refine JC rfl ?_|refine JD rfl ?_|refine JE rfl ?_|refine JF rfl ?_|refine JG rfl ?_|refine JH rfl ?_|refine JI rfl ?_|refine J2 rfl ?_|refine J3 rfl ?_|refine J4 rfl ?_|refine J1 rfl ?_|refine J6 rfl ?_|refine J7 rfl ?_|refine JJ rfl ?_|refine JK rfl ?_|refine JQ rfl ?_|refine JL rfl rfl ?_|refine JM rfl rfl ?_|refine JN rfl ?_|refine JO rfl ?_|refine JP rfl ?_))
    refine e_ld (S.cell 0 rfl rfl) ?_
    (repeat (first|(with_reducible first|refine Ja ?_|refine Jb ?_|refine Jc ?_|refine Jd ?_|refine Je ?_|refine Jf ?_|refine Jg ?_|refine Jh ?_|refine Ji ?_|refine Jj ?_|refine Jk rfl ?_|refine Jl ?_|refine Jm ?_|refine Jn ?_|refine Jo ?_|refine Jp ?_|refine Jq ?_)|refine JA rfl ?_|refine JB rfl ?_|refine JC rfl ?_|refine JD rfl ?_|refine JE rfl ?_|refine JF rfl ?_|refine JG rfl ?_|refine JH rfl ?_|refine JI rfl ?_|refine J2 rfl ?_|refine J3 rfl ?_|refine J4 rfl ?_|refine J1 rfl ?_|refine J6 rfl ?_|refine J7 rfl ?_|refine JJ rfl ?_|refine JK rfl ?_|refine JQ rfl ?_|refine JL rfl rfl ?_|refine JM rfl rfl ?_|refine JN rfl ?_|refine JO rfl ?_|refine JP rfl ?_))
    refine f_ret rfl rfl (hQ _ _ _ (congrArg Value.bool (decide_eq_decide.2 ?_)) S)
    have h1' := min_lt.1 h1
    rw [max_lt]
    unfold Gn.ok0; omega
  · (repeat (first|(with_reducible first|refine Ja ?_|refine Jb ?_|refine Jc ?_|refine Jd ?_|refine Je ?_|refine Jf ?_|refine Jg ?_|refine Jh ?_|refine Ji ?_|refine Jj ?_|refine Jk rfl ?_|refine Jl ?_|refine Jm ?_|refine Jn ?_|refine Jo ?_|refine Jp ?_|refine Jq ?_)|refine JA rfl ?_|refine JB rfl ?_|refine JC rfl ?_|refine JD rfl ?_|refine JE rfl ?_|refine JF rfl ?_|refine JG rfl ?_|refine JH rfl ?_|refine JI rfl ?_|refine J2 rfl ?_|refine J3 rfl ?_|refine J4 rfl ?_|refine J1 rfl ?_|refine J6 rfl ?_|refine J7 rfl ?_|refine JJ rfl ?_|refine JK rfl ?_|refine JQ rfl ?_|refine JL rfl rfl ?_|refine JM rfl rfl ?_|refine JN rfl ?_|refine JO rfl ?_|refine JP rfl ?_))
    refine f_ret rfl rfl (hQ _ _ _ (congrArg Value.bool ?_) S)
    refine (decide_eq_false fun h => h1 (min_lt.2 ?_)).symm
    unfold Gn.ok0 at h; omega

theorem w_sectors (c : Cfg) (hc : -1000000 ≤ c.log) (hc2 : c.log ≤ 1000000) : PSpec Try.prog 30 [.agg ⟨c.v⟩] (.int .i64 c.logN) := by
  refine pspec_of mix Try.func30 c30_eq rfl rfl fun w F Q S hQ => ?_
  (repeat (first|(with_reducible first|refine Ja ?_|refine Jb ?_|refine Jc ?_|refine Jd ?_|refine Je ?_|refine Jf ?_|refine Jg ?_|refine Jh ?_|refine Ji ?_|refine Jj ?_|refine Jk rfl ?_|refine Jl ?_|refine Jm ?_|refine Jn ?_|refine Jo ?_|refine Jp ?_|refine Jq ?_)|refine JA rfl ?_|refine JB rfl ?_|refine JC rfl ?_|refine JD rfl ?_|refine JE rfl ?_|refine JF rfl ?_|refine JG rfl ?_|refine JH rfl ?_|refine JI rfl ?_|refine J2 rfl ?_|refine J3 rfl ?_|refine J4 rfl ?_|refine J1 rfl ?_|refine J6 rfl ?_|refine J7 rfl ?_|refine JJ rfl ?_|refine JK rfl ?_|refine JQ rfl ?_|refine JL rfl rfl ?_|refine JM rfl rfl ?_|refine JN rfl ?_|refine JO rfl ?_|refine JP rfl ?_))
  refine e_bx S rfl fun b w S => ?_
  (repeat (first|(with_reducible first|refine Ja ?_|refine Jb ?_|refine Jc ?_|refine Jd ?_|refine Je ?_|refine Jf ?_|refine Jg ?_|refine Jh ?_|refine Ji ?_|refine Jj ?_|refine Jk rfl ?_|refine Jl ?_|refine Jm ?_|refine Jn ?_|refine Jo ?_|refine Jp ?_|refine Jq ?_)|refine JA rfl ?_|refine JB rfl ?_|refine JC rfl ?_|refine JD rfl ?_|refine JE rfl ?_|refine JF rfl ?_|refine JG rfl ?_|refine JH rfl ?_|refine JI rfl ?_|refine J2 rfl ?_|refine J3 rfl ?_|refine J4 rfl ?_|refine J1 rfl ?_|refine J6 rfl ?_|refine J7 rfl ?_|refine JJ rfl ?_|refine JK rfl ?_|refine JQ rfl ?_|refine JL rfl rfl ?_|refine JM rfl rfl ?_|refine JN rfl ?_|refine JO rfl ?_|refine JP rfl ?_))
  refine e_ld (S.cell 0 rfl rfl) ?_
  refine e_sub rfl rfl (by omega) (by omega) ?_
  (repeat (first|(with_reducible first|refine Ja ?_|refine Jb ?_|refine Jc ?_|refine Jd ?_|refine Je ?_|refine Jf ?_|refine Jg ?_|refine Jh ?_|refine Ji ?_|refine Jj ?_|refine Jk rfl ?_|refine Jl ?_|refine Jm ?_|refine Jn ?_|refine Jo ?_|refine Jp ?_|refine Jq ?_)|refine JA rfl ?_|refine JB rfl ?_|refine JC rfl ?_|refine JD rfl ?_|refine JE rfl ?_|refine JF rfl ?_|refine JG rfl ?_|refine JH rfl ?_|refine JI rfl ?_|refine J2 rfl ?_|refine J3 rfl ?_|refine J4 rfl ?_|refine J1 rfl ?_|refine J6 rfl ?_|refine J7 rfl ?_|refine JJ rfl ?_|refine JK rfl ?_|refine JQ rfl ?_|refine JL rfl rfl ?_|refine JM rfl rfl ?_|refine JN rfl ?_|refine JO rfl ?_|refine JP rfl ?_))
  exact f_ret rfl rfl (hQ _ _ _ rfl S)

theorem w_valid (s : Sh) (d : Int) (t : Tl) : DSpec Try.prog 26 [s.v, .int .i64 d, .agg ⟨t.v⟩] s.L fun v L => v = .bool (decide (validW s d t)) ∧ L = s.L := by
  refine spec_of mix Try.func26 c26_eq rfl rfl fun w F Q S hQ => ?_
  (repeat (first|(with_reducible first|refine Ja ?_|refine Jb ?_|refine Jc ?_|refine Jd ?_|refine Je ?_|refine Jf ?_|refine Jg ?_|refine Jh ?_|refine Ji ?_|refine Jj ?_|refine Jk rfl ?_|refine Jl ?_|refine Jm ?_|refine Jn ?_|refine Jo ?_|refine Jp ?_|refine Jq ?_)|refine JA rfl ?_|refine JB rfl ?_|refine JC rfl ?_|refine JD rfl ?_|refine JE rfl ?_|refine JF rfl ?_|refine JG rfl ?_|refine JH rfl ?_|refine JI rfl ?_|refine J2 rfl ?_|refine J3 rfl ?_|refine J4 rfl ?_|refine J1 rfl ?_|refine J6 rfl ?_|refine J7 rfl ?_|refine JJ rfl ?_|refine JK rfl ?_|refine JQ rfl ?_|refine JL rfl rfl ?_|refine JM rfl rfl ?_|refine JN rfl ?_|refine JO rfl ?_|refine JP rfl ?_))
  refine e_bx S rfl fun b w S => ?_
  (repeat (first|(with_reducible first|refine Ja ?_|refine Jb ?_|refine Jc ?_|refine Jd ?_|refine Je ?_|refine Jf ?_|refine Jg ?_|refine Jh ?_|refine Ji ?_|refine Jj ?_|refine Jk rfl ?_|refine Jl ?_|refine Jm ?_|refine Jn ?_|refine Jo ?_|refine Jp ?_|refine Jq ?_)|refine JA rfl ?_|refine JB rfl ?_|refine JC rfl ?_|refine JD rfl ?_|refine JE rfl ?_|refine JF rfl ?_|refine JG rfl ?_|refine JH rfl ?_|refine JI rfl ?_|refine J2 rfl ?_|refine J3 rfl ?_|refine J4 rfl ?_|refine J1 rfl ?_|refine J6 rfl ?_|refine J7 rfl ?_|refine JJ rfl ?_|refine JK rfl ?_|refine JQ rfl ?_|refine JL rfl rfl ?_|refine JM rfl rfl ?_|refine JN rfl ?_|refine JO rfl ?_|refine JP rfl ?_))
  refine e_brD rfl (fun h1 => ?_) (fun h1 => ?_)
  rotate_left
  · (repeat (first|(with_reducible first|refine Ja ?_|refine Jb ?_|refine Jc ?_|refine Jd ?_|refine Je ?_|refine Jf ?_|refine Jg ?_|refine Jh ?_|refine Ji ?_|refine Jj ?_|refine Jk rfl ?_|refine Jl ?_|refine Jm ?_|refine Jn ?_|refine Jo ?_|refine Jp ?_|refine Jq ?_)|refine JA rfl ?_|refine JB rfl ?_|refine JC rfl ?_|refine JD rfl ?_|refine JE rfl ?_|refine JF rfl ?_|refine JG rfl ?_|refine JH rfl ?_|refine JI rfl ?_|refine J2 rfl ?_|refine J3 rfl ?_|refine J4 rfl ?_|refine J1 rfl ?_|refine J6 rfl ?_|refine J7 rfl ?_|refine JJ rfl ?_|refine JK rfl ?_|refine JQ rfl ?_|refine JL rfl rfl ?_|refine JM rfl rfl ?_|refine JN rfl ?_|refine JO rfl ?_|refine JP rfl ?_))
    exact f_ret rfl rfl (hQ _ _ _ ⟨congrArg Value.bool (decide_eq_false (by unfold validW; omega)).symm, rfl⟩ (Sep.drop (L2 := [_]) S))
  (repeat (first|(with_reducible first|refine Ja ?_|refine Jb ?_|refine Jc ?_|refine Jd ?_|refine Je ?_|refine Jf ?_|refine Jg ?_|refine Jh ?_|refine Ji ?_|refine Jj ?_|refine Jk rfl ?_|refine Jl ?_|refine Jm ?_|refine Jn ?_|refine Jo ?_|refine Jp ?_|refine Jq ?_)|refine JA rfl ?_|refine JB rfl ?_|refine JC rfl ?_|refine JD rfl ?_|refine JE rfl ?_|refine JF rfl ?_|refine JG rfl ?_|refine JH rfl ?_|refine JI rfl ?_|refine J2 rfl ?_|refine J3 rfl ?_|refine J4 rfl ?_|refine J1 rfl ?_|refine J6 rfl ?_|refine J7 rfl ?_|refine JJ rfl ?_|refine JK rfl ?_|refine JQ rfl ?_|refine JL rfl rfl ?_|refine JM rfl rfl ?_|refine JN rfl ?_|refine JO rfl ?_|refine JP rfl ?_))
  refine e_call (L2 := [_]) rfl (sh_config s) S ?_
  rintro _ _ w ⟨rfl, rfl⟩ S
  (repeat (first|(with_reducible first|refine Ja ?_|refine Jb ?_|refine Jc ?_|refine Jd ?_|refine Je ?_|refine Jf ?_|refine Jg ?_|refine Jh ?_|refine Ji ?_|refine Jj ?_|refine Jk rfl ?_|refine Jl ?_|refine Jm ?_|refine Jn ?_|refine Jo ?_|refine Jp ?_|refine Jq ?_)|refine JA rfl ?_|refine JB rfl ?_|refine JC rfl ?_|refine JD rfl ?_|refine JE rfl ?_|refine JF rfl ?_|refine JG rfl ?_|refine JH rfl ?_|refine JI rfl ?_|refine J2 rfl ?_|refine J3 rfl ?_|refine J4 rfl ?_|refine J1 rfl ?_|refine J6 rfl ?_|refine J7 rfl ?_|refine JJ rfl ?_|refine JK rfl ?_|refine JQ rfl ?_|refine JL rfl rfl ?_|refine JM rfl rfl ?_|refine JN rfl ?_|refine JO rfl ?_|refine JP rfl ?_))
  refine e_brD rfl (fun h2 => ?_) (fun h2 => ?_)
  rotate_left
  · (repeat (first|(with_reducible first|refine Ja ?_|refine Jb ?_|refine Jc ?_|refine Jd ?_|refine Je ?_|refine Jf ?_|refine Jg ?_|refine Jh ?_|refine Ji ?_|refine Jj ?_|refine Jk rfl ?_|refine Jl ?_|refine Jm ?_|refine Jn ?_|refine Jo ?_|refine Jp ?_|refine Jq ?_)|refine JA rfl ?_|refine JB rfl ?_|refine JC rfl ?_|refine JD rfl ?_|refine JE rfl ?_|refine JF rfl ?_|refine JG rfl ?_|refine JH rfl ?_|refine JI rfl ?_|refine J2 rfl ?_|refine J3 rfl ?_|refine J4 rfl ?_|refine J1 rfl ?_|refine J6 rfl ?_|refine J7 rfl ?_|refine JJ rfl ?_|refine JK rfl ?_|refine JQ rfl ?_|refine JL rfl rfl ?_|refine JM rfl rfl ?_|refine JN rfl ?_|refine JO rfl ?_|refine JP rfl ?_))
    exact f_ret rfl rfl (hQ _ _ _ ⟨congrArg Value.bool (decide_eq_false (by unfold validW; omega)).symm, rfl⟩ (Sep.drop (L2 := [_]) S))
  (repeat (first|(with_reducible first|refine Ja ?_|refine Jb ?_|refine Jc ?_|refine Jd ?_|refine Je ?_|refine Jf ?_|refine Jg ?_|refine Jh ?_|refine Ji ?_|refine Jj ?_|refine Jk rfl ?_|refine Jl ?_|refine Jm ?_|refine Jn ?_|refine Jo ?_|refine Jp ?_|refine Jq ?_)|refine JA rfl ?_|refine JB rfl ?_|refine JC rfl ?_|refine JD rfl ?_|refine JE rfl ?_|refine JF rfl ?_|refine JG rfl ?_|refine JH rfl ?_|refine JI rfl ?_|refine J2 rfl ?_|refine J3 rfl ?_|refine J4 rfl ?_|refine J1 rfl ?_|refine J6 rfl ?_|refine J7 rfl ?_|refine JJ rfl ?_|refine JK rfl ?_|refine JQ rfl ?_|refine JL rfl rfl ?_|refine JM rfl rfl ?_|refine JN rfl ?_|refine JO rfl ?_|refine JP rfl ?_))
  refine e_ld (S.cell 0 rfl rfl) ?_
  (repeat (first|(with_reducible first|refine Ja ?_|refine Jb ?_|refine Jc ?_|refine Jd ?_|refine Je ?_|refine Jf ?_|refine Jg ?_|refine Jh ?_|refine Ji ?_|refine Jj ?_|refine Jk rfl ?_|refine Jl ?_|refine Jm ?_|refine Jn ?_|refine Jo ?_|refine Jp ?_|refine Jq ?_)|refine JA rfl ?_|refine JB rfl ?_|refine JC rfl ?_|refine JD rfl ?_|refine JE rfl ?_|refine JF rfl ?_|refine JG rfl ?_|refine JH rfl ?_|refine JI rfl ?_|refine J2 rfl ?_|refine J3 rfl ?_|refine J4 rfl ?_|refine J1 rfl ?_|refine J6 rfl ?_|refine J7 rfl ?_|refine JJ rfl ?_|refine JK rfl ?_|refine JQ rfl ?_|refine JL rfl rfl ?_|refine JM rfl rfl ?_|refine JN rfl ?_|refine JO rfl ?_|refine JP rfl ?_))
  refine e_ld (S.cell 0 rfl rfl) ?_
  (repeat (first|(with_reducible first|refine Ja ?_|refine Jb ?_|refine Jc ?_|refine Jd ?_|refine Je ?_|refine Jf ?_|refine Jg ?_|refine Jh ?_|refine Ji ?_|refine Jj ?_|refine Jk rfl ?_|refine Jl ?_|refine Jm ?_|refine Jn ?_|refine Jo ?_|refine Jp ?_|refine Jq ?_)|refine JA rfl ?_|refine JB rfl ?_|refine JC rfl ?_|refine JD rfl ?_|refine JE rfl ?_|refine JF rfl ?_|refine JG rfl ?_|refine JH rfl ?_|refine JI rfl ?_|refine J2 rfl ?_|refine J3 rfl ?_|refine J4 rfl ?_|refine J1 rfl ?_|refine J6 rfl ?_|refine J7 rfl ?_|refine JJ rfl ?_|refine JK rfl ?_|refine JQ rfl ?_|refine JL rfl rfl ?_|refine JM rfl rfl ?_|refine JN rfl ?_|refine JO rfl ?_|refine JP rfl ?_))
  refine e_brD rfl (fun h3 => ?_) (fun h3 => ?_)
  rotate_left
  · (repeat (first|(with_reducible first|refine Ja ?_|refine Jb ?_|refine Jc ?_|refine Jd ?_|refine Je ?_|refine Jf ?_|refine Jg ?_|refine Jh ?_|refine Ji ?_|refine Jj ?_|refine Jk rfl ?_|refine Jl ?_|refine Jm ?_|refine Jn ?_|refine Jo ?_|refine Jp ?_|refine Jq ?_)|refine JA rfl ?_|refine JB rfl ?_|refine JC rfl ?_|refine JD rfl ?_|refine JE rfl ?_|refine JF rfl ?_|refine JG rfl ?_|refine JH rfl ?_|refine JI rfl ?_|refine J2 rfl ?_|refine J3 rfl ?_|refine J4 rfl ?_|refine J1 rfl ?_|refine J6 rfl ?_|refine J7 rfl ?_|refine JJ rfl ?_|refine JK rfl ?_|refine JQ rfl ?_|refine JL rfl rfl ?_|refine JM rfl rfl ?_|refine JN rfl ?_|refine JO rfl ?_|refine JP rfl ?_))
    refine f_ret rfl rfl (hQ _ _ _ ⟨congrArg Value.bool (decide_eq_false ?_).symm, rfl⟩ (Sep.drop (L2 := [_]) S))
    intro h; apply h3; rw [ge_iff_le, min_lt]; unfold validW Tl.ok at h; omega
  (repeat (first|(with_reducible first|refine Ja ?_|refine Jb ?_|refine Jc ?_|refine Jd ?_|refine Je ?_|refine Jf ?_|refine Jg ?_|refine Jh ?_|refine Ji ?_|refine Jj ?_|refine Jk rfl ?_|refine Jl ?_|refine Jm ?_|refine Jn ?_|refine Jo ?_|refine Jp ?_|refine Jq ?_)|refine JA rfl ?_|refine JB rfl ?_|refine JC rfl ?_|refine JD rfl ?_|refine JE rfl ?_|refine JF rfl ?_|refine JG rfl ?_|refine JH rfl ?_|refine JI rfl ?_|refine J2 rfl ?_|refine J3 rfl ?_|refine J4 rfl ?_|refine J1 rfl ?_|refine J6 rfl ?_|refine J7 rfl ?_|refine JJ rfl ?_|refine JK rfl ?_|refine JQ rfl ?_|refine JL rfl rfl ?_|refine JM rfl rfl ?_|refine JN rfl ?_|refine JO rfl ?_|refine JP rfl ?_))
  refine e_ld (S.cell 0 rfl rfl) ?_
  (repeat (first|(with_reducible first|refine Ja ?_|refine Jb ?_|refine Jc ?_|refine Jd ?_|refine Je ?_|refine Jf ?_|refine Jg ?_|refine Jh ?_|refine Ji ?_|refine Jj ?_|refine Jk rfl ?_|refine Jl ?_|refine Jm ?_|refine Jn ?_|refine Jo ?_|refine Jp ?_|refine Jq ?_)|refine JA rfl ?_|refine JB rfl ?_|refine JC rfl ?_|refine JD rfl ?_|refine JE rfl ?_|refine JF rfl ?_|refine JG rfl ?_|refine JH rfl ?_|refine JI rfl ?_|refine J2 rfl ?_|refine J3 rfl ?_|refine J4 rfl ?_|refine J1 rfl ?_|refine J6 rfl ?_|refine J7 rfl ?_|refine JJ rfl ?_|refine JK rfl ?_|refine JQ rfl ?_|refine JL rfl rfl ?_|refine JM rfl rfl ?_|refine JN rfl ?_|refine JO rfl ?_|refine JP rfl ?_))
  refine e_ld (S.cell 0 rfl rfl) ?_
  (repeat (first|(with_reducible first|refine Ja ?_|refine Jb ?_|refine Jc ?_|refine Jd ?_|refine Je ?_|refine Jf ?_|refine Jg ?_|refine Jh ?_|refine Ji ?_|refine Jj ?_|refine Jk rfl ?_|refine Jl ?_|refine Jm ?_|refine Jn ?_|refine Jo ?_|refine Jp ?_|refine Jq ?_)|refine JA rfl ?_|refine JB rfl ?_|refine JC rfl ?_|refine JD rfl ?_|refine JE rfl ?_|refine JF rfl ?_|refine JG rfl ?_|refine JH rfl ?_|refine JI rfl ?_|refine J2 rfl ?_|refine J3 rfl ?_|refine J4 rfl ?_|refine J1 rfl ?_|refine J6 rfl ?_|refine J7 rfl ?_|refine JJ rfl ?_|refine JK rfl ?_|refine JQ rfl ?_|refine JL rfl rfl ?_|refine JM rfl rfl ?_|refine JN rfl ?_|refine JO rfl ?_|refine JP rfl ?_))
  refine e_brD rfl (fun h4 => ?_) (fun h4 => ?_)
  rotate_left
  · (repeat (first|(with_reducible first|refine Ja ?_|refine Jb ?_|refine Jc ?_|refine Jd ?_|refine Je ?_|refine Jf ?_|refine Jg ?_|refine Jh ?_|refine Ji ?_|refine Jj ?_|refine Jk rfl ?_|refine Jl ?_|refine Jm ?_|refine Jn ?_|refine Jo ?_|refine Jp ?_|refine Jq ?_)|refine JA rfl ?_|refine JB rfl ?_|refine JC rfl ?_|refine JD rfl ?_|refine JE rfl ?_|refine JF rfl ?_|refine JG rfl ?_|refine JH rfl ?_|refine JI rfl ?_|refine J2 rfl ?_|refine J3 rfl ?_|refine J4 rfl ?_|refine J1 rfl ?_|refine J6 rfl ?_|refine J7 rfl ?_|refine JJ rfl ?_|refine JK rfl ?_|refine JQ rfl ?_|refine JL rfl rfl ?_|refine JM rfl rfl ?_|refine JN rfl ?_|refine JO rfl ?_|refine JP rfl ?_))
    refine f_ret rfl rfl (hQ _ _ _ ⟨congrArg Value.bool (decide_eq_false ?_).symm, rfl⟩ (Sep.drop (L2 := [_]) S))
    intro h; apply h4; rw [max_le]; unfold validW Tl.ok at h; omega
  (repeat (first|(with_reducible first|refine Ja ?_|refine Jb ?_|refine Jc ?_|refine Jd ?_|refine Je ?_|refine Jf ?_|refine Jg ?_|refine Jh ?_|refine Ji ?_|refine Jj ?_|refine Jk rfl ?_|refine Jl ?_|refine Jm ?_|refine Jn ?_|refine Jo ?_|refine Jp ?_|refine Jq ?_)|refine JA rfl ?_|refine JB rfl ?_|refine JC rfl ?_|refine JD rfl ?_|refine JE rfl ?_|refine JF rfl ?_|refine JG rfl ?_|refine JH rfl ?_|refine JI rfl ?_|refine J2 rfl ?_|refine J3 rfl ?_|refine J4 rfl ?_|refine J1 rfl ?_|refine J6 rfl ?_|refine J7 rfl ?_|refine JJ rfl ?_|refine JK rfl ?_|refine JQ rfl ?_|refine JL rfl rfl ?_|refine JM rfl rfl ?_|refine JN rfl ?_|refine JO rfl ?_|refine JP rfl ?_))
  refine e_ld (v := .agg ⟨t.gen.v⟩) (S.row 0 rfl (by simp [Tl.v]) rfl) ?_
  refine e_gdT rfl ?_
  refine e_callP rfl (w_validGen t.gen) S fun w S => ?_
  (repeat (first|(with_reducible first|refine Ja ?_|refine Jb ?_|refine Jc ?_|refine Jd ?_|refine Je ?_|refine Jf ?_|refine Jg ?_|refine Jh ?_|refine Ji ?_|refine Jj ?_|refine Jk rfl ?_|refine Jl ?_|refine Jm ?_|refine Jn ?_|refine Jo ?_|refine Jp ?_|refine Jq ?_)|refine JA rfl ?_|refine JB rfl ?_|refine JC rfl ?_|refine JD rfl ?_|refine JE rfl ?_|refine JF rfl ?_|refine JG rfl ?_|refine JH rfl ?_|refine JI rfl ?_|refine J2 rfl ?_|refine J3 rfl ?_|refine J4 rfl ?_|refine J1 rfl ?_|refine J6 rfl ?_|refine J7 rfl ?_|refine JJ rfl ?_|refine JK rfl ?_|refine JQ rfl ?_|refine JL rfl rfl ?_|refine JM rfl rfl ?_|refine JN rfl ?_|refine JO rfl ?_|refine JP rfl ?_))
  refine f_ret rfl rfl (hQ _ _ _ ⟨congrArg Value.bool (decide_eq_decide.2 ?_), rfl⟩ (Sep.drop (L2 := [_]) S))
  rw [ge_iff_le, min_lt] at h3
  rw [max_le] at h4
  unfold validW Tl.ok; constructor
  · intro h; exact ⟨h1, h2, h3.1, h3.2, h4.1, h4.2, h⟩
  · intro h; exact h.2.2.2.2.2.2

theorem w_payloads (t : Tl) (r : Sec) : DSpec Try.prog 32 [.agg ⟨t.v⟩, .string ⟨⟨r⟩⟩] [] fun v L => ∃ b3 b2, v = .func (.func 52) #[] #[.pointer (some ⟨b3, 0, none⟩), .pointer (some ⟨b2, 0, none⟩)] ∧ L = [(b3, .cells ⟨[.string ⟨⟨r⟩⟩]⟩ 9), (b2, .cells ⟨t.v⟩ 31)] := by
  refine spec_of mix Try.func32 c32_eq rfl rfl fun w F Q S hQ => ?_
  (repeat (first|(with_reducible first|refine Ja ?_|refine Jb ?_|refine Jc ?_|refine Jd ?_|refine Je ?_|refine Jf ?_|refine Jg ?_|refine Jh ?_|refine Ji ?_|refine Jj ?_|refine Jk rfl ?_|refine Jl ?_|refine Jm ?_|refine Jn ?_|refine Jo ?_|refine Jp ?_|refine Jq ?_)|refine JA rfl ?_|refine JB rfl ?_|refine JC rfl ?_|refine JD rfl ?_|refine JE rfl ?_|refine JF rfl ?_|refine JG rfl ?_|refine JH rfl ?_|refine JI rfl ?_|refine J2 rfl ?_|refine J3 rfl ?_|refine J4 rfl ?_|refine J1 rfl ?_|refine J6 rfl ?_|refine J7 rfl ?_|refine JJ rfl ?_|refine JK rfl ?_|refine JQ rfl ?_|refine JL rfl rfl ?_|refine JM rfl rfl ?_|refine JN rfl ?_|refine JO rfl ?_|refine JP rfl ?_))
  refine e_bx S rfl fun b2 w S => ?_
  refine e_bx S rfl fun b3 w S => ?_
  (repeat (first|(with_reducible first|refine Ja ?_|refine Jb ?_|refine Jc ?_|refine Jd ?_|refine Je ?_|refine Jf ?_|refine Jg ?_|refine Jh ?_|refine Ji ?_|refine Jj ?_|refine Jk rfl ?_|refine Jl ?_|refine Jm ?_|refine Jn ?_|refine Jo ?_|refine Jp ?_|refine Jq ?_)|refine JA rfl ?_|refine JB rfl ?_|refine JC rfl ?_|refine JD rfl ?_|refine JE rfl ?_|refine JF rfl ?_|refine JG rfl ?_|refine JH rfl ?_|refine JI rfl ?_|refine J2 rfl ?_|refine J3 rfl ?_|refine J4 rfl ?_|refine J1 rfl ?_|refine J6 rfl ?_|refine J7 rfl ?_|refine JJ rfl ?_|refine JK rfl ?_|refine JQ rfl ?_|refine JL rfl rfl ?_|refine JM rfl rfl ?_|refine JN rfl ?_|refine JO rfl ?_|refine JP rfl ?_))
  exact f_ret rfl rfl (hQ _ _ _ ⟨b3, b2, rfl, rfl⟩ S)

end Go.Proofs.Ytgendpinmmmfjaa

/-
  The walk of the payloads' iterator.
-/
namespace Go.Proofs.Ytgendpinmmmfjaa
open Dn
attribute [local irreducible] Evs Ev EvT DSpec PSpec CallTo
set_option maxRecDepth 10000

theorem ar_addN (a b : Int) (r : Nat) (hr : a + b = (r : Int)) (h2 : r < 9223372036854775808) : arV .add (.int .i64 a) (.int .i64 b) = some (.int .i64 (r : Int)) := by
  simp only [arV, kEq, cond_true, hr, wrap_id (show (-9223372036854775808 : Int) ≤ (r : Int) by omega) (by omega)]
theorem ar_mulN (a b : Int) (r : Nat) (hr : a * b = (r : Int)) (h2 : r < 9223372036854775808) : arV .mul (.int .i64 a) (.int .i64 b) = some (.int .i64 (r : Int)) := by
  simp only [arV, kEq, cond_true, hr, wrap_id (show (-9223372036854775808 : Int) ≤ (r : Int) by omega) (by omega)]
theorem cat_list (a b : List UInt8) : (⟨⟨a⟩⟩ : ByteArray) ++ ⟨⟨b⟩⟩ = ⟨⟨a ++ b⟩⟩ := by
  apply ByteArray.ext
  simp
theorem sizeW_le {n i : Nat} (h : i < sizeW n) : 26 * i ≤ n := by
  unfold sizeW at h
  split at h <;> omega

theorem w_iter (lp b3 b2 : Nat) (t : Tl) (r : Sec) (ht : t.ok) (hr : r.length ≤ 4096) (J : Nat → List (Nat × Obj) → Prop) (Stop : List (Nat × Obj) → Prop)
    (hy : ∀ i, i < sizeW r.length → ∀ L, J i L → DY Try.prog lp [.int .i64 (i : Int), .string ⟨⟨payB t r i⟩⟩] L fun v L' => (v = .bool true ∧ J (i + 1) L') ∨ (v = .bool false ∧ Stop L')) (L0 : List (Nat × Obj)) (h0 : J 0 L0) :
    DSpec Try.prog 52 ([] ++ [.func (.yield lp) #[] #[]] ++ [.pointer (some ⟨b3, 0, none⟩), .pointer (some ⟨b2, 0, none⟩)]) ([(b3, .cells ⟨[.string ⟨⟨r⟩⟩]⟩ 9), (b2, .cells ⟨t.v⟩ 31)] ++ L0)
      fun _ L' => ∃ L'', L' = [(b3, .cells ⟨[.string ⟨⟨r⟩⟩]⟩ 9), (b2, .cells ⟨t.v⟩ 31)] ++ L'' ∧ (J (sizeW r.length) L'' ∨ Stop L'') := by
  refine spec_of mix Try.func52 c52_eq rfl rfl fun w F Q S hQ => ?_
  have ht' := ht
  unfold Tl.ok Gn.ok0 at ht'
  have hsz : sizeW r.length ≤ 158 := by unfold sizeW; split <;> omega
  (repeat (first|(with_reducible first|refine Ja ?_|refine Jb ?_|refine Jc ?_|refine Jd ?_|refine Je ?_|refine Jf ?_|refine Jg ?_|refine Jh ?_|refine Ji ?_|refine Jj ?_|refine Jk rfl ?_|refine Jl ?_|refine Jm ?_|refine Jn ?_|refine Jo ?_|refine Jp ?_|refine Jq ?_)|refine JA rfl ?_|refine JB rfl ?_|refine JC rfl ?_|refine JD rfl ?_|refine JE rfl ?_|refine JF rfl ?_|refine JG rfl ?_|refine JH rfl ?_|refine JI rfl ?_|refine J2 rfl ?_|refine J3 rfl ?_|refine J4 rfl ?_|refine J1 rfl ?_|refine J6 rfl ?_|refine J7 rfl ?_|refine JJ rfl ?_|refine JK rfl ?_|refine JQ rfl ?_|refine JL rfl rfl ?_|refine JM rfl rfl ?_|refine JN rfl ?_|refine JO rfl ?_|refine JP rfl ?_))
  refine e_ld (S.cell 0 rfl rfl) ?_
  refine e_p (v := .int .i64 ((r.length : Nat) : Int)) rfl ?_
  refine e_callP rfl (w_size r.length (by omega)) S fun w S => ?_
  (repeat (first|(with_reducible first|refine Ja ?_|refine Jb ?_|refine Jc ?_|refine Jd ?_|refine Je ?_|refine Jf ?_|refine Jg ?_|refine Jh ?_|refine Ji ?_|refine Jj ?_|refine Jk rfl ?_|refine Jl ?_|refine Jm ?_|refine Jn ?_|refine Jo ?_|refine Jp ?_|refine Jq ?_)|refine JA rfl ?_|refine JB rfl ?_|refine JC rfl ?_|refine JD rfl ?_|refine JE rfl ?_|refine JF rfl ?_|refine JG rfl ?_|refine JH rfl ?_|refine JI rfl ?_|refine J2 rfl ?_|refine J3 rfl ?_|refine J4 rfl ?_|refine J1 rfl ?_|refine J6 rfl ?_|refine J7 rfl ?_|refine JJ rfl ?_|refine JK rfl ?_|refine JQ rfl ?_|refine JL rfl rfl ?_|refine JM rfl rfl ?_|refine JN rfl ?_|refine JO rfl ?_|refine JP rfl ?_))
  refine s_loop (σ := Nat × List (Nat × Obj)) (fun s => [(10, .int .i64 (s.1 : Int)), (9, .int .i64 (sizeW r.length : Int)), (0, .func (.yield lp) #[] #[]), (1, .pointer (some ⟨b3, 0, none⟩)), (2, .pointer (some ⟨b2, 0, none⟩))])
    (fun s w => s.1 ≤ sizeW r.length ∧ J s.1 s.2 ∧ Dn.Sep w ([(b3, .cells ⟨[.string ⟨⟨r⟩⟩]⟩ 9), (b2, .cells ⟨t.v⟩ 31)] ++ s.2) F) (fun s => sizeW r.length - s.1) (0, L0) ⟨rfl, rfl, rfl, rfl, rfl, trivial⟩ rfl ⟨by simp, h0, S⟩ ?_
  rintro g ⟨i, L⟩ w ⟨hi, hJ, S⟩
  simp only [setL] at hi hJ S ⊢
  (repeat (first|(with_reducible first|refine Ja ?_|refine Jb ?_|refine Jc ?_|refine Jd ?_|refine Je ?_|refine Jf ?_|refine Jg ?_|refine Jh ?_|refine Ji ?_|refine Jj ?_|refine Jk rfl ?_|refine Jl ?_|refine Jm ?_|refine Jn ?_|refine Jo ?_|refine Jp ?_|refine Jq ?_)|refine JA rfl ?_|refine JB rfl ?_|refine JC rfl ?_|refine JD rfl ?_|refine JE rfl ?_|refine JF rfl ?_|refine JG rfl ?_|refine JH rfl ?_|refine JI rfl ?_|refine J2 rfl ?_|refine J3 rfl ?_|refine J4 rfl ?_|refine J1 rfl ?_|refine J6 rfl ?_|refine J7 rfl ?_|refine JJ rfl ?_|refine JK rfl ?_|refine JQ rfl ?_|refine JL rfl rfl ?_|refine JM rfl rfl ?_|refine JN rfl ?_|refine JO rfl ?_|refine JP rfl ?_))
  refine s_iteD rfl (fun h => ?_) (fun h => ?_)
  rotate_left
  · have hi' : i = sizeW r.length := by omega
    subst hi'
    (repeat (first|(with_reducible first|refine Ja ?_|refine Jb ?_|refine Jc ?_|refine Jd ?_|refine Je ?_|refine Jf ?_|refine Jg ?_|refine Jh ?_|refine Ji ?_|refine Jj ?_|refine Jk rfl ?_|refine Jl ?_|refine Jm ?_|refine Jn ?_|refine Jo ?_|refine Jp ?_|refine Jq ?_)|refine JA rfl ?_|refine JB rfl ?_|refine JC rfl ?_|refine JD rfl ?_|refine JE rfl ?_|refine JF rfl ?_|refine JG rfl ?_|refine JH rfl ?_|refine JI rfl ?_|refine J2 rfl ?_|refine J3 rfl ?_|refine J4 rfl ?_|refine J1 rfl ?_|refine J6 rfl ?_|refine J7 rfl ?_|refine JJ rfl ?_|refine JK rfl ?_|refine JQ rfl ?_|refine JL rfl rfl ?_|refine JM rfl rfl ?_|refine JN rfl ?_|refine JO rfl ?_|refine JP rfl ?_))
    exact f_end rfl rfl (hQ _ _ _ ⟨L, rfl, .inl hJ⟩ S)
  have hi' : i < sizeW r.length := by omega
  have h26 := sizeW_le hi'
  (repeat (first|(with_reducible first|refine Ja ?_|refine Jb ?_|refine Jc ?_|refine Jd ?_|refine Je ?_|refine Jf ?_|refine Jg ?_|refine Jh ?_|refine Ji ?_|refine Jj ?_|refine Jk rfl ?_|refine Jl ?_|refine Jm ?_|refine Jn ?_|refine Jo ?_|refine Jp ?_|refine Jq ?_)|refine JA rfl ?_|refine JB rfl ?_|refine JC rfl ?_|refine JD rfl ?_|refine JE rfl ?_|refine JF rfl ?_|refine JG rfl ?_|refine JH rfl ?_|refine JI rfl ?_|refine J2 rfl ?_|refine J3 rfl ?_|refine J4 rfl ?_|refine J1 rfl ?_|refine J6 rfl ?_|refine J7 rfl ?_|refine JJ rfl ?_|refine JK rfl ?_|refine JQ rfl ?_|refine JL rfl rfl ?_|refine JM rfl rfl ?_|refine JN rfl ?_|refine JO rfl ?_|refine JP rfl ?_))
  refine e_ld (S.cell 0 rfl rfl) ?_
  (repeat (first|(with_reducible first|refine Ja ?_|refine Jb ?_|refine Jc ?_|refine Jd ?_|refine Je ?_|refine Jf ?_|refine Jg ?_|refine Jh ?_|refine Ji ?_|refine Jj ?_|refine Jk rfl ?_|refine Jl ?_|refine Jm ?_|refine Jn ?_|refine Jo ?_|refine Jp ?_|refine Jq ?_)|refine JA rfl ?_|refine JB rfl ?_|refine JC rfl ?_|refine JD rfl ?_|refine JE rfl ?_|refine JF rfl ?_|refine JG rfl ?_|refine JH rfl ?_|refine JI rfl ?_|refine J2 rfl ?_|refine J3 rfl ?_|refine J4 rfl ?_|refine J1 rfl ?_|refine J6 rfl ?_|refine J7 rfl ?_|refine JJ rfl ?_|refine JK rfl ?_|refine JQ rfl ?_|refine JL rfl rfl ?_|refine JM rfl rfl ?_|refine JN rfl ?_|refine JO rfl ?_|refine JP rfl ?_))
  refine e_arv rfl rfl (ar_mulN 26 i (26 * i) (by omega) (by omega)) ?_
  refine e_slsL (i := 26 * i) (j := r.length) rfl (bnd_n _ _ _) (bnd_s rfl rfl (by omega)) (by omega) ?_
  have er : (r.drop (26 * i)).take (r.length - 26 * i) = r.drop (26 * i) := List.take_of_length_le (by simp)
  rw [er]
  (repeat (first|(with_reducible first|refine Ja ?_|refine Jb ?_|refine Jc ?_|refine Jd ?_|refine Je ?_|refine Jf ?_|refine Jg ?_|refine Jh ?_|refine Ji ?_|refine Jj ?_|refine Jk rfl ?_|refine Jl ?_|refine Jm ?_|refine Jn ?_|refine Jo ?_|refine Jp ?_|refine Jq ?_)|refine JA rfl ?_|refine JB rfl ?_|refine JC rfl ?_|refine JD rfl ?_|refine JE rfl ?_|refine JF rfl ?_|refine JG rfl ?_|refine JH rfl ?_|refine JI rfl ?_|refine J2 rfl ?_|refine J3 rfl ?_|refine J4 rfl ?_|refine J1 rfl ?_|refine J6 rfl ?_|refine J7 rfl ?_|refine JJ rfl ?_|refine JK rfl ?_|refine JQ rfl ?_|refine JL rfl rfl ?_|refine JM rfl rfl ?_|refine JN rfl ?_|refine JO rfl ?_|refine JP rfl ?_))
  refine e_ld (S.cell 1 rfl rfl) ?_
  refine e_arv rfl rfl (ar_addN t.number 1 (t.number + 1).toNat (by omega) (by omega)) ?_
  refine e_callN rfl (wal_put none 0 0 (t.number + 1).toNat 4 [] [] OwnS.nil (by omega) (by omega)) S ?_
  rintro _ Lb w ⟨ad, cap, rfl, hO⟩ S
  (repeat (with_reducible first|refine Ja ?_|refine Jb ?_|refine Jc ?_|refine Jd ?_|refine Je ?_|refine Jf ?_|refine Jg ?_|refine Jh ?_|refine Ji ?_|refine Jj ?_|refine Jk rfl ?_|refine Jl ?_|refine Jm ?_|refine Jn ?_|refine Jo ?_|refine Jp ?_|refine Jq ?_))
  refine e_mvS rfl ?_
  refine e_p (v := .int .i64 ((r.length - 26 * i : Nat) : Int)) (congrArg (fun n : Nat => some (Value.int .i64 (n : Int))) (show (r.drop (26 * i)).length = _ by simp)) ?_
  refine e_call rfl (wal_put ad _ cap (r.length - 26 * i) 2 _ Lb hO (by omega) (by omega)) S ?_
  rintro _ Lb w ⟨ad, cap, rfl, hO⟩ S
  (repeat (with_reducible first|refine Ja ?_|refine Jb ?_|refine Jc ?_|refine Jd ?_|refine Je ?_|refine Jf ?_|refine Jg ?_|refine Jh ?_|refine Ji ?_|refine Jj ?_|refine Jk rfl ?_|refine Jl ?_|refine Jm ?_|refine Jn ?_|refine Jo ?_|refine Jp ?_|refine Jq ?_))
  refine e_mvL rfl ?_
  (repeat (with_reducible first|refine Ja ?_|refine Jb ?_|refine Jc ?_|refine Jd ?_|refine Je ?_|refine Jf ?_|refine Jg ?_|refine Jh ?_|refine Ji ?_|refine Jj ?_|refine Jk rfl ?_|refine Jl ?_|refine Jm ?_|refine Jn ?_|refine Jo ?_|refine Jp ?_|refine Jq ?_))
  replace S := S.drew
  have c2 : t.v[2]? = some (.int .i64 ((t.gen.epoch.toNat : Nat) : Int)) := by show some (Value.int .i64 t.gen.epoch) = _; congr 2; omega
  have c3 : t.v[3]? = some (.int .i64 ((t.gen.count.toNat : Nat) : Int)) := by show some (Value.int .i64 t.gen.count) = _; congr 2; omega
  (repeat (first|(with_reducible first|refine Ja ?_|refine Jb ?_|refine Jc ?_|refine Jd ?_|refine Je ?_|refine Jf ?_|refine Jg ?_|refine Jh ?_|refine Ji ?_|refine Jj ?_|refine Jk rfl ?_|refine Jl ?_|refine Jm ?_|refine Jn ?_|refine Jo ?_|refine Jp ?_|refine Jq ?_)|refine JA rfl ?_|refine JB rfl ?_|refine JC rfl ?_|refine JD rfl ?_|refine JE rfl ?_|refine JF rfl ?_|refine JG rfl ?_|refine JH rfl ?_|refine JI rfl ?_|refine J2 rfl ?_|refine J3 rfl ?_|refine J4 rfl ?_|refine J1 rfl ?_|refine J6 rfl ?_|refine J7 rfl ?_|refine JJ rfl ?_|refine JK rfl ?_|refine JQ rfl ?_|refine JL rfl rfl ?_|refine JM rfl rfl ?_|refine JN rfl ?_|refine JO rfl ?_|refine JP rfl ?_))
  refine e_ld (v := .int .i64 ((t.gen.epoch.toNat : Nat) : Int)) (S.cell 1 rfl c2) ?_
  (repeat (first|(with_reducible first|refine Ja ?_|refine Jb ?_|refine Jc ?_|refine Jd ?_|refine Je ?_|refine Jf ?_|refine Jg ?_|refine Jh ?_|refine Ji ?_|refine Jj ?_|refine Jk rfl ?_|refine Jl ?_|refine Jm ?_|refine Jn ?_|refine Jo ?_|refine Jp ?_|refine Jq ?_)|refine JA rfl ?_|refine JB rfl ?_|refine JC rfl ?_|refine JD rfl ?_|refine JE rfl ?_|refine JF rfl ?_|refine JG rfl ?_|refine JH rfl ?_|refine JI rfl ?_|refine J2 rfl ?_|refine J3 rfl ?_|refine J4 rfl ?_|refine J1 rfl ?_|refine J6 rfl ?_|refine J7 rfl ?_|refine JJ rfl ?_|refine JK rfl ?_|refine JQ rfl ?_|refine JL rfl rfl ?_|refine JM rfl rfl ?_|refine JN rfl ?_|refine JO rfl ?_|refine JP rfl ?_))
  refine t_alt ?_ ?_
  all_goals
    repeat' first
      | (refine e_ld (v := .int .i64 ((t.gen.count.toNat : Nat) : Int)) (S.cell 1 rfl c3) ?_)
      | (first|(with_reducible first|refine Ja ?_|refine Jb ?_|refine Jc ?_|refine Jd ?_|refine Je ?_|refine Jf ?_|refine Jg ?_|refine Jh ?_|refine Ji ?_|refine Jj ?_|refine Jk rfl ?_|refine Jl ?_|refine Jm ?_|refine Jn ?_|refine Jo ?_|refine Jp ?_|refine Jq ?_)|refine JA rfl ?_|refine JB rfl ?_|refine JC rfl ?_|refine JD rfl ?_|refine JE rfl ?_|refine JF rfl ?_|refine JG rfl ?_|refine JH rfl ?_|refine JI rfl ?_|refine J2 rfl ?_|refine J3 rfl ?_|refine J4 rfl ?_|refine J1 rfl ?_|refine J6 rfl ?_|refine J7 rfl ?_|refine JJ rfl ?_|refine JK rfl ?_|refine JQ rfl ?_|refine JL rfl rfl ?_|refine JM rfl rfl ?_|refine JN rfl ?_|refine JO rfl ?_|refine JP rfl ?_)
    refine e_call rfl (wal_put ad _ cap t.gen.epoch.toNat 4 _ Lb hO (by omega) (by omega)) S ?_
    rintro _ Lb w ⟨ad, cap, rfl, hO⟩ S
    repeat' first
      | (refine e_ld (v := .int .i64 ((t.gen.count.toNat : Nat) : Int)) (S.cell 1 rfl c3) ?_)
      | (first|(with_reducible first|refine Ja ?_|refine Jb ?_|refine Jc ?_|refine Jd ?_|refine Je ?_|refine Jf ?_|refine Jg ?_|refine Jh ?_|refine Ji ?_|refine Jj ?_|refine Jk rfl ?_|refine Jl ?_|refine Jm ?_|refine Jn ?_|refine Jo ?_|refine Jp ?_|refine Jq ?_)|refine JA rfl ?_|refine JB rfl ?_|refine JC rfl ?_|refine JD rfl ?_|refine JE rfl ?_|refine JF rfl ?_|refine JG rfl ?_|refine JH rfl ?_|refine JI rfl ?_|refine J2 rfl ?_|refine J3 rfl ?_|refine J4 rfl ?_|refine J1 rfl ?_|refine J6 rfl ?_|refine J7 rfl ?_|refine JJ rfl ?_|refine JK rfl ?_|refine JQ rfl ?_|refine JL rfl rfl ?_|refine JM rfl rfl ?_|refine JN rfl ?_|refine JO rfl ?_|refine JP rfl ?_)
    refine e_call rfl (wal_put ad _ cap t.gen.count.toNat 4 _ Lb hO (by omega) (by omega)) S ?_
    rintro _ Lb w ⟨ad, cap, rfl, hO⟩ S
    (repeat (with_reducible first|refine Ja ?_|refine Jb ?_|refine Jc ?_|refine Jd ?_|refine Je ?_|refine Jf ?_|refine Jg ?_|refine Jh ?_|refine Ji ?_|refine Jj ?_|refine Jk rfl ?_|refine Jl ?_|refine Jm ?_|refine Jn ?_|refine Jo ?_|refine Jp ?_|refine Jq ?_))
    refine e_mvL rfl ?_
    (repeat (with_reducible first|refine Ja ?_|refine Jb ?_|refine Jc ?_|refine Jd ?_|refine Je ?_|refine Jf ?_|refine Jg ?_|refine Jh ?_|refine Ji ?_|refine Jj ?_|refine Jk rfl ?_|refine Jl ?_|refine Jm ?_|refine Jn ?_|refine Jo ?_|refine Jp ?_|refine Jq ?_))
    refine s_opsd ?_
    replace S := S.drew
    refine e_mvF rfl ?_
    refine e_mvI rfl ?_
    refine e_mvL rfl ?_
    refine e_b2s (own_str hO S) ?_
    refine e_mvS rfl ?_
    refine e_mvS rfl ?_
    refine e_p (v := .int .i64 ((r.length - 26 * i : Nat) : Int)) (congrArg (fun n : Nat => some (Value.int .i64 (n : Int))) (show (r.drop (26 * i)).length = _ by simp)) ?_
    refine e_p (v := .int .i64 ((min 26 (r.length - 26 * i) : Nat) : Int)) (by
      show some (Value.int .i64 (if ((r.length - 26 * i : Nat) : Int) < 26 then ((r.length - 26 * i : Nat) : Int) else 26)) = _
      congr 2; split <;> omega) ?_
    refine e_slsL (s := r.drop (26 * i)) (i := 0) (j := min 26 (r.length - 26 * i)) rfl (bnd_s rfl rfl (by simp; omega)) (bnd_n _ _ _) (by simp; omega) ?_
    have et : ((r.drop (26 * i)).drop 0).take (min 26 (r.length - 26 * i) - 0) = (r.drop (26 * i)).take 26 := by
      rw [List.drop_zero, Nat.sub_zero]
      have : r.length - 26 * i = (r.drop (26 * i)).length := by simp
      rw [this, Nat.min_comm, List.take_eq_take_iff]
      omega
    rw [et]
    refine e_cat rfl rfl (by
      show (List.length _) + (List.length _) < _
      simp; omega) ?_
    rw [cat_list]
    have ep : ([] ++ leB 4 (t.number + 1).toNat ++ leB 2 (r.length - 26 * i) ++ leB 4 t.gen.epoch.toNat ++ leB 4 t.gen.count.toNat) ++ (r.drop (26 * i)).take 26 = payB t r i := by simp [payB, gnB]
    rw [ep]
    have S1 := Sep.drop (L2 := Lb) (S.perm List.perm_append_comm)
    refine e_cy rfl rfl (hy i hi' L hJ) S1 ?_
    rintro _ L' w (⟨rfl, hJ'⟩ | ⟨rfl, hst⟩) S
    · (repeat (first|(with_reducible first|refine Ja ?_|refine Jb ?_|refine Jc ?_|refine Jd ?_|refine Je ?_|refine Jf ?_|refine Jg ?_|refine Jh ?_|refine Ji ?_|refine Jj ?_|refine Jk rfl ?_|refine Jl ?_|refine Jm ?_|refine Jn ?_|refine Jo ?_|refine Jp ?_|refine Jq ?_)|refine JA rfl ?_|refine JB rfl ?_|refine JC rfl ?_|refine JD rfl ?_|refine JE rfl ?_|refine JF rfl ?_|refine JG rfl ?_|refine JH rfl ?_|refine JI rfl ?_|refine J2 rfl ?_|refine J3 rfl ?_|refine J4 rfl ?_|refine J1 rfl ?_|refine J6 rfl ?_|refine J7 rfl ?_|refine JJ rfl ?_|refine JK rfl ?_|refine JQ rfl ?_|refine JL rfl rfl ?_|refine JM rfl rfl ?_|refine JN rfl ?_|refine JO rfl ?_|refine JP rfl ?_))
      refine e_add rfl rfl (by omega) (by omega) ?_
      (repeat (first|(with_reducible first|refine Ja ?_|refine Jb ?_|refine Jc ?_|refine Jd ?_|refine Je ?_|refine Jf ?_|refine Jg ?_|refine Jh ?_|refine Ji ?_|refine Jj ?_|refine Jk rfl ?_|refine Jl ?_|refine Jm ?_|refine Jn ?_|refine Jo ?_|refine Jp ?_|refine Jq ?_)|refine JA rfl ?_|refine JB rfl ?_|refine JC rfl ?_|refine JD rfl ?_|refine JE rfl ?_|refine JF rfl ?_|refine JG rfl ?_|refine JH rfl ?_|refine JI rfl ?_|refine J2 rfl ?_|refine J3 rfl ?_|refine J4 rfl ?_|refine J1 rfl ?_|refine J6 rfl ?_|refine J7 rfl ?_|refine JJ rfl ?_|refine JK rfl ?_|refine JQ rfl ?_|refine JL rfl rfl ?_|refine JM rfl rfl ?_|refine JN rfl ?_|refine JO rfl ?_|refine JP rfl ?_))
      exact ⟨rfl, (i + 1, L'), ⟨rfl, rfl, rfl, rfl, rfl, trivial⟩, ⟨by omega, hJ', S⟩, by simp; omega⟩
    · (repeat (first|(with_reducible first|refine Ja ?_|refine Jb ?_|refine Jc ?_|refine Jd ?_|refine Je ?_|refine Jf ?_|refine Jg ?_|refine Jh ?_|refine Ji ?_|refine Jj ?_|refine Jk rfl ?_|refine Jl ?_|refine Jm ?_|refine Jn ?_|refine Jo ?_|refine Jp ?_|refine Jq ?_)|refine JA rfl ?_|refine JB rfl ?_|refine JC rfl ?_|refine JD rfl ?_|refine JE rfl ?_|refine JF rfl ?_|refine JG rfl ?_|refine JH rfl ?_|refine JI rfl ?_|refine J2 rfl ?_|refine J3 rfl ?_|refine J4 rfl ?_|refine J1 rfl ?_|refine J6 rfl ?_|refine J7 rfl ?_|refine JJ rfl ?_|refine JK rfl ?_|refine JQ rfl ?_|refine JL rfl rfl ?_|refine JM rfl rfl ?_|refine JN rfl ?_|refine JO rfl ?_|refine JP rfl ?_))
      exact f_ret rfl rfl (hQ _ _ _ ⟨L', rfl, .inr hst⟩ S)

end Go.Proofs.Ytgendpinmmmfjaa

/-
  What stays of a shelf when it is written to; contracts framed and put in another order.
-/
namespace Dn
open Go

theorem GM.set_mem {α : Type} {g : GM α} {k : Int} {v : α} {e : Int × α × Nat} (h : e ∈ (g.set k v).es) : e ∈ g.es ∨ e.2.1 = v := by
  unfold GM.set at h
  split at h
  · rename_i es hes
    have key : ∀ (l es : List (Int × α × Nat)), GM.upd k v l = some es → ∀ e ∈ es, e ∈ l ∨ e.2.1 = v := by
      intro l
      induction l with
      | nil => intro es h; simp [GM.upd] at h
      | cons x l ih =>
        intro es h e he
        simp only [GM.upd] at h
        split at h
        · injection h with h; subst h
          rcases List.mem_cons.1 he with rfl | he
          · exact .inr rfl
          · exact .inl (List.mem_cons_of_mem _ he)
        · cases hu : GM.upd k v l with
          | none => rw [hu] at h; simp at h
          | some es' =>
            rw [hu] at h; simp at h; subst h
            rcases List.mem_cons.1 he with rfl | he
            · exact .inl (List.mem_cons_self ..)
            · rcases ih es' hu e he with h | h
              · exact .inl (List.mem_cons_of_mem _ h)
              · exact .inr h
    exact key _ _ hes _ h
  · rcases List.mem_append.1 h with h | h
    · exact .inl h
    · simp only [List.mem_singleton] at h; subst h; exact .inr rfl
theorem write_ok {D : Dk} (h : D.ok) (i : Int) {t : Sec} (ht : t.length = 64) : (D.write i t).ok ∧ (D.write i t).dur = D.dur := by
  unfold Dk.write
  simp only
  split
  · exact ⟨⟨h.1, h.2⟩, rfl⟩
  · refine ⟨⟨h.1, fun e he => ?_⟩, rfl⟩
    rcases GM.set_mem he with h' | h'
    · exact h.2 e h'
    · rw [h']; exact ht

theorem setD_cfg (s : Sh) (d : Nat) (D : Dk) : (s.setD d D).cfg = s.cfg ∧ (s.setD d D).q = s.q ∧ (s.setD d D).bays.length = s.bays.length ∧ (s.setD d D).fused = s.fused ∧ (s.setD d D).left = s.left ∧ (s.setD d D).off = s.off := by
  simp [Sh.setD]
theorem setD_ok {s : Sh} (h : s.ok) {d : Nat} {D : Dk} (hD : D.ok) (hl : (D.dur.length : Int) = s.cfg.total) : (s.setD d D).ok := by
  obtain ⟨h1, h2, h3, h4, h5, h6⟩ := setD_cfg s d D
  refine ⟨by rw [h1]; exact h.cfg, by rw [h3, h1]; exact h.len, by rw [h4, h5]; exact h.fuse, fun b hb => ?_, fun b hb => ?_⟩
  · rcases List.mem_or_eq_of_mem_set hb with hb | rfl
    · exact h.dks b hb
    · exact hD
  · rw [h1]
    rcases List.mem_or_eq_of_mem_set hb with hb | rfl
    · exact h.szs b hb
    · exact hl
theorem step_ok {s : Sh} (h : s.ok) {d : Nat} {D : Dk} (hD : D.ok) (hl : (D.dur.length : Int) = s.cfg.total) : (s.stepS d D).ok ∧ (s.stepS d D).cfg = s.cfg ∧ (s.stepS d D).q = s.q := by
  have hk := setD_ok h (d := d) hD hl
  obtain ⟨h1, h2, h3, h4, h5, h6⟩ := setD_cfg s d D
  unfold Sh.stepS
  split
  · exact ⟨h, rfl, rfl⟩
  split
  · rename_i hf
    split
    · exact ⟨⟨h.cfg, h.len, by simp, h.dks, h.szs⟩, rfl, rfl⟩
    · rename_i hz
      refine ⟨⟨hk.cfg, hk.len, fun _ => ?_, hk.dks, hk.szs⟩, h1, h2⟩
      have := h.fuse hf
      show 0 ≤ s.left - 1 ∧ s.left - 1 < _
      omega
  · exact ⟨hk, h1, h2⟩
end Dn
namespace Go.Proofs.Ytgendpinmmmfjaa
open Dn
attribute [local irreducible] Evs Ev EvT DSpec PSpec CallTo
theorem wr_ok {s : Sh} (h : s.ok) (p : Pl) (t : Sec) : (s.wrS p t).ok ∧ (s.wrS p t).cfg = s.cfg ∧ (s.wrS p t).q = s.q := by
  unfold Sh.wrS
  split
  · exact ⟨h, rfl, rfl⟩
  · rename_i hn
    have ht : t.length = 64 := by omega
    have hn' := num_lt h (p := p) (by omega)
    obtain ⟨st, hb⟩ := dk_at (s := s) (d := p.disk.toNat) (by omega)
    have hw := write_ok (h.dks _ (List.mem_of_getElem? hb)) (s.num p) ht
    exact step_ok h hw.1 (by rw [hw.2]; exact h.szs _ (List.mem_of_getElem? hb))
end Go.Proofs.Ytgendpinmmmfjaa

/-
  The walk of Append.
-/
namespace Go.Proofs.Ytgendpinmmmfjaa
open Dn
attribute [local irreducible] Evs Ev EvT DSpec PSpec CallTo
set_option maxRecDepth 10000

theorem pay_len {t : Tl} {r : Sec} {i : Nat} : (payB t r i).length ≤ 40 := by
  simp [payB, gnB]; omega

/-- the blocks of Append's own variables -/
def apB (b11 b10 b8 b7 b6 b5 : Nat) (e : Int) (tl : Tl) (sv : Value) (d : Int) (t : Tl) (g : Gn) : List (Nat × Obj) :=
  [(b11, .cells ⟨[.int .i64 e]⟩ 32), (b10, .cells ⟨tl.v⟩ 31), (b8, .cells ⟨g.v⟩ 29), (b7, .cells ⟨t.v⟩ 31), (b6, .cells ⟨[.int .i64 d]⟩ 3), (b5, .cells ⟨[sv]⟩ 24)]

theorem appW_step {d : Int} {t : Tl} {g : Gn} {r : Sec} {k i : Nat} {s : Sh} (h : s.wrE (plW d (t.next + i)) (sealS (plW d (t.next + i)) g (payB t r i)) = 0) :
    appW d t g r (k + 1) i s = appW d t g r k (i + 1) (s.wrS (plW d (t.next + i)) (sealS (plW d (t.next + i)) g (payB t r i))) := by simp only [appW, if_pos h]
theorem appW_stop {d : Int} {t : Tl} {g : Gn} {r : Sec} {k i : Nat} {s : Sh} (h : ¬ s.wrE (plW d (t.next + i)) (sealS (plW d (t.next + i)) g (payB t r i)) = 0) :
    appW d t g r (k + 1) i s = (s.wrE (plW d (t.next + i)) (sealS (plW d (t.next + i)) g (payB t r i)), s.wrS (plW d (t.next + i)) (sealS (plW d (t.next + i)) g (payB t r i))) := by simp only [appW, if_neg h]

theorem w_append (s : Sh) (d : Int) (t : Tl) (g : Gn) (r : Sec) (hs : s.ok) (hr : r.length < 4611686018427387904) :
    DSpec Try.prog 15 [s.v, .int .i64 d, .agg ⟨t.v⟩, .agg ⟨g.v⟩, .string ⟨⟨r⟩⟩] s.L fun v L => v = .tuple ⟨[.agg ⟨(appendW s d t g r).1.v⟩, .int .i64 (appendW s d t g r).2.1]⟩ ∧ L = (appendW s d t g r).2.2.L := by
  refine spec_of mix Try.func15 c15_eq rfl rfl fun w F Q S hQ => ?_
  have hc := hs.cfg
  unfold Cfg.ok at hc
  (repeat (with_reducible first|refine Ja ?_|refine Jb ?_|refine Jc ?_|refine Jd ?_|refine Je ?_|refine Jf ?_|refine Jg ?_|refine Jh ?_|refine Ji ?_|refine Jj ?_|refine Jk rfl ?_|refine Jl ?_|refine Jm ?_|refine Jn ?_|refine Jo ?_|refine Jp ?_|refine Jq ?_))
  refine e_bx S rfl fun b5 w S => ?_
  refine e_bx S rfl fun b6 w S => ?_
  refine e_bx S rfl fun b7 w S => ?_
  refine e_bx S rfl fun b8 w S => ?_
  refine e_nwE S (cs' := zT.v) rfl fun b10 w S => ?_
  refine e_nwE S (cs' := [.int .i64 0]) rfl fun b11 w S => ?_
  replace S : Dn.Sep w (apB b11 b10 b8 b7 b6 b5 0 zT s.v d t g ++ s.L) F := S
  -- a refusal
  have bad : ∀ {e : Int}, appendW s d t g r = (zT, e, s) → ∀ {w' : World} {T : Rg}, T.ds = [] → T.f 10 = .pointer (some ⟨b10, 0, none⟩) → T.f 11 = .pointer (some ⟨b11, 0, none⟩) → Dn.Sep w' (apB b11 b10 b8 b7 b6 b5 e zT s.v d t g ++ s.L) F →
      finK [.cl (.r 10) (some 4), .cl (.r 11) none] Q .r T w' := by
    intro e he w' T h1 h2 h3 S
    refine f_ret (vs := [.agg ⟨zT.v⟩, .int .i64 e]) h1 (rvs2 ?_ ?_) (hQ _ _ _ ⟨by rw [he]; rfl, by rw [he]⟩ (Sep.drop (L2 := apB b11 b10 b8 b7 b6 b5 e zT s.v d t g) S))
    · show ldV (some 4) (T.f 10) w' = _
      rw [h2]; exact S.row 1 rfl (by simp [Tl.v]) rfl
    · show ldV none (T.f 11) w' = _
      rw [h3]; exact S.cell 0 rfl rfl
  have hAll : ∀ {e : Int} {w' : World}, Dn.Sep w' (((apB b11 b10 b8 b7 b6 b5 0 zT s.v d t g ++ s.L).set 1 (b10, .cells ⟨putAt zT.v 0 zT.v⟩ 31)).set 0 (b11, .cells ⟨putAt [.int .i64 0] 0 [.int .i64 e]⟩ 32)) F → Dn.Sep w' (apB b11 b10 b8 b7 b6 b5 e zT s.v d t g ++ s.L) F := fun S => S
  (repeat (with_reducible first|refine Ja ?_|refine Jb ?_|refine Jc ?_|refine Jd ?_|refine Je ?_|refine Jf ?_|refine Jg ?_|refine Jh ?_|refine Ji ?_|refine Jj ?_|refine Jk rfl ?_|refine Jl ?_|refine Jm ?_|refine Jn ?_|refine Jo ?_|refine Jp ?_|refine Jq ?_))
  refine e_mvS rfl ?_
  refine e_p (v := .int .i64 ((r.length : Nat) : Int)) rfl ?_
  refine e_callP rfl (w_size r.length (by omega)) S fun w S => ?_
  (repeat (first|(with_reducible first|refine Ja ?_|refine Jb ?_|refine Jc ?_|refine Jd ?_|refine Je ?_|refine Jf ?_|refine Jg ?_|refine Jh ?_|refine Ji ?_|refine Jj ?_|refine Jk rfl ?_|refine Jl ?_|refine Jm ?_|refine Jn ?_|refine Jo ?_|refine Jp ?_|refine Jq ?_)|refine JA rfl ?_|refine JB rfl ?_|refine JC rfl ?_|refine JD rfl ?_|refine JE rfl ?_|refine JF rfl ?_|refine JG rfl ?_|refine JH rfl ?_|refine JI rfl ?_|refine J2 rfl ?_|refine J3 rfl ?_|refine J4 rfl ?_|refine J1 rfl ?_|refine J6 rfl ?_|refine J7 rfl ?_|refine JJ rfl ?_|refine JK rfl ?_|refine JQ rfl ?_|refine JL rfl rfl ?_|refine JM rfl rfl ?_|refine JN rfl ?_|refine JO rfl ?_|refine JP rfl ?_))
  refine e_ld (S.cell 5 rfl rfl) ?_
  refine e_ld (S.cell 4 rfl rfl) ?_
  refine e_ld (v := .agg ⟨t.v⟩) (S.row 3 rfl (by simp [Tl.v]) rfl) ?_
  refine e_call (L2 := apB b11 b10 b8 b7 b6 b5 0 zT s.v d t g) rfl (w_valid s d t) S ?_
  rintro _ _ w ⟨rfl, rfl⟩ S
  (repeat (first|(with_reducible first|refine Ja ?_|refine Jb ?_|refine Jc ?_|refine Jd ?_|refine Je ?_|refine Jf ?_|refine Jg ?_|refine Jh ?_|refine Ji ?_|refine Jj ?_|refine Jk rfl ?_|refine Jl ?_|refine Jm ?_|refine Jn ?_|refine Jo ?_|refine Jp ?_|refine Jq ?_)|refine JA rfl ?_|refine JB rfl ?_|refine JC rfl ?_|refine JD rfl ?_|refine JE rfl ?_|refine JF rfl ?_|refine JG rfl ?_|refine JH rfl ?_|refine JI rfl ?_|refine J2 rfl ?_|refine J3 rfl ?_|refine J4 rfl ?_|refine J1 rfl ?_|refine J6 rfl ?_|refine J7 rfl ?_|refine JJ rfl ?_|refine JK rfl ?_|refine JQ rfl ?_|refine JL rfl rfl ?_|refine JM rfl rfl ?_|refine JN rfl ?_|refine JO rfl ?_|refine JP rfl ?_))
  refine e_brN rfl (fun hv => ?_) (fun hv => ?_)
  rotate_left
  · (repeat (first|(with_reducible first|refine Ja ?_|refine Jb ?_|refine Jc ?_|refine Jd ?_|refine Je ?_|refine Jf ?_|refine Jg ?_|refine Jh ?_|refine Ji ?_|refine Jj ?_|refine Jk rfl ?_|refine Jl ?_|refine Jm ?_|refine Jn ?_|refine Jo ?_|refine Jp ?_|refine Jq ?_)|refine JA rfl ?_|refine JB rfl ?_|refine JC rfl ?_|refine JD rfl ?_|refine JE rfl ?_|refine JF rfl ?_|refine JG rfl ?_|refine JH rfl ?_|refine JI rfl ?_|refine J2 rfl ?_|refine J3 rfl ?_|refine J4 rfl ?_|refine J1 rfl ?_|refine J6 rfl ?_|refine J7 rfl ?_|refine JJ rfl ?_|refine JK rfl ?_|refine JQ rfl ?_|refine JL rfl rfl ?_|refine JM rfl rfl ?_|refine JN rfl ?_|refine JO rfl ?_|refine JP rfl ?_))
    refine e_st (vs := zT.v) S 1 rfl rfl rfl rfl (by simp [zT, Tl.v, Value.flat]) (by simp [zT, Tl.v]) fun w S => ?_
    refine e_st (vs := [.int .i64 1]) S 0 rfl rfl rfl rfl (by simp [Value.flat]) (by simp) fun w S => ?_
    (repeat (first|(with_reducible first|refine Ja ?_|refine Jb ?_|refine Jc ?_|refine Jd ?_|refine Je ?_|refine Jf ?_|refine Jg ?_|refine Jh ?_|refine Ji ?_|refine Jj ?_|refine Jk rfl ?_|refine Jl ?_|refine Jm ?_|refine Jn ?_|refine Jo ?_|refine Jp ?_|refine Jq ?_)|refine JA rfl ?_|refine JB rfl ?_|refine JC rfl ?_|refine JD rfl ?_|refine JE rfl ?_|refine JF rfl ?_|refine JG rfl ?_|refine JH rfl ?_|refine JI rfl ?_|refine J2 rfl ?_|refine J3 rfl ?_|refine J4 rfl ?_|refine J1 rfl ?_|refine J6 rfl ?_|refine J7 rfl ?_|refine JJ rfl ?_|refine JK rfl ?_|refine JQ rfl ?_|refine JL rfl rfl ?_|refine JM rfl rfl ?_|refine JN rfl ?_|refine JO rfl ?_|refine JP rfl ?_))
    exact bad (e := 1) (by unfold appendW; rw [if_pos (fun h => hv h.1)]) rfl rfl rfl (hAll S)
  (repeat (first|(with_reducible first|refine Ja ?_|refine Jb ?_|refine Jc ?_|refine Jd ?_|refine Je ?_|refine Jf ?_|refine Jg ?_|refine Jh ?_|refine Ji ?_|refine Jj ?_|refine Jk rfl ?_|refine Jl ?_|refine Jm ?_|refine Jn ?_|refine Jo ?_|refine Jp ?_|refine Jq ?_)|refine JA rfl ?_|refine JB rfl ?_|refine JC rfl ?_|refine JD rfl ?_|refine JE rfl ?_|refine JF rfl ?_|refine JG rfl ?_|refine JH rfl ?_|refine JI rfl ?_|refine J2 rfl ?_|refine J3 rfl ?_|refine J4 rfl ?_|refine J1 rfl ?_|refine J6 rfl ?_|refine J7 rfl ?_|refine JJ rfl ?_|refine JK rfl ?_|refine JQ rfl ?_|refine JL rfl rfl ?_|refine JM rfl rfl ?_|refine JN rfl ?_|refine JO rfl ?_|refine JP rfl ?_))
  refine e_ld (v := .agg ⟨g.v⟩) (S.row 2 rfl (by simp [Gn.v]) rfl) ?_
  refine e_gdT rfl ?_
  refine e_callP rfl (w_validGen g) S fun w S => ?_
  (repeat (first|(with_reducible first|refine Ja ?_|refine Jb ?_|refine Jc ?_|refine Jd ?_|refine Je ?_|refine Jf ?_|refine Jg ?_|refine Jh ?_|refine Ji ?_|refine Jj ?_|refine Jk rfl ?_|refine Jl ?_|refine Jm ?_|refine Jn ?_|refine Jo ?_|refine Jp ?_|refine Jq ?_)|refine JA rfl ?_|refine JB rfl ?_|refine JC rfl ?_|refine JD rfl ?_|refine JE rfl ?_|refine JF rfl ?_|refine JG rfl ?_|refine JH rfl ?_|refine JI rfl ?_|refine J2 rfl ?_|refine J3 rfl ?_|refine J4 rfl ?_|refine J1 rfl ?_|refine J6 rfl ?_|refine J7 rfl ?_|refine JJ rfl ?_|refine JK rfl ?_|refine JQ rfl ?_|refine JL rfl rfl ?_|refine JM rfl rfl ?_|refine JN rfl ?_|refine JO rfl ?_|refine JP rfl ?_))
  refine s_iteN rfl (fun hg => ?_) (fun hg => ?_)
  · (repeat (first|(with_reducible first|refine Ja ?_|refine Jb ?_|refine Jc ?_|refine Jd ?_|refine Je ?_|refine Jf ?_|refine Jg ?_|refine Jh ?_|refine Ji ?_|refine Jj ?_|refine Jk rfl ?_|refine Jl ?_|refine Jm ?_|refine Jn ?_|refine Jo ?_|refine Jp ?_|refine Jq ?_)|refine JA rfl ?_|refine JB rfl ?_|refine JC rfl ?_|refine JD rfl ?_|refine JE rfl ?_|refine JF rfl ?_|refine JG rfl ?_|refine JH rfl ?_|refine JI rfl ?_|refine J2 rfl ?_|refine J3 rfl ?_|refine J4 rfl ?_|refine J1 rfl ?_|refine J6 rfl ?_|refine J7 rfl ?_|refine JJ rfl ?_|refine JK rfl ?_|refine JQ rfl ?_|refine JL rfl rfl ?_|refine JM rfl rfl ?_|refine JN rfl ?_|refine JO rfl ?_|refine JP rfl ?_))
    refine e_st (vs := zT.v) S 1 rfl rfl rfl rfl (by simp [zT, Tl.v, Value.flat]) (by simp [zT, Tl.v]) fun w S => ?_
    refine e_st (vs := [.int .i64 1]) S 0 rfl rfl rfl rfl (by simp [Value.flat]) (by simp) fun w S => ?_
    (repeat (first|(with_reducible first|refine Ja ?_|refine Jb ?_|refine Jc ?_|refine Jd ?_|refine Je ?_|refine Jf ?_|refine Jg ?_|refine Jh ?_|refine Ji ?_|refine Jj ?_|refine Jk rfl ?_|refine Jl ?_|refine Jm ?_|refine Jn ?_|refine Jo ?_|refine Jp ?_|refine Jq ?_)|refine JA rfl ?_|refine JB rfl ?_|refine JC rfl ?_|refine JD rfl ?_|refine JE rfl ?_|refine JF rfl ?_|refine JG rfl ?_|refine JH rfl ?_|refine JI rfl ?_|refine J2 rfl ?_|refine J3 rfl ?_|refine J4 rfl ?_|refine J1 rfl ?_|refine J6 rfl ?_|refine J7 rfl ?_|refine JJ rfl ?_|refine JK rfl ?_|refine JQ rfl ?_|refine JL rfl rfl ?_|refine JM rfl rfl ?_|refine JN rfl ?_|refine JO rfl ?_|refine JP rfl ?_))
    exact bad (e := 1) (by unfold appendW; rw [if_pos (fun h => hg h.2)]) rfl rfl rfl (hAll S)
  have a1 : ∀ {α : Type} {x y : α}, (if ¬ (validW s d t ∧ g.ok0) then x else y) = y := fun {α x y} => if_neg (fun h => h ⟨hv, hg⟩)
  (repeat (first|(with_reducible first|refine Ja ?_|refine Jb ?_|refine Jc ?_|refine Jd ?_|refine Je ?_|refine Jf ?_|refine Jg ?_|refine Jh ?_|refine Ji ?_|refine Jj ?_|refine Jk rfl ?_|refine Jl ?_|refine Jm ?_|refine Jn ?_|refine Jo ?_|refine Jp ?_|refine Jq ?_)|refine JA rfl ?_|refine JB rfl ?_|refine JC rfl ?_|refine JD rfl ?_|refine JE rfl ?_|refine JF rfl ?_|refine JG rfl ?_|refine JH rfl ?_|refine JI rfl ?_|refine J2 rfl ?_|refine J3 rfl ?_|refine J4 rfl ?_|refine J1 rfl ?_|refine J6 rfl ?_|refine J7 rfl ?_|refine JJ rfl ?_|refine JK rfl ?_|refine JQ rfl ?_|refine JL rfl rfl ?_|refine JM rfl rfl ?_|refine JN rfl ?_|refine JO rfl ?_|refine JP rfl ?_))
  refine e_ld (v := .agg ⟨g.v⟩) (S.row 2 rfl (by simp [Gn.v]) rfl) ?_
  (repeat (first|(with_reducible first|refine Ja ?_|refine Jb ?_|refine Jc ?_|refine Jd ?_|refine Je ?_|refine Jf ?_|refine Jg ?_|refine Jh ?_|refine Ji ?_|refine Jj ?_|refine Jk rfl ?_|refine Jl ?_|refine Jm ?_|refine Jn ?_|refine Jo ?_|refine Jp ?_|refine Jq ?_)|refine JA rfl ?_|refine JB rfl ?_|refine JC rfl ?_|refine JD rfl ?_|refine JE rfl ?_|refine JF rfl ?_|refine JG rfl ?_|refine JH rfl ?_|refine JI rfl ?_|refine J2 rfl ?_|refine J3 rfl ?_|refine J4 rfl ?_|refine J1 rfl ?_|refine J6 rfl ?_|refine J7 rfl ?_|refine JJ rfl ?_|refine JK rfl ?_|refine JQ rfl ?_|refine JL rfl rfl ?_|refine JM rfl rfl ?_|refine JN rfl ?_|refine JO rfl ?_|refine JP rfl ?_))
  refine e_ld (v := .agg ⟨t.gen.v⟩) (S.row 3 rfl (by simp [Tl.v]) rfl) ?_
  refine e_callP rfl (sec_newer g t.gen) S fun w S => ?_
  (repeat (first|(with_reducible first|refine Ja ?_|refine Jb ?_|refine Jc ?_|refine Jd ?_|refine Je ?_|refine Jf ?_|refine Jg ?_|refine Jh ?_|refine Ji ?_|refine Jj ?_|refine Jk rfl ?_|refine Jl ?_|refine Jm ?_|refine Jn ?_|refine Jo ?_|refine Jp ?_|refine Jq ?_)|refine JA rfl ?_|refine JB rfl ?_|refine JC rfl ?_|refine JD rfl ?_|refine JE rfl ?_|refine JF rfl ?_|refine JG rfl ?_|refine JH rfl ?_|refine JI rfl ?_|refine J2 rfl ?_|refine J3 rfl ?_|refine J4 rfl ?_|refine J1 rfl ?_|refine J6 rfl ?_|refine J7 rfl ?_|refine JJ rfl ?_|refine JK rfl ?_|refine JQ rfl ?_|refine JL rfl rfl ?_|refine JM rfl rfl ?_|refine JN rfl ?_|refine JO rfl ?_|refine JP rfl ?_))
  refine s_iteN rfl (fun hn => ?_) (fun hn => ?_)
  · (repeat (first|(with_reducible first|refine Ja ?_|refine Jb ?_|refine Jc ?_|refine Jd ?_|refine Je ?_|refine Jf ?_|refine Jg ?_|refine Jh ?_|refine Ji ?_|refine Jj ?_|refine Jk rfl ?_|refine Jl ?_|refine Jm ?_|refine Jn ?_|refine Jo ?_|refine Jp ?_|refine Jq ?_)|refine JA rfl ?_|refine JB rfl ?_|refine JC rfl ?_|refine JD rfl ?_|refine JE rfl ?_|refine JF rfl ?_|refine JG rfl ?_|refine JH rfl ?_|refine JI rfl ?_|refine J2 rfl ?_|refine J3 rfl ?_|refine J4 rfl ?_|refine J1 rfl ?_|refine J6 rfl ?_|refine J7 rfl ?_|refine JJ rfl ?_|refine JK rfl ?_|refine JQ rfl ?_|refine JL rfl rfl ?_|refine JM rfl rfl ?_|refine JN rfl ?_|refine JO rfl ?_|refine JP rfl ?_))
    refine e_st (vs := zT.v) S 1 rfl rfl rfl rfl (by simp [zT, Tl.v, Value.flat]) (by simp [zT, Tl.v]) fun w S => ?_
    refine e_st (vs := [.int .i64 9]) S 0 rfl rfl rfl rfl (by simp [Value.flat]) (by simp) fun w S => ?_
    (repeat (first|(with_reducible first|refine Ja ?_|refine Jb ?_|refine Jc ?_|refine Jd ?_|refine Je ?_|refine Jf ?_|refine Jg ?_|refine Jh ?_|refine Ji ?_|refine Jj ?_|refine Jk rfl ?_|refine Jl ?_|refine Jm ?_|refine Jn ?_|refine Jo ?_|refine Jp ?_|refine Jq ?_)|refine JA rfl ?_|refine JB rfl ?_|refine JC rfl ?_|refine JD rfl ?_|refine JE rfl ?_|refine JF rfl ?_|refine JG rfl ?_|refine JH rfl ?_|refine JI rfl ?_|refine J2 rfl ?_|refine J3 rfl ?_|refine J4 rfl ?_|refine J1 rfl ?_|refine J6 rfl ?_|refine J7 rfl ?_|refine JJ rfl ?_|refine JK rfl ?_|refine JQ rfl ?_|refine JL rfl rfl ?_|refine JM rfl rfl ?_|refine JN rfl ?_|refine JO rfl ?_|refine JP rfl ?_))
    exact bad (e := 9) (by unfold appendW; rw [a1, if_pos hn]) rfl rfl rfl (hAll S)
  have hnew : g.newer t.gen := hn
  have a2 : ∀ {α : Type} {x y : α}, (if ¬ g.newer t.gen then x else y) = y := fun {α x y} => if_neg (fun h => h hn)
  (repeat (with_reducible first|refine Ja ?_|refine Jb ?_|refine Jc ?_|refine Jd ?_|refine Je ?_|refine Jf ?_|refine Jg ?_|refine Jh ?_|refine Ji ?_|refine Jj ?_|refine Jk rfl ?_|refine Jl ?_|refine Jm ?_|refine Jn ?_|refine Jo ?_|refine Jp ?_|refine Jq ?_))
  refine e_mvS rfl ?_
  refine e_p (v := .int .i64 ((r.length : Nat) : Int)) rfl ?_
  (repeat (first|(with_reducible first|refine Ja ?_|refine Jb ?_|refine Jc ?_|refine Jd ?_|refine Je ?_|refine Jf ?_|refine Jg ?_|refine Jh ?_|refine Ji ?_|refine Jj ?_|refine Jk rfl ?_|refine Jl ?_|refine Jm ?_|refine Jn ?_|refine Jo ?_|refine Jp ?_|refine Jq ?_)|refine JA rfl ?_|refine JB rfl ?_|refine JC rfl ?_|refine JD rfl ?_|refine JE rfl ?_|refine JF rfl ?_|refine JG rfl ?_|refine JH rfl ?_|refine JI rfl ?_|refine J2 rfl ?_|refine J3 rfl ?_|refine J4 rfl ?_|refine J1 rfl ?_|refine J6 rfl ?_|refine J7 rfl ?_|refine JJ rfl ?_|refine JK rfl ?_|refine JQ rfl ?_|refine JL rfl rfl ?_|refine JM rfl rfl ?_|refine JN rfl ?_|refine JO rfl ?_|refine JP rfl ?_))
  refine s_iteD rfl (fun hl => ?_) (fun hl => ?_)
  · (repeat (first|(with_reducible first|refine Ja ?_|refine Jb ?_|refine Jc ?_|refine Jd ?_|refine Je ?_|refine Jf ?_|refine Jg ?_|refine Jh ?_|refine Ji ?_|refine Jj ?_|refine Jk rfl ?_|refine Jl ?_|refine Jm ?_|refine Jn ?_|refine Jo ?_|refine Jp ?_|refine Jq ?_)|refine JA rfl ?_|refine JB rfl ?_|refine JC rfl ?_|refine JD rfl ?_|refine JE rfl ?_|refine JF rfl ?_|refine JG rfl ?_|refine JH rfl ?_|refine JI rfl ?_|refine J2 rfl ?_|refine J3 rfl ?_|refine J4 rfl ?_|refine J1 rfl ?_|refine J6 rfl ?_|refine J7 rfl ?_|refine JJ rfl ?_|refine JK rfl ?_|refine JQ rfl ?_|refine JL rfl rfl ?_|refine JM rfl rfl ?_|refine JN rfl ?_|refine JO rfl ?_|refine JP rfl ?_))
    refine e_st (vs := zT.v) S 1 rfl rfl rfl rfl (by simp [zT, Tl.v, Value.flat]) (by simp [zT, Tl.v]) fun w S => ?_
    refine e_st (vs := [.int .i64 2]) S 0 rfl rfl rfl rfl (by simp [Value.flat]) (by simp) fun w S => ?_
    (repeat (first|(with_reducible first|refine Ja ?_|refine Jb ?_|refine Jc ?_|refine Jd ?_|refine Je ?_|refine Jf ?_|refine Jg ?_|refine Jh ?_|refine Ji ?_|refine Jj ?_|refine Jk rfl ?_|refine Jl ?_|refine Jm ?_|refine Jn ?_|refine Jo ?_|refine Jp ?_|refine Jq ?_)|refine JA rfl ?_|refine JB rfl ?_|refine JC rfl ?_|refine JD rfl ?_|refine JE rfl ?_|refine JF rfl ?_|refine JG rfl ?_|refine JH rfl ?_|refine JI rfl ?_|refine J2 rfl ?_|refine J3 rfl ?_|refine J4 rfl ?_|refine J1 rfl ?_|refine J6 rfl ?_|refine J7 rfl ?_|refine JJ rfl ?_|refine JK rfl ?_|refine JQ rfl ?_|refine JL rfl rfl ?_|refine JM rfl rfl ?_|refine JN rfl ?_|refine JO rfl ?_|refine JP rfl ?_))
    exact bad (e := 2) (by unfold appendW; rw [a1, a2, if_pos (by omega)]) rfl rfl rfl (hAll S)
  have hl' : r.length ≤ 4096 := by omega
  have a3 : ∀ {α : Type} {x y : α}, (if r.length > 4096 then x else y) = y := fun {α x y} => if_neg (by omega)
  have hsz : sizeW r.length ≤ 158 := by unfold sizeW; split <;> omega
  have hv' := hv
  unfold validW at hv'
  have htok := hv'.2.2
  have htn := htok
  unfold Tl.ok Gn.ok0 at htn
  have hg0 := hg
  unfold Gn.ok0 at hg0
  (repeat (with_reducible first|refine Jc ?_|refine Jd ?_|refine Je ?_|refine Jf ?_|refine Jg ?_|refine Jh ?_|refine Ji ?_|refine Jj ?_|refine Jk rfl ?_|refine Jl ?_|refine Jm ?_|refine Jn ?_|refine Jp ?_|refine Jq ?_))
  refine s_cut (σ := Unit) (fun _ => [(45, .bool (decide (t.next + sizeW r.length > s.cfg.logN))), (4, .string ⟨⟨r⟩⟩), (5, .pointer (some ⟨b5, 0, none⟩)), (6, .pointer (some ⟨b6, 0, none⟩)), (7, .pointer (some ⟨b7, 0, none⟩)), (8, .pointer (some ⟨b8, 0, none⟩)), (10, .pointer (some ⟨b10, 0, none⟩)), (11, .pointer (some ⟨b11, 0, none⟩)), (12, .int .i64 (sizeW r.length : Int))])
    (fun _ w => Dn.Sep w (apB b11 b10 b8 b7 b6 b5 0 zT s.v d t g ++ s.L) F) ?_ ?_
  · (repeat (with_reducible first|refine Ja ?_|refine Jb ?_|refine Jc ?_|refine Jd ?_|refine Je ?_|refine Jf ?_|refine Jg ?_|refine Jh ?_|refine Ji ?_|refine Jj ?_|refine Jk rfl ?_|refine Jl ?_|refine Jm ?_|refine Jn ?_|refine Jo ?_|refine Jp ?_|refine Jq ?_))
    replace S := S.drew
    (repeat (first|(with_reducible first|refine Ja ?_|refine Jb ?_|refine Jc ?_|refine Jd ?_|refine Je ?_|refine Jf ?_|refine Jg ?_|refine Jh ?_|refine Ji ?_|refine Jj ?_|refine Jk rfl ?_|refine Jl ?_|refine Jm ?_|refine Jn ?_|refine Jo ?_|refine Jp ?_|refine Jq ?_)|refine JA rfl ?_|refine JB rfl ?_|refine JC rfl ?_|refine JD rfl ?_|refine JE rfl ?_|refine JF rfl ?_|refine JG rfl ?_|refine JH rfl ?_|refine JI rfl ?_|refine J2 rfl ?_|refine J3 rfl ?_|refine J4 rfl ?_|refine J1 rfl ?_|refine J6 rfl ?_|refine J7 rfl ?_|refine JJ rfl ?_|refine JK rfl ?_|refine JQ rfl ?_|refine JL rfl rfl ?_|refine JM rfl rfl ?_|refine JN rfl ?_|refine JO rfl ?_|refine JP rfl ?_))
    refine e_ld (S.cell 5 rfl rfl) ?_
    (repeat (first|(with_reducible first|refine Ja ?_|refine Jb ?_|refine Jc ?_|refine Jd ?_|refine Je ?_|refine Jf ?_|refine Jg ?_|refine Jh ?_|refine Ji ?_|refine Jj ?_|refine Jk rfl ?_|refine Jl ?_|refine Jm ?_|refine Jn ?_|refine Jo ?_|refine Jp ?_|refine Jq ?_)|refine JA rfl ?_|refine JB rfl ?_|refine JC rfl ?_|refine JD rfl ?_|refine JE rfl ?_|refine JF rfl ?_|refine JG rfl ?_|refine JH rfl ?_|refine JI rfl ?_|refine J2 rfl ?_|refine J3 rfl ?_|refine J4 rfl ?_|refine J1 rfl ?_|refine J6 rfl ?_|refine J7 rfl ?_|refine JJ rfl ?_|refine JK rfl ?_|refine JQ rfl ?_|refine JL rfl rfl ?_|refine JM rfl rfl ?_|refine JN rfl ?_|refine JO rfl ?_|refine JP rfl ?_))
    repeat' first
      | (with_reducible refine t_alt ?_ ?_)
      | (refine e_ld (S.cell 3 rfl rfl) ?_)
      | (refine e_add (a := t.next) (b := (sizeW r.length : Int)) rfl rfl (by omega) (by omega) ?_)
      | (refine e_callP rfl (w_sectors s.cfg (by omega) (by omega)) S fun w S => ?_)
      | (refine e_call (L2 := apB b11 b10 b8 b7 b6 b5 0 zT s.v d t g) rfl (sh_config s) S ?_
         rintro _ _ w ⟨rfl, rfl⟩ S)
      | (first|(with_reducible first|refine Ja ?_|refine Jb ?_|refine Jc ?_|refine Jd ?_|refine Je ?_|refine Jf ?_|refine Jg ?_|refine Jh ?_|refine Ji ?_|refine Jj ?_|refine Jk rfl ?_|refine Jl ?_|refine Jm ?_|refine Jn ?_|refine Jo ?_|refine Jp ?_|refine Jq ?_)|refine JA rfl ?_|refine JB rfl ?_|refine JC rfl ?_|refine JD rfl ?_|refine JE rfl ?_|refine JF rfl ?_|refine JG rfl ?_|refine JH rfl ?_|refine JI rfl ?_|refine J2 rfl ?_|refine J3 rfl ?_|refine J4 rfl ?_|refine J1 rfl ?_|refine J6 rfl ?_|refine J7 rfl ?_|refine JJ rfl ?_|refine JK rfl ?_|refine JQ rfl ?_|refine JL rfl rfl ?_|refine JM rfl rfl ?_|refine JN rfl ?_|refine JO rfl ?_|refine JP rfl ?_)
    all_goals exact ⟨rfl, (), ⟨rfl, rfl, rfl, rfl, rfl, rfl, rfl, rfl, rfl, trivial⟩, S⟩
  rintro gg _ w S
  simp only [setL]
  refine s_iteD rfl (fun hf => ?_) (fun hf => ?_)
  · (repeat (first|(with_reducible first|refine Ja ?_|refine Jb ?_|refine Jc ?_|refine Jd ?_|refine Je ?_|refine Jf ?_|refine Jg ?_|refine Jh ?_|refine Ji ?_|refine Jj ?_|refine Jk rfl ?_|refine Jl ?_|refine Jm ?_|refine Jn ?_|refine Jo ?_|refine Jp ?_|refine Jq ?_)|refine JA rfl ?_|refine JB rfl ?_|refine JC rfl ?_|refine JD rfl ?_|refine JE rfl ?_|refine JF rfl ?_|refine JG rfl ?_|refine JH rfl ?_|refine JI rfl ?_|refine J2 rfl ?_|refine J3 rfl ?_|refine J4 rfl ?_|refine J1 rfl ?_|refine J6 rfl ?_|refine J7 rfl ?_|refine JJ rfl ?_|refine JK rfl ?_|refine JQ rfl ?_|refine JL rfl rfl ?_|refine JM rfl rfl ?_|refine JN rfl ?_|refine JO rfl ?_|refine JP rfl ?_))
    refine e_st (vs := zT.v) S 1 rfl rfl rfl rfl (by simp [zT, Tl.v, Value.flat]) (by simp [zT, Tl.v]) fun w S => ?_
    refine e_st (vs := [.int .i64 16]) S 0 rfl rfl rfl rfl (by simp [Value.flat]) (by simp) fun w S => ?_
    (repeat (first|(with_reducible first|refine Ja ?_|refine Jb ?_|refine Jc ?_|refine Jd ?_|refine Je ?_|refine Jf ?_|refine Jg ?_|refine Jh ?_|refine Ji ?_|refine Jj ?_|refine Jk rfl ?_|refine Jl ?_|refine Jm ?_|refine Jn ?_|refine Jo ?_|refine Jp ?_|refine Jq ?_)|refine JA rfl ?_|refine JB rfl ?_|refine JC rfl ?_|refine JD rfl ?_|refine JE rfl ?_|refine JF rfl ?_|refine JG rfl ?_|refine JH rfl ?_|refine JI rfl ?_|refine J2 rfl ?_|refine J3 rfl ?_|refine J4 rfl ?_|refine J1 rfl ?_|refine J6 rfl ?_|refine J7 rfl ?_|refine JJ rfl ?_|refine JK rfl ?_|refine JQ rfl ?_|refine JL rfl rfl ?_|refine JM rfl rfl ?_|refine JN rfl ?_|refine JO rfl ?_|refine JP rfl ?_))
    exact bad (e := 16) (by unfold appendW; rw [a1, a2, a3, if_pos hf]) rfl rfl rfl (hAll S)
  have a4 : ∀ {α : Type} {x y : α}, (if t.next + sizeW r.length > s.cfg.logN then x else y) = y := fun {α x y} => if_neg hf
  have hroom : t.next + sizeW r.length ≤ 65536 := by
    have : s.cfg.logN ≤ 65536 := by unfold Cfg.logN; split <;> omega
    omega
  obtain ⟨RES, hRES⟩ : ∃ RES, appW d t g r (sizeW r.length) 0 s = RES := ⟨_, rfl⟩
  have aW : appendW s d t g r = if RES.1 = 0 then (⟨t.next + sizeW r.length, t.number + 1, g⟩, 0, RES.2) else (zT, RES.1, RES.2) := by
    unfold appendW; rw [a1, a2, a3, a4, hRES]
  (repeat (first|(with_reducible first|refine Ja ?_|refine Jb ?_|refine Jc ?_|refine Jd ?_|refine Je ?_|refine Jf ?_|refine Jg ?_|refine Jh ?_|refine Ji ?_|refine Jj ?_|refine Jk rfl ?_|refine Jl ?_|refine Jm ?_|refine Jn ?_|refine Jo ?_|refine Jp ?_|refine Jq ?_)|refine JA rfl ?_|refine JB rfl ?_|refine JC rfl ?_|refine JD rfl ?_|refine JE rfl ?_|refine JF rfl ?_|refine JG rfl ?_|refine JH rfl ?_|refine JI rfl ?_|refine J2 rfl ?_|refine J3 rfl ?_|refine J4 rfl ?_|refine J1 rfl ?_|refine J6 rfl ?_|refine J7 rfl ?_|refine JJ rfl ?_|refine JK rfl ?_|refine JQ rfl ?_|refine JL rfl rfl ?_|refine JM rfl rfl ?_|refine JN rfl ?_|refine JO rfl ?_|refine JP rfl ?_))
  refine e_ld (v := .agg ⟨t.v⟩) (S.row 3 rfl (by simp [Tl.v]) rfl) ?_
  (repeat (first|(with_reducible first|refine Ja ?_|refine Jb ?_|refine Jc ?_|refine Jd ?_|refine Je ?_|refine Jf ?_|refine Jg ?_|refine Jh ?_|refine Ji ?_|refine Jj ?_|refine Jk rfl ?_|refine Jl ?_|refine Jm ?_|refine Jn ?_|refine Jo ?_|refine Jp ?_|refine Jq ?_)|refine JA rfl ?_|refine JB rfl ?_|refine JC rfl ?_|refine JD rfl ?_|refine JE rfl ?_|refine JF rfl ?_|refine JG rfl ?_|refine JH rfl ?_|refine JI rfl ?_|refine J2 rfl ?_|refine J3 rfl ?_|refine J4 rfl ?_|refine J1 rfl ?_|refine J6 rfl ?_|refine J7 rfl ?_|refine JJ rfl ?_|refine JK rfl ?_|refine JQ rfl ?_|refine JL rfl rfl ?_|refine JM rfl rfl ?_|refine JN rfl ?_|refine JO rfl ?_|refine JP rfl ?_))
  refine e_callN rfl (w_payloads t r) S ?_
  rintro _ _ w ⟨b3, b2, rfl, rfl⟩ S
  (repeat (with_reducible first|refine Ja ?_|refine Jb ?_|refine Jc ?_|refine Jd ?_|refine Je ?_|refine Jf ?_|refine Jg ?_|refine Jh ?_|refine Ji ?_|refine Jj ?_|refine Jk rfl ?_|refine Jl ?_|refine Jm ?_|refine Jn ?_|refine Jo ?_|refine Jp ?_|refine Jq ?_))
  refine s_rfI (n := sizeW r.length) (args := fun i => [.int .i64 (i : Int), .string ⟨⟨payB t r i⟩⟩]) mix rfl (by kernel_rfl) rfl rfl (fun _ => rfl) (by kernel_rfl) (by kernel_rfl)
    (fun lp J Stop hy L0 h0 => w_iter lp b3 b2 t r htok hl' J Stop hy L0 h0) S
    (fun i L => ∃ si : Sh, L = apB b11 b10 b8 b7 b6 b5 0 zT s.v d t g ++ si.L ∧ si.ok ∧ si.cfg = s.cfg ∧ si.q = s.q ∧ i ≤ sizeW r.length ∧ appW d t g r (sizeW r.length - i) i si = RES)
    (fun e L => e = .r ∧ RES.1 ≠ 0 ∧ L = apB b11 b10 b8 b7 b6 b5 RES.1 zT s.v d t g ++ RES.2.L)
    ⟨s, rfl, hs, rfl, rfl, by omega, hRES⟩ ?_ ?_ ?_
  · intro i hi w
    · (repeat (with_reducible first|refine Ja ?_|refine Jb ?_|refine Jc ?_|refine Jd ?_|refine Je ?_|refine Jf ?_|refine Jg ?_|refine Jh ?_|refine Ji ?_|refine Jj ?_|refine Jk rfl ?_|refine Jl ?_|refine Jm ?_|refine Jn ?_|refine Jo ?_|refine Jp ?_|refine Jq ?_))
      refine e_mvI (n := (i : Int)) rfl ?_
      (repeat (with_reducible first|refine Ja ?_|refine Jb ?_|refine Jc ?_|refine Jd ?_|refine Je ?_|refine Jf ?_|refine Jg ?_|refine Jh ?_|refine Ji ?_|refine Jj ?_|refine Jk rfl ?_|refine Jl ?_|refine Jm ?_|refine Jn ?_|refine Jo ?_|refine Jp ?_|refine Jq ?_))
      refine e_mvS (s := ⟨⟨payB t r i⟩⟩) rfl ?_
      (repeat (with_reducible first|refine Ja ?_|refine Jb ?_|refine Jc ?_|refine Jd ?_|refine Je ?_|refine Jf ?_|refine Jg ?_|refine Jh ?_|refine Ji ?_|refine Jj ?_|refine Jk rfl ?_|refine Jl ?_|refine Jm ?_|refine Jn ?_|refine Jo ?_|refine Jp ?_|refine Jq ?_))
      refine ⟨rfl, rfl, ?_⟩
      rintro w F lp o _ Q ⟨si, rfl, hok, hcfg, hsq, hle, happ⟩ S hn hx
      have hsv : s.v = si.v := by simp only [Sh.v, hsq]
      have hk : sizeW r.length - i = (sizeW r.length - (i + 1)) + 1 := by omega
      rw [hk] at happ
      (repeat (first|(with_reducible first|refine Ja ?_|refine Jb ?_|refine Jc ?_|refine Jd ?_|refine Je ?_|refine Jf ?_|refine Jg ?_|refine Jh ?_|refine Ji ?_|refine Jj ?_|refine Jk rfl ?_|refine Jl ?_|refine Jm ?_|refine Jn ?_|refine Jo ?_|refine Jp ?_|refine Jq ?_)|refine JA rfl ?_|refine JB rfl ?_|refine JC rfl ?_|refine JD rfl ?_|refine JE rfl ?_|refine JF rfl ?_|refine JG rfl ?_|refine JH rfl ?_|refine JI rfl ?_|refine J2 rfl ?_|refine J3 rfl ?_|refine J4 rfl ?_|refine J1 rfl ?_|refine J6 rfl ?_|refine J7 rfl ?_|refine JJ rfl ?_|refine JK rfl ?_|refine JQ rfl ?_|refine JL rfl rfl ?_|refine JM rfl rfl ?_|refine JN rfl ?_|refine JO rfl ?_|refine JP rfl ?_))
      refine e_ld (S.cell 5 rfl rfl) ?_
      (repeat (first|(with_reducible first|refine Ja ?_|refine Jb ?_|refine Jc ?_|refine Jd ?_|refine Je ?_|refine Jf ?_|refine Jg ?_|refine Jh ?_|refine Ji ?_|refine Jj ?_|refine Jk rfl ?_|refine Jl ?_|refine Jm ?_|refine Jn ?_|refine Jo ?_|refine Jp ?_|refine Jq ?_)|refine JA rfl ?_|refine JB rfl ?_|refine JC rfl ?_|refine JD rfl ?_|refine JE rfl ?_|refine JF rfl ?_|refine JG rfl ?_|refine JH rfl ?_|refine JI rfl ?_|refine J2 rfl ?_|refine J3 rfl ?_|refine J4 rfl ?_|refine J1 rfl ?_|refine J6 rfl ?_|refine J7 rfl ?_|refine JJ rfl ?_|refine JK rfl ?_|refine JQ rfl ?_|refine JL rfl rfl ?_|refine JM rfl rfl ?_|refine JN rfl ?_|refine JO rfl ?_|refine JP rfl ?_))
      refine e_ld (S.cell 4 rfl rfl) ?_
      (repeat (first|(with_reducible first|refine Ja ?_|refine Jb ?_|refine Jc ?_|refine Jd ?_|refine Je ?_|refine Jf ?_|refine Jg ?_|refine Jh ?_|refine Ji ?_|refine Jj ?_|refine Jk rfl ?_|refine Jl ?_|refine Jm ?_|refine Jn ?_|refine Jo ?_|refine Jp ?_|refine Jq ?_)|refine JA rfl ?_|refine JB rfl ?_|refine JC rfl ?_|refine JD rfl ?_|refine JE rfl ?_|refine JF rfl ?_|refine JG rfl ?_|refine JH rfl ?_|refine JI rfl ?_|refine J2 rfl ?_|refine J3 rfl ?_|refine J4 rfl ?_|refine J1 rfl ?_|refine J6 rfl ?_|refine J7 rfl ?_|refine JJ rfl ?_|refine JK rfl ?_|refine JQ rfl ?_|refine JL rfl rfl ?_|refine JM rfl rfl ?_|refine JN rfl ?_|refine JO rfl ?_|refine JP rfl ?_))
      refine e_add (a := t.next) (b := (i : Int)) rfl rfl (by omega) (by omega) ?_
      (repeat (first|(with_reducible first|refine Ja ?_|refine Jb ?_|refine Jc ?_|refine Jd ?_|refine Je ?_|refine Jf ?_|refine Jg ?_|refine Jh ?_|refine Ji ?_|refine Jj ?_|refine Jk rfl ?_|refine Jl ?_|refine Jm ?_|refine Jn ?_|refine Jo ?_|refine Jp ?_|refine Jq ?_)|refine JA rfl ?_|refine JB rfl ?_|refine JC rfl ?_|refine JD rfl ?_|refine JE rfl ?_|refine JF rfl ?_|refine JG rfl ?_|refine JH rfl ?_|refine JI rfl ?_|refine J2 rfl ?_|refine J3 rfl ?_|refine J4 rfl ?_|refine J1 rfl ?_|refine J6 rfl ?_|refine J7 rfl ?_|refine JJ rfl ?_|refine JK rfl ?_|refine JQ rfl ?_|refine JL rfl rfl ?_|refine JM rfl rfl ?_|refine JN rfl ?_|refine JO rfl ?_|refine JP rfl ?_))
      refine e_nw S fun b15 w S => ?_
      refine e_st (vs := (plW d (t.next + i)).v) S 0 rfl rfl rfl rfl (by simp [Pl.v, Value.flat]) (by simp) fun w S => ?_
      replace S : Dn.Sep w (((b15, .cells ⟨(plW d (t.next + i)).v⟩ 46) :: (lp, o) :: apB b11 b10 b8 b7 b6 b5 0 zT s.v d t g) ++ si.L) F := S
      (repeat (first|(with_reducible first|refine Ja ?_|refine Jb ?_|refine Jc ?_|refine Jd ?_|refine Je ?_|refine Jf ?_|refine Jg ?_|refine Jh ?_|refine Ji ?_|refine Jj ?_|refine Jk rfl ?_|refine Jl ?_|refine Jm ?_|refine Jn ?_|refine Jo ?_|refine Jp ?_|refine Jq ?_)|refine JA rfl ?_|refine JB rfl ?_|refine JC rfl ?_|refine JD rfl ?_|refine JE rfl ?_|refine JF rfl ?_|refine JG rfl ?_|refine JH rfl ?_|refine JI rfl ?_|refine J2 rfl ?_|refine J3 rfl ?_|refine J4 rfl ?_|refine J1 rfl ?_|refine J6 rfl ?_|refine J7 rfl ?_|refine JJ rfl ?_|refine JK rfl ?_|refine JQ rfl ?_|refine JL rfl rfl ?_|refine JM rfl rfl ?_|refine JN rfl ?_|refine JO rfl ?_|refine JP rfl ?_))
      refine e_ld (v := .agg ⟨(plW d (t.next + i)).v⟩) (S.row 0 rfl (by simp [Pl.v]) rfl) ?_
      refine e_ld (v := .agg ⟨g.v⟩) (S.row 4 rfl (by simp [Gn.v]) rfl) ?_
      (repeat (first|(with_reducible first|refine Ja ?_|refine Jb ?_|refine Jc ?_|refine Jd ?_|refine Je ?_|refine Jf ?_|refine Jg ?_|refine Jh ?_|refine Ji ?_|refine Jj ?_|refine Jk rfl ?_|refine Jl ?_|refine Jm ?_|refine Jn ?_|refine Jo ?_|refine Jp ?_|refine Jq ?_)|refine JA rfl ?_|refine JB rfl ?_|refine JC rfl ?_|refine JD rfl ?_|refine JE rfl ?_|refine JF rfl ?_|refine JG rfl ?_|refine JH rfl ?_|refine JI rfl ?_|refine J2 rfl ?_|refine J3 rfl ?_|refine J4 rfl ?_|refine J1 rfl ?_|refine J6 rfl ?_|refine J7 rfl ?_|refine JJ rfl ?_|refine JK rfl ?_|refine JQ rfl ?_|refine JL rfl rfl ?_|refine JM rfl rfl ?_|refine JN rfl ?_|refine JO rfl ?_|refine JP rfl ?_))
      have hp : (plW d (t.next + i)).ok := by
        unfold Pl.ok plW
        simp only
        omega
      have hgok : g.ok := by
        unfold Gn.ok
        refine ⟨hg, ?_⟩
        have hnw := hnew
        unfold Gn.newer at hnw
        rintro ⟨h1, h2⟩
        rw [h1, h2] at hnw
        omega
      have hseal := sec_seal (plW d (t.next + i)) g (payB t r i)
      unfold sealV at hseal
      rw [if_pos ⟨hp, hgok, pay_len⟩] at hseal
      refine e_callP rfl hseal S fun w S => ?_
      (repeat (first|(with_reducible first|refine Ja ?_|refine Jb ?_|refine Jc ?_|refine Jd ?_|refine Je ?_|refine Jf ?_|refine Jg ?_|refine Jh ?_|refine Ji ?_|refine Jj ?_|refine Jk rfl ?_|refine Jl ?_|refine Jm ?_|refine Jn ?_|refine Jo ?_|refine Jp ?_|refine Jq ?_)|refine JA rfl ?_|refine JB rfl ?_|refine JC rfl ?_|refine JD rfl ?_|refine JE rfl ?_|refine JF rfl ?_|refine JG rfl ?_|refine JH rfl ?_|refine JI rfl ?_|refine J2 rfl ?_|refine J3 rfl ?_|refine J4 rfl ?_|refine J1 rfl ?_|refine J6 rfl ?_|refine J7 rfl ?_|refine JJ rfl ?_|refine JK rfl ?_|refine JQ rfl ?_|refine JL rfl rfl ?_|refine JM rfl rfl ?_|refine JN rfl ?_|refine JO rfl ?_|refine JP rfl ?_))
      refine e_ld (S.cell 7 rfl rfl) ?_
      refine e_ld (v := .agg ⟨(plW d (t.next + i)).v⟩) (S.row 0 rfl (by simp [Pl.v]) rfl) ?_
      (repeat (first|(with_reducible first|refine Ja ?_|refine Jb ?_|refine Jc ?_|refine Jd ?_|refine Je ?_|refine Jf ?_|refine Jg ?_|refine Jh ?_|refine Ji ?_|refine Jj ?_|refine Jk rfl ?_|refine Jl ?_|refine Jm ?_|refine Jn ?_|refine Jo ?_|refine Jp ?_|refine Jq ?_)|refine JA rfl ?_|refine JB rfl ?_|refine JC rfl ?_|refine JD rfl ?_|refine JE rfl ?_|refine JF rfl ?_|refine JG rfl ?_|refine JH rfl ?_|refine JI rfl ?_|refine J2 rfl ?_|refine J3 rfl ?_|refine J4 rfl ?_|refine J1 rfl ?_|refine J6 rfl ?_|refine J7 rfl ?_|refine JJ rfl ?_|refine JK rfl ?_|refine JQ rfl ?_|refine JL rfl rfl ?_|refine JM rfl rfl ?_|refine JN rfl ?_|refine JO rfl ?_|refine JP rfl ?_))
      have hw := sh_write si (plW d (t.next + i)) (sealS (plW d (t.next + i)) g (payB t r i)) hok
      rw [← hsv] at hw
      refine e_call (L2 := (b15, .cells ⟨(plW d (t.next + i)).v⟩ 46) :: (lp, o) :: apB b11 b10 b8 b7 b6 b5 0 zT s.v d t g) rfl hw S ?_
      rintro _ _ w ⟨rfl, rfl⟩ S
      (repeat (with_reducible first|refine Ja ?_|refine Jb ?_|refine Jc ?_|refine Jd ?_|refine Je ?_|refine Jf ?_|refine Jg ?_|refine Jh ?_|refine Ji ?_|refine Jj ?_|refine Jk rfl ?_|refine Jl ?_|refine Jm ?_|refine Jn ?_|refine Jo ?_|refine Jp ?_|refine Jq ?_))
      refine e_mvI rfl ?_
      (repeat (with_reducible first|refine Ja ?_|refine Jb ?_|refine Jc ?_|refine Jd ?_|refine Je ?_|refine Jf ?_|refine Jg ?_|refine Jh ?_|refine Ji ?_|refine Jj ?_|refine Jk rfl ?_|refine Jl ?_|refine Jm ?_|refine Jn ?_|refine Jo ?_|refine Jp ?_|refine Jq ?_))
      refine e_mvI rfl ?_
      refine e_p (cmp_neqD rfl rfl) ?_
      (repeat (with_reducible first|refine Ja ?_|refine Jb ?_|refine Jc ?_|refine Jd ?_|refine Je ?_|refine Jf ?_|refine Jg ?_|refine Jh ?_|refine Ji ?_|refine Jj ?_|refine Jk rfl ?_|refine Jl ?_|refine Jm ?_|refine Jn ?_|refine Jo ?_|refine Jp ?_|refine Jq ?_))
      obtain ⟨k1, k2, k3⟩ := wr_ok hok (plW d (t.next + i)) (sealS (plW d (t.next + i)) g (payB t r i))
      refine s_iteN rfl (fun he => ?_) (fun he => ?_)
      · rw [appW_stop he] at happ
        (repeat (first|(with_reducible first|refine Ja ?_|refine Jb ?_|refine Jc ?_|refine Jd ?_|refine Je ?_|refine Jf ?_|refine Jg ?_|refine Jh ?_|refine Ji ?_|refine Jj ?_|refine Jk rfl ?_|refine Jl ?_|refine Jm ?_|refine Jn ?_|refine Jo ?_|refine Jp ?_|refine Jq ?_)|refine JA rfl ?_|refine JB rfl ?_|refine JC rfl ?_|refine JD rfl ?_|refine JE rfl ?_|refine JF rfl ?_|refine JG rfl ?_|refine JH rfl ?_|refine JI rfl ?_|refine J2 rfl ?_|refine J3 rfl ?_|refine J4 rfl ?_|refine J1 rfl ?_|refine J6 rfl ?_|refine J7 rfl ?_|refine JJ rfl ?_|refine JK rfl ?_|refine JQ rfl ?_|refine JL rfl rfl ?_|refine JM rfl rfl ?_|refine JN rfl ?_|refine JO rfl ?_|refine JP rfl ?_))
        refine e_st (vs := zT.v) S 3 rfl rfl rfl rfl (by simp [zT, Tl.v, Value.flat]) (by simp [zT, Tl.v]) fun w S => ?_
        refine e_st (vs := [.int .i64 (si.wrE (plW d (t.next + i)) (sealS (plW d (t.next + i)) g (payB t r i)))]) S 2 rfl rfl rfl rfl (by simp [Value.flat]) (by simp) fun w S => ?_
        (repeat (first|(with_reducible first|refine Ja ?_|refine Jb ?_|refine Jc ?_|refine Jd ?_|refine Je ?_|refine Jf ?_|refine Jg ?_|refine Jh ?_|refine Ji ?_|refine Jj ?_|refine Jk rfl ?_|refine Jl ?_|refine Jm ?_|refine Jn ?_|refine Jo ?_|refine Jp ?_|refine Jq ?_)|refine JA rfl ?_|refine JB rfl ?_|refine JC rfl ?_|refine JD rfl ?_|refine JE rfl ?_|refine JF rfl ?_|refine JG rfl ?_|refine JH rfl ?_|refine JI rfl ?_|refine J2 rfl ?_|refine J3 rfl ?_|refine J4 rfl ?_|refine J1 rfl ?_|refine J6 rfl ?_|refine J7 rfl ?_|refine JJ rfl ?_|refine JK rfl ?_|refine JQ rfl ?_|refine JL rfl rfl ?_|refine JM rfl rfl ?_|refine JN rfl ?_|refine JO rfl ?_|refine JP rfl ?_))
        refine hx .r w _ (by simp) ⟨rfl, ?_, rfl⟩ ?_
        · rw [← happ]; exact he
        · rw [← happ]; exact Sep.drop (L2 := [_]) S
      · rw [appW_step he] at happ
        (repeat (first|(with_reducible first|refine Ja ?_|refine Jb ?_|refine Jc ?_|refine Jd ?_|refine Je ?_|refine Jf ?_|refine Jg ?_|refine Jh ?_|refine Ji ?_|refine Jj ?_|refine Jk rfl ?_|refine Jl ?_|refine Jm ?_|refine Jn ?_|refine Jo ?_|refine Jp ?_|refine Jq ?_)|refine JA rfl ?_|refine JB rfl ?_|refine JC rfl ?_|refine JD rfl ?_|refine JE rfl ?_|refine JF rfl ?_|refine JG rfl ?_|refine JH rfl ?_|refine JI rfl ?_|refine J2 rfl ?_|refine J3 rfl ?_|refine J4 rfl ?_|refine J1 rfl ?_|refine J6 rfl ?_|refine J7 rfl ?_|refine JJ rfl ?_|refine JK rfl ?_|refine JQ rfl ?_|refine JL rfl rfl ?_|refine JM rfl rfl ?_|refine JN rfl ?_|refine JO rfl ?_|refine JP rfl ?_))
        exact hn w _ ⟨_, rfl, k1, k2.trans hcfg, k3.trans hsq, by omega, happ⟩ (Sep.drop (L2 := [_]) S)
  · rintro w lp D o _ ⟨si, rfl, hok, hcfg, hsq, hle, happ⟩ S
    have hz : sizeW r.length - sizeW r.length = 0 := by omega
    rw [hz] at happ
    simp only [appW] at happ
    rw [← happ] at aW
    (repeat (first|(with_reducible first|refine Ja ?_|refine Jb ?_|refine Jc ?_|refine Jd ?_|refine Je ?_|refine Jf ?_|refine Jg ?_|refine Jh ?_|refine Ji ?_|refine Jj ?_|refine Jk rfl ?_|refine Jl ?_|refine Jm ?_|refine Jn ?_|refine Jo ?_|refine Jp ?_|refine Jq ?_)|refine JA rfl ?_|refine JB rfl ?_|refine JC rfl ?_|refine JD rfl ?_|refine JE rfl ?_|refine JF rfl ?_|refine JG rfl ?_|refine JH rfl ?_|refine JI rfl ?_|refine J2 rfl ?_|refine J3 rfl ?_|refine J4 rfl ?_|refine J1 rfl ?_|refine J6 rfl ?_|refine J7 rfl ?_|refine JJ rfl ?_|refine JK rfl ?_|refine JQ rfl ?_|refine JL rfl rfl ?_|refine JM rfl rfl ?_|refine JN rfl ?_|refine JO rfl ?_|refine JP rfl ?_))
    refine e_ld (S.cell 7 rfl rfl) ?_
    (repeat (first|(with_reducible first|refine Ja ?_|refine Jb ?_|refine Jc ?_|refine Jd ?_|refine Je ?_|refine Jf ?_|refine Jg ?_|refine Jh ?_|refine Ji ?_|refine Jj ?_|refine Jk rfl ?_|refine Jl ?_|refine Jm ?_|refine Jn ?_|refine Jo ?_|refine Jp ?_|refine Jq ?_)|refine JA rfl ?_|refine JB rfl ?_|refine JC rfl ?_|refine JD rfl ?_|refine JE rfl ?_|refine JF rfl ?_|refine JG rfl ?_|refine JH rfl ?_|refine JI rfl ?_|refine J2 rfl ?_|refine J3 rfl ?_|refine J4 rfl ?_|refine J1 rfl ?_|refine J6 rfl ?_|refine J7 rfl ?_|refine JJ rfl ?_|refine JK rfl ?_|refine JQ rfl ?_|refine JL rfl rfl ?_|refine JM rfl rfl ?_|refine JN rfl ?_|refine JO rfl ?_|refine JP rfl ?_))
    refine e_add (a := t.next) (b := (sizeW r.length : Int)) rfl rfl (by omega) (by omega) ?_
    (repeat (first|(with_reducible first|refine Ja ?_|refine Jb ?_|refine Jc ?_|refine Jd ?_|refine Je ?_|refine Jf ?_|refine Jg ?_|refine Jh ?_|refine Ji ?_|refine Jj ?_|refine Jk rfl ?_|refine Jl ?_|refine Jm ?_|refine Jn ?_|refine Jo ?_|refine Jp ?_|refine Jq ?_)|refine JA rfl ?_|refine JB rfl ?_|refine JC rfl ?_|refine JD rfl ?_|refine JE rfl ?_|refine JF rfl ?_|refine JG rfl ?_|refine JH rfl ?_|refine JI rfl ?_|refine J2 rfl ?_|refine J3 rfl ?_|refine J4 rfl ?_|refine J1 rfl ?_|refine J6 rfl ?_|refine J7 rfl ?_|refine JJ rfl ?_|refine JK rfl ?_|refine JQ rfl ?_|refine JL rfl rfl ?_|refine JM rfl rfl ?_|refine JN rfl ?_|refine JO rfl ?_|refine JP rfl ?_))
    refine e_ld (S.cell 7 rfl rfl) ?_
    refine e_add (a := t.number) (b := 1) rfl rfl (by omega) (by omega) ?_
    refine e_ld (v := .agg ⟨g.v⟩) (S.row 6 rfl (by simp [Gn.v]) rfl) ?_
    (repeat (first|(with_reducible first|refine Ja ?_|refine Jb ?_|refine Jc ?_|refine Jd ?_|refine Je ?_|refine Jf ?_|refine Jg ?_|refine Jh ?_|refine Ji ?_|refine Jj ?_|refine Jk rfl ?_|refine Jl ?_|refine Jm ?_|refine Jn ?_|refine Jo ?_|refine Jp ?_|refine Jq ?_)|refine JA rfl ?_|refine JB rfl ?_|refine JC rfl ?_|refine JD rfl ?_|refine JE rfl ?_|refine JF rfl ?_|refine JG rfl ?_|refine JH rfl ?_|refine JI rfl ?_|refine J2 rfl ?_|refine J3 rfl ?_|refine J4 rfl ?_|refine J1 rfl ?_|refine J6 rfl ?_|refine J7 rfl ?_|refine JJ rfl ?_|refine JK rfl ?_|refine JQ rfl ?_|refine JL rfl rfl ?_|refine JM rfl rfl ?_|refine JN rfl ?_|refine JO rfl ?_|refine JP rfl ?_))
    refine e_st (vs := (⟨t.next + sizeW r.length, t.number + 1, g⟩ : Tl).v) S 5 rfl rfl rfl rfl (by simp [Tl.v, Value.flat]) (by simp [zT, Tl.v]) fun w S => ?_
    refine e_st (vs := [.int .i64 0]) S 4 rfl rfl rfl rfl (by simp [Value.flat]) (by simp) fun w S => ?_
    (repeat (first|(with_reducible first|refine Ja ?_|refine Jb ?_|refine Jc ?_|refine Jd ?_|refine Je ?_|refine Jf ?_|refine Jg ?_|refine Jh ?_|refine Ji ?_|refine Jj ?_|refine Jk rfl ?_|refine Jl ?_|refine Jm ?_|refine Jn ?_|refine Jo ?_|refine Jp ?_|refine Jq ?_)|refine JA rfl ?_|refine JB rfl ?_|refine JC rfl ?_|refine JD rfl ?_|refine JE rfl ?_|refine JF rfl ?_|refine JG rfl ?_|refine JH rfl ?_|refine JI rfl ?_|refine J2 rfl ?_|refine J3 rfl ?_|refine J4 rfl ?_|refine J1 rfl ?_|refine J6 rfl ?_|refine J7 rfl ?_|refine JJ rfl ?_|refine JK rfl ?_|refine JQ rfl ?_|refine JL rfl rfl ?_|refine JM rfl rfl ?_|refine JN rfl ?_|refine JO rfl ?_|refine JP rfl ?_))
    refine f_retD rfl S 1 rfl fun w' S => ?_
    refine ⟨[.agg ⟨(⟨t.next + sizeW r.length, t.number + 1, g⟩ : Tl).v⟩, .int .i64 0], rvs2 (S.row 5 rfl (by simp [Tl.v, putAt, zT]) rfl) (S.cell 4 rfl rfl), hQ _ _ _ ⟨by rw [aW]; rfl, by rw [aW]; rfl⟩
      (Sep.drop (L2 := (lp, o) :: (D, .deferred none) :: (b3, .cells ⟨[.string ⟨⟨r⟩⟩]⟩ 9) :: (b2, .cells ⟨t.v⟩ 31) :: apB b11 b10 b8 b7 b6 b5 0 (⟨t.next + sizeW r.length, t.number + 1, g⟩ : Tl) s.v d t g) S)⟩
  · rintro e w lp D o _ - ⟨rfl, hne, rfl⟩ S
    rw [if_neg hne] at aW
    (repeat (first|(with_reducible first|refine Ja ?_|refine Jb ?_|refine Jc ?_|refine Jd ?_|refine Je ?_|refine Jf ?_|refine Jg ?_|refine Jh ?_|refine Ji ?_|refine Jj ?_|refine Jk rfl ?_|refine Jl ?_|refine Jm ?_|refine Jn ?_|refine Jo ?_|refine Jp ?_|refine Jq ?_)|refine JA rfl ?_|refine JB rfl ?_|refine JC rfl ?_|refine JD rfl ?_|refine JE rfl ?_|refine JF rfl ?_|refine JG rfl ?_|refine JH rfl ?_|refine JI rfl ?_|refine J2 rfl ?_|refine J3 rfl ?_|refine J4 rfl ?_|refine J1 rfl ?_|refine J6 rfl ?_|refine J7 rfl ?_|refine JJ rfl ?_|refine JK rfl ?_|refine JQ rfl ?_|refine JL rfl rfl ?_|refine JM rfl rfl ?_|refine JN rfl ?_|refine JO rfl ?_|refine JP rfl ?_))
    refine f_retD rfl S 1 rfl fun w' S => ?_
    refine ⟨[.agg ⟨zT.v⟩, .int .i64 RES.1], rvs2 (S.row 5 rfl (by simp [Tl.v]) rfl) (S.cell 4 rfl rfl), hQ _ _ _ ⟨by rw [aW]; rfl, by rw [aW]⟩
      (Sep.drop (L2 := (lp, o) :: (D, .deferred none) :: (b3, .cells ⟨[.string ⟨⟨r⟩⟩]⟩ 9) :: (b2, .cells ⟨t.v⟩ 31) :: apB b11 b10 b8 b7 b6 b5 RES.1 zT s.v d t g) S)⟩

end Go.Proofs.Ytgendpinmmmfjaa

/-
  The walk of read.
-/
namespace Dn
open Go

structure Pt where
  gen : Gn
  before : Gn
  number : Int
  left : Int
  bytes : Sec
def Pt.v (p : Pt) : List Value := [.int .i64 p.gen.epoch, .int .i64 p.gen.count, .int .i64 p.before.epoch, .int .i64 p.before.count, .int .i64 p.number, .int .i64 p.left, .string ⟨⟨p.bytes⟩⟩]
def zPt : Pt := ⟨⟨0, 0⟩, ⟨0, 0⟩, 0, 0, []⟩
def parse (g : Gn) (p : Sec) : Pt :=
  ⟨g, ⟨(leN ((p.drop 6).take 4) : Int), (leN ((p.drop 10).take 4) : Int)⟩, (leN (p.take 4) : Int), (leN ((p.drop 4).take 2) : Int), (p.drop 14).take (min 26 (leN ((p.drop 4).take 2)))⟩
/-- Read: the error, and the content. -/
def Sh.rdO (s : Sh) (p : Pl) : Int × Sec := if s.num p < 0 then (1, []) else if s.acc p.disk.toNat ≠ 0 then (s.acc p.disk.toNat, []) else (0, (s.dk p.disk.toNat).read (s.num p).toNat)
theorem rdV_O (s : Sh) (p : Pl) : s.rdV p = .tuple ⟨[.string ⟨⟨(s.rdO p).2⟩⟩, .int .i64 (s.rdO p).1]⟩ := by
  unfold Sh.rdV Sh.rdO
  split
  · rfl
  · split <;> rfl
/-- read: the part, whether there is one, the error -/
def readW (s : Sh) (d i : Int) : Pt × Bool × Int :=
  if i ≥ s.cfg.logN then (zPt, false, 0)
  else if (s.rdO (plW d i)).1 ≠ 0 then (zPt, false, (s.rdO (plW d i)).1)
  else match opened (plW d i) (s.rdO (plW d i)).2 with
    | none => (zPt, false, 0)
    | some (g, p) => (parse g p, true, 0)
end Dn
namespace Go.Proofs.Ytgendpinmmmfjaa
open Dn
attribute [local irreducible] Evs Ev EvT DSpec PSpec CallTo
set_option maxRecDepth 10000
set_option maxHeartbeats 2000000

theorem dkread_len {D : Dk} (h : D.ok) {i : Int} (hi : D.has i = true) : (D.read i.toNat).length = 64 := by
  have hi' : 0 ≤ i ∧ i < (D.dur.length : Int) := by simpa [Dk.has] using hi
  unfold Dk.read
  cases hg : D.cache.get (i.toNat : Int) with
  | some s => exact D.ok_get h hg
  | none =>
    simp only [Option.getD_none, Dk.sec, List.getD_eq_getElem?_getD, List.getElem?_eq_getElem (show i.toNat < D.dur.length by omega)]
    exact h.1 _ (List.getElem_mem _)
theorem rdO_len {s : Sh} (h : s.ok) {p : Pl} (he : (s.rdO p).1 = 0) : (s.rdO p).2.length = 64 := by
  unfold Sh.rdO at he ⊢
  by_cases h1 : s.num p < 0
  · rw [if_pos h1] at he; simp at he
  rw [if_neg h1] at he ⊢
  by_cases h2 : s.acc p.disk.toNat ≠ 0
  · rw [if_pos h2] at he; exact absurd he h2
  rw [if_neg h2]
  have hn := num_lt h (p := p) (by omega)
  obtain ⟨st, hb⟩ := dk_at (s := s) (d := p.disk.toNat) (by omega)
  exact dkread_len (h.dks _ (List.mem_of_getElem? hb)) (has_num h (by omega))

theorem opened_len {p : Pl} {t : Sec} {g : Gn} {d : Sec} (h : opened p t = some (g, d)) (ht : t.length = 64) : d.length = 40 := by
  unfold opened at h
  split at h
  · injection h with h; injection h with h1 h2; subst h2; simp; omega
  · simp at h

theorem w_read (s : Sh) (d i : Int) (hs : s.ok) (hd : 0 ≤ d ∧ d < s.cfg.disks) (hi : 0 ≤ i) :
    DSpec Try.prog 49 [s.v, .int .i64 d, .int .i64 i] s.L fun v L => v = .tuple ⟨[.agg ⟨(readW s d i).1.v⟩, .bool (readW s d i).2.1, .int .i64 (readW s d i).2.2]⟩ ∧ L = s.L := by
  refine spec_of mix Try.func49 c49_eq rfl rfl fun w F Q S hQ => ?_
  have hc := hs.cfg
  unfold Cfg.ok at hc
  have hlog : s.cfg.logN ≤ 65536 := by unfold Cfg.logN; split <;> omega
  (repeat (with_reducible first|refine Ja ?_|refine Jb ?_|refine Jc ?_|refine Jd ?_|refine Je ?_|refine Jf ?_|refine Jg ?_|refine Jh ?_|refine Ji ?_|refine Jj ?_|refine Jk rfl ?_|refine Jl ?_|refine Jm ?_|refine Jn ?_|refine Jo ?_|refine Jp ?_|refine Jq ?_))
  refine e_nwE S (cs' := zPt.v) rfl fun b6 w S => ?_
  (repeat (first|(with_reducible first|refine Ja ?_|refine Jb ?_|refine Jc ?_|refine Jd ?_|refine Je ?_|refine Jf ?_|refine Jg ?_|refine Jh ?_|refine Ji ?_|refine Jj ?_|refine Jk rfl ?_|refine Jl ?_|refine Jm ?_|refine Jn ?_|refine Jo ?_|refine Jp ?_|refine Jq ?_)|refine JA rfl ?_|refine JB rfl ?_|refine JC rfl ?_|refine JD rfl ?_|refine JE rfl ?_|refine JF rfl ?_|refine JG rfl ?_|refine JH rfl ?_|refine JI rfl ?_|refine J2 rfl ?_|refine J3 rfl ?_|refine J4 rfl ?_|refine J1 rfl ?_|refine J6 rfl ?_|refine J7 rfl ?_|refine JJ rfl ?_|refine JK rfl ?_|refine JQ rfl ?_|refine JL rfl rfl ?_|refine JM rfl rfl ?_|refine JN rfl ?_|refine JO rfl ?_|refine JP rfl ?_))
  refine e_nw S fun b9 w S => ?_
  refine e_st (vs := (plW d i).v) S 0 rfl rfl rfl rfl (by simp [Pl.v, Value.flat]) (by simp) fun w S => ?_
  replace S : Dn.Sep w ([(b9, .cells ⟨(plW d i).v⟩ 46), (b6, .cells ⟨zPt.v⟩ 97)] ++ s.L) F := S
  -- nothing there
  have bad : ∀ {e : Int}, readW s d i = (zPt, false, e) → ∀ {w' : World} {T : Rg} {X : List (Nat × Obj)}, T.ds = [] → T.f 6 = .pointer (some ⟨b6, 0, none⟩) → T.f 7 = .bool false → T.f 8 = .int .i64 e → Dn.Sep w' (X ++ ([(b9, .cells ⟨(plW d i).v⟩ 46), (b6, .cells ⟨zPt.v⟩ 97)] ++ s.L)) F →
      finK [.cl (.r 6) (some 7), .t (.r 7), .t (.r 8)] Q .r T w' := by
    intro e he w' T X h1 h2 h3 h4 S
    have S1 := S.drop
    refine f_ret (vs := [.agg ⟨zPt.v⟩, .bool false, .int .i64 e]) h1 (rvs3 ?_ ?_ ?_) (hQ _ _ _ ⟨by rw [he]; rfl, rfl⟩ (Sep.drop (L2 := [_, _]) S1))
    · show ldV (some 7) (T.f 6) w' = _
      rw [h2]; exact S1.row 1 rfl (by simp [Pt.v]) rfl
    · show some (T.f 7) = _
      rw [h3]
    · show some (T.f 8) = _
      rw [h4]
  (repeat (first|(with_reducible first|refine Ja ?_|refine Jb ?_|refine Jc ?_|refine Jd ?_|refine Je ?_|refine Jf ?_|refine Jg ?_|refine Jh ?_|refine Ji ?_|refine Jj ?_|refine Jk rfl ?_|refine Jl ?_|refine Jm ?_|refine Jn ?_|refine Jo ?_|refine Jp ?_|refine Jq ?_)|refine JA rfl ?_|refine JB rfl ?_|refine JC rfl ?_|refine JD rfl ?_|refine JE rfl ?_|refine JF rfl ?_|refine JG rfl ?_|refine JH rfl ?_|refine JI rfl ?_|refine J2 rfl ?_|refine J3 rfl ?_|refine J4 rfl ?_|refine J1 rfl ?_|refine J6 rfl ?_|refine J7 rfl ?_|refine JJ rfl ?_|refine JK rfl ?_|refine JQ rfl ?_|refine JL rfl rfl ?_|refine JM rfl rfl ?_|refine JN rfl ?_|refine JO rfl ?_|refine JP rfl ?_))
  refine e_call (L2 := [_, _]) rfl (sh_config s) S ?_
  rintro _ _ w ⟨rfl, rfl⟩ S
  refine e_callP rfl (w_sectors s.cfg (by omega) (by omega)) S fun w S => ?_
  (repeat (first|(with_reducible first|refine Ja ?_|refine Jb ?_|refine Jc ?_|refine Jd ?_|refine Je ?_|refine Jf ?_|refine Jg ?_|refine Jh ?_|refine Ji ?_|refine Jj ?_|refine Jk rfl ?_|refine Jl ?_|refine Jm ?_|refine Jn ?_|refine Jo ?_|refine Jp ?_|refine Jq ?_)|refine JA rfl ?_|refine JB rfl ?_|refine JC rfl ?_|refine JD rfl ?_|refine JE rfl ?_|refine JF rfl ?_|refine JG rfl ?_|refine JH rfl ?_|refine JI rfl ?_|refine J2 rfl ?_|refine J3 rfl ?_|refine J4 rfl ?_|refine J1 rfl ?_|refine J6 rfl ?_|refine J7 rfl ?_|refine JJ rfl ?_|refine JK rfl ?_|refine JQ rfl ?_|refine JL rfl rfl ?_|refine JM rfl rfl ?_|refine JN rfl ?_|refine JO rfl ?_|refine JP rfl ?_))
  refine s_iteD rfl (fun h1 => ?_) (fun h1 => ?_)
  · (repeat (first|(with_reducible first|refine Ja ?_|refine Jb ?_|refine Jc ?_|refine Jd ?_|refine Je ?_|refine Jf ?_|refine Jg ?_|refine Jh ?_|refine Ji ?_|refine Jj ?_|refine Jk rfl ?_|refine Jl ?_|refine Jm ?_|refine Jn ?_|refine Jo ?_|refine Jp ?_|refine Jq ?_)|refine JA rfl ?_|refine JB rfl ?_|refine JC rfl ?_|refine JD rfl ?_|refine JE rfl ?_|refine JF rfl ?_|refine JG rfl ?_|refine JH rfl ?_|refine JI rfl ?_|refine J2 rfl ?_|refine J3 rfl ?_|refine J4 rfl ?_|refine J1 rfl ?_|refine J6 rfl ?_|refine J7 rfl ?_|refine JJ rfl ?_|refine JK rfl ?_|refine JQ rfl ?_|refine JL rfl rfl ?_|refine JM rfl rfl ?_|refine JN rfl ?_|refine JO rfl ?_|refine JP rfl ?_))
    refine e_st (vs := zPt.v) S 1 rfl rfl rfl rfl (by simp [zPt, Pt.v, Value.flat]) (by simp [zPt, Pt.v]) fun w S => ?_
    (repeat (first|(with_reducible first|refine Ja ?_|refine Jb ?_|refine Jc ?_|refine Jd ?_|refine Je ?_|refine Jf ?_|refine Jg ?_|refine Jh ?_|refine Ji ?_|refine Jj ?_|refine Jk rfl ?_|refine Jl ?_|refine Jm ?_|refine Jn ?_|refine Jo ?_|refine Jp ?_|refine Jq ?_)|refine JA rfl ?_|refine JB rfl ?_|refine JC rfl ?_|refine JD rfl ?_|refine JE rfl ?_|refine JF rfl ?_|refine JG rfl ?_|refine JH rfl ?_|refine JI rfl ?_|refine J2 rfl ?_|refine J3 rfl ?_|refine J4 rfl ?_|refine J1 rfl ?_|refine J6 rfl ?_|refine J7 rfl ?_|refine JJ rfl ?_|refine JK rfl ?_|refine JQ rfl ?_|refine JL rfl rfl ?_|refine JM rfl rfl ?_|refine JN rfl ?_|refine JO rfl ?_|refine JP rfl ?_))
    exact bad (X := []) (by unfold readW; rw [if_pos h1]) rfl rfl rfl rfl S
  have hpl : (plW d i).ok := by unfold Pl.ok plW; simp only; omega
  (repeat (first|(with_reducible first|refine Ja ?_|refine Jb ?_|refine Jc ?_|refine Jd ?_|refine Je ?_|refine Jf ?_|refine Jg ?_|refine Jh ?_|refine Ji ?_|refine Jj ?_|refine Jk rfl ?_|refine Jl ?_|refine Jm ?_|refine Jn ?_|refine Jo ?_|refine Jp ?_|refine Jq ?_)|refine JA rfl ?_|refine JB rfl ?_|refine JC rfl ?_|refine JD rfl ?_|refine JE rfl ?_|refine JF rfl ?_|refine JG rfl ?_|refine JH rfl ?_|refine JI rfl ?_|refine J2 rfl ?_|refine J3 rfl ?_|refine J4 rfl ?_|refine J1 rfl ?_|refine J6 rfl ?_|refine J7 rfl ?_|refine JJ rfl ?_|refine JK rfl ?_|refine JQ rfl ?_|refine JL rfl rfl ?_|refine JM rfl rfl ?_|refine JN rfl ?_|refine JO rfl ?_|refine JP rfl ?_))
  refine e_ld (v := .agg ⟨(plW d i).v⟩) (S.row 0 rfl (by simp [Pl.v]) rfl) ?_
  refine e_call (L2 := [_, _]) rfl (sh_read s (plW d i) hs) S ?_
  rintro _ _ w ⟨rfl, rfl⟩ S
  rw [rdV_O]
  obtain ⟨RO, hRO⟩ : ∃ RO, s.rdO (plW d i) = RO := ⟨_, rfl⟩
  have hlen : RO.1 = 0 → RO.2.length = 64 := fun h => by rw [← hRO] at h ⊢; exact rdO_len hs h
  have rW : readW s d i = if RO.1 ≠ 0 then (zPt, false, RO.1) else match opened (plW d i) RO.2 with
      | none => (zPt, false, 0)
      | some (g, p) => (parse g p, true, 0) := by unfold readW; rw [if_neg h1, hRO]
  rw [hRO]
  (repeat (with_reducible first|refine Ja ?_|refine Jb ?_|refine Jc ?_|refine Jd ?_|refine Je ?_|refine Jf ?_|refine Jg ?_|refine Jh ?_|refine Ji ?_|refine Jj ?_|refine Jk rfl ?_|refine Jl ?_|refine Jm ?_|refine Jn ?_|refine Jo ?_|refine Jp ?_|refine Jq ?_))
  refine e_mvT rfl ?_
  refine e_p (v := .string ⟨⟨RO.2⟩⟩) rfl ?_
  refine e_p (v := .int .i64 RO.1) rfl ?_
  (repeat (with_reducible first|refine Ja ?_|refine Jb ?_|refine Jc ?_|refine Jd ?_|refine Je ?_|refine Jf ?_|refine Jg ?_|refine Jh ?_|refine Ji ?_|refine Jj ?_|refine Jk rfl ?_|refine Jl ?_|refine Jm ?_|refine Jn ?_|refine Jo ?_|refine Jp ?_|refine Jq ?_))
  refine e_mvS rfl ?_
  (repeat (with_reducible first|refine Ja ?_|refine Jb ?_|refine Jc ?_|refine Jd ?_|refine Je ?_|refine Jf ?_|refine Jg ?_|refine Jh ?_|refine Ji ?_|refine Jj ?_|refine Jk rfl ?_|refine Jl ?_|refine Jm ?_|refine Jn ?_|refine Jo ?_|refine Jp ?_|refine Jq ?_))
  refine e_mvI rfl ?_
  (repeat (with_reducible first|refine Ja ?_|refine Jb ?_|refine Jc ?_|refine Jd ?_|refine Je ?_|refine Jf ?_|refine Jg ?_|refine Jh ?_|refine Ji ?_|refine Jj ?_|refine Jk rfl ?_|refine Jl ?_|refine Jm ?_|refine Jn ?_|refine Jo ?_|refine Jp ?_|refine Jq ?_))
  refine e_mvI rfl ?_
  refine e_p (cmp_neqD rfl rfl) ?_
  (repeat (with_reducible first|refine Ja ?_|refine Jb ?_|refine Jc ?_|refine Jd ?_|refine Je ?_|refine Jf ?_|refine Jg ?_|refine Jh ?_|refine Ji ?_|refine Jj ?_|refine Jk rfl ?_|refine Jl ?_|refine Jm ?_|refine Jn ?_|refine Jo ?_|refine Jp ?_|refine Jq ?_))
  refine s_iteN rfl (fun h2 => ?_) (fun h2 => ?_)
  · (repeat (first|(with_reducible first|refine Ja ?_|refine Jb ?_|refine Jc ?_|refine Jd ?_|refine Je ?_|refine Jf ?_|refine Jg ?_|refine Jh ?_|refine Ji ?_|refine Jj ?_|refine Jk rfl ?_|refine Jl ?_|refine Jm ?_|refine Jn ?_|refine Jo ?_|refine Jp ?_|refine Jq ?_)|refine JA rfl ?_|refine JB rfl ?_|refine JC rfl ?_|refine JD rfl ?_|refine JE rfl ?_|refine JF rfl ?_|refine JG rfl ?_|refine JH rfl ?_|refine JI rfl ?_|refine J2 rfl ?_|refine J3 rfl ?_|refine J4 rfl ?_|refine J1 rfl ?_|refine J6 rfl ?_|refine J7 rfl ?_|refine JJ rfl ?_|refine JK rfl ?_|refine JQ rfl ?_|refine JL rfl rfl ?_|refine JM rfl rfl ?_|refine JN rfl ?_|refine JO rfl ?_|refine JP rfl ?_))
    refine e_st (vs := zPt.v) S 1 rfl rfl rfl rfl (by simp [zPt, Pt.v, Value.flat]) (by simp [zPt, Pt.v]) fun w S => ?_
    (repeat (first|(with_reducible first|refine Ja ?_|refine Jb ?_|refine Jc ?_|refine Jd ?_|refine Je ?_|refine Jf ?_|refine Jg ?_|refine Jh ?_|refine Ji ?_|refine Jj ?_|refine Jk rfl ?_|refine Jl ?_|refine Jm ?_|refine Jn ?_|refine Jo ?_|refine Jp ?_|refine Jq ?_)|refine JA rfl ?_|refine JB rfl ?_|refine JC rfl ?_|refine JD rfl ?_|refine JE rfl ?_|refine JF rfl ?_|refine JG rfl ?_|refine JH rfl ?_|refine JI rfl ?_|refine J2 rfl ?_|refine J3 rfl ?_|refine J4 rfl ?_|refine J1 rfl ?_|refine J6 rfl ?_|refine J7 rfl ?_|refine JJ rfl ?_|refine JK rfl ?_|refine JQ rfl ?_|refine JL rfl rfl ?_|refine JM rfl rfl ?_|refine JN rfl ?_|refine JO rfl ?_|refine JP rfl ?_))
    exact bad (X := []) (e := RO.1) (by rw [rW, if_pos h2]) rfl rfl rfl rfl S
  have a1 : ∀ {α : Type} {x y : α}, (if RO.1 ≠ 0 then x else y) = y := fun {α x y} => if_neg (by simpa using h2)
  rw [a1] at rW
  have hl64 := hlen h2
  (repeat (first|(with_reducible first|refine Ja ?_|refine Jb ?_|refine Jc ?_|refine Jd ?_|refine Je ?_|refine Jf ?_|refine Jg ?_|refine Jh ?_|refine Ji ?_|refine Jj ?_|refine Jk rfl ?_|refine Jl ?_|refine Jm ?_|refine Jn ?_|refine Jo ?_|refine Jp ?_|refine Jq ?_)|refine JA rfl ?_|refine JB rfl ?_|refine JC rfl ?_|refine JD rfl ?_|refine JE rfl ?_|refine JF rfl ?_|refine JG rfl ?_|refine JH rfl ?_|refine JI rfl ?_|refine J2 rfl ?_|refine J3 rfl ?_|refine J4 rfl ?_|refine J1 rfl ?_|refine J6 rfl ?_|refine J7 rfl ?_|refine JJ rfl ?_|refine JK rfl ?_|refine JQ rfl ?_|refine JL rfl rfl ?_|refine JM rfl rfl ?_|refine JN rfl ?_|refine JO rfl ?_|refine JP rfl ?_))
  refine e_ld (v := .agg ⟨(plW d i).v⟩) (S.row 0 rfl (by simp [Pl.v]) rfl) ?_
  (repeat (with_reducible first|refine Ja ?_|refine Jb ?_|refine Jc ?_|refine Jd ?_|refine Je ?_|refine Jf ?_|refine Jg ?_|refine Jh ?_|refine Ji ?_|refine Jj ?_|refine Jk rfl ?_|refine Jl ?_|refine Jm ?_|refine Jn ?_|refine Jo ?_|refine Jp ?_|refine Jq ?_))
  refine e_mvS rfl ?_
  have hop := sec_open (plW d i) RO.2 hpl hl64
  unfold openV at hop
  cases hO : opened (plW d i) RO.2 with
  | none =>
    rw [hO] at hop rW
    have hne : (if lblOK RO.2 then (8 : Int) else 7) ≠ 0 := by split <;> decide
    simp only at hop rW
    refine e_callP rfl hop S fun w S => ?_
    (repeat (first|(with_reducible first|refine Ja ?_|refine Jb ?_|refine Jc ?_|refine Jd ?_|refine Je ?_|refine Jf ?_|refine Jg ?_|refine Jh ?_|refine Ji ?_|refine Jj ?_|refine Jk rfl ?_|refine Jl ?_|refine Jm ?_|refine Jn ?_|refine Jo ?_|refine Jp ?_|refine Jq ?_)|refine JA rfl ?_|refine JB rfl ?_|refine JC rfl ?_|refine JD rfl ?_|refine JE rfl ?_|refine JF rfl ?_|refine JG rfl ?_|refine JH rfl ?_|refine JI rfl ?_|refine J2 rfl ?_|refine J3 rfl ?_|refine J4 rfl ?_|refine J1 rfl ?_|refine J6 rfl ?_|refine J7 rfl ?_|refine JJ rfl ?_|refine JK rfl ?_|refine JQ rfl ?_|refine JL rfl rfl ?_|refine JM rfl rfl ?_|refine JN rfl ?_|refine JO rfl ?_|refine JP rfl ?_))
    refine e_nw S fun b12 w S => ?_
    refine e_st (vs := zG.v) S 0 rfl rfl rfl rfl (by simp [zG, Gn.v, Value.flat]) (by simp) fun w S => ?_
    (repeat (with_reducible first|refine Ja ?_|refine Jb ?_|refine Jc ?_|refine Jd ?_|refine Je ?_|refine Jf ?_|refine Jg ?_|refine Jh ?_|refine Ji ?_|refine Jj ?_|refine Jk rfl ?_|refine Jl ?_|refine Jm ?_|refine Jn ?_|refine Jo ?_|refine Jp ?_|refine Jq ?_))
    refine e_mvS rfl ?_
    (repeat (with_reducible first|refine Ja ?_|refine Jb ?_|refine Jc ?_|refine Jd ?_|refine Je ?_|refine Jf ?_|refine Jg ?_|refine Jh ?_|refine Ji ?_|refine Jj ?_|refine Jk rfl ?_|refine Jl ?_|refine Jm ?_|refine Jn ?_|refine Jo ?_|refine Jp ?_|refine Jq ?_))
    refine e_mvI rfl ?_
    (repeat (with_reducible first|refine Ja ?_|refine Jb ?_|refine Jc ?_|refine Jd ?_|refine Je ?_|refine Jf ?_|refine Jg ?_|refine Jh ?_|refine Ji ?_|refine Jj ?_|refine Jk rfl ?_|refine Jl ?_|refine Jm ?_|refine Jn ?_|refine Jo ?_|refine Jp ?_|refine Jq ?_))
    refine e_mvI rfl ?_
    refine e_p (cmp_neqD rfl rfl) ?_
    (repeat (with_reducible first|refine Ja ?_|refine Jb ?_|refine Jc ?_|refine Jd ?_|refine Je ?_|refine Jf ?_|refine Jg ?_|refine Jh ?_|refine Ji ?_|refine Jj ?_|refine Jk rfl ?_|refine Jl ?_|refine Jm ?_|refine Jn ?_|refine Jo ?_|refine Jp ?_|refine Jq ?_))
    refine s_iteN rfl (fun h3 => ?_) (fun h3 => absurd h3 hne)
    (repeat (first|(with_reducible first|refine Ja ?_|refine Jb ?_|refine Jc ?_|refine Jd ?_|refine Je ?_|refine Jf ?_|refine Jg ?_|refine Jh ?_|refine Ji ?_|refine Jj ?_|refine Jk rfl ?_|refine Jl ?_|refine Jm ?_|refine Jn ?_|refine Jo ?_|refine Jp ?_|refine Jq ?_)|refine JA rfl ?_|refine JB rfl ?_|refine JC rfl ?_|refine JD rfl ?_|refine JE rfl ?_|refine JF rfl ?_|refine JG rfl ?_|refine JH rfl ?_|refine JI rfl ?_|refine J2 rfl ?_|refine J3 rfl ?_|refine J4 rfl ?_|refine J1 rfl ?_|refine J6 rfl ?_|refine J7 rfl ?_|refine JJ rfl ?_|refine JK rfl ?_|refine JQ rfl ?_|refine JL rfl rfl ?_|refine JM rfl rfl ?_|refine JN rfl ?_|refine JO rfl ?_|refine JP rfl ?_))
    refine e_st (vs := zPt.v) S 2 rfl rfl rfl rfl (by simp [zPt, Pt.v, Value.flat]) (by simp [zPt, Pt.v]) fun w S => ?_
    (repeat (first|(with_reducible first|refine Ja ?_|refine Jb ?_|refine Jc ?_|refine Jd ?_|refine Je ?_|refine Jf ?_|refine Jg ?_|refine Jh ?_|refine Ji ?_|refine Jj ?_|refine Jk rfl ?_|refine Jl ?_|refine Jm ?_|refine Jn ?_|refine Jo ?_|refine Jp ?_|refine Jq ?_)|refine JA rfl ?_|refine JB rfl ?_|refine JC rfl ?_|refine JD rfl ?_|refine JE rfl ?_|refine JF rfl ?_|refine JG rfl ?_|refine JH rfl ?_|refine JI rfl ?_|refine J2 rfl ?_|refine J3 rfl ?_|refine J4 rfl ?_|refine J1 rfl ?_|refine J6 rfl ?_|refine J7 rfl ?_|refine JJ rfl ?_|refine JK rfl ?_|refine JQ rfl ?_|refine JL rfl rfl ?_|refine JM rfl rfl ?_|refine JN rfl ?_|refine JO rfl ?_|refine JP rfl ?_))
    exact bad (X := [_]) (e := 0) rW rfl rfl rfl rfl S
  | some gp =>
    obtain ⟨gn, pl⟩ := gp
    rw [hO] at hop rW
    simp only at hop rW
    have hpl40 := opened_len hO hl64
    refine e_callP rfl hop S fun w S => ?_
    (repeat (first|(with_reducible first|refine Ja ?_|refine Jb ?_|refine Jc ?_|refine Jd ?_|refine Je ?_|refine Jf ?_|refine Jg ?_|refine Jh ?_|refine Ji ?_|refine Jj ?_|refine Jk rfl ?_|refine Jl ?_|refine Jm ?_|refine Jn ?_|refine Jo ?_|refine Jp ?_|refine Jq ?_)|refine JA rfl ?_|refine JB rfl ?_|refine JC rfl ?_|refine JD rfl ?_|refine JE rfl ?_|refine JF rfl ?_|refine JG rfl ?_|refine JH rfl ?_|refine JI rfl ?_|refine J2 rfl ?_|refine J3 rfl ?_|refine J4 rfl ?_|refine J1 rfl ?_|refine J6 rfl ?_|refine J7 rfl ?_|refine JJ rfl ?_|refine JK rfl ?_|refine JQ rfl ?_|refine JL rfl rfl ?_|refine JM rfl rfl ?_|refine JN rfl ?_|refine JO rfl ?_|refine JP rfl ?_))
    refine e_nw S fun b12 w S => ?_
    refine e_st (vs := gn.v) S 0 rfl rfl rfl rfl (by simp [Gn.v, Value.flat]) (by simp) fun w S => ?_
    replace S : Dn.Sep w ([(b12, .cells ⟨gn.v⟩ 29), (b9, .cells ⟨(plW d i).v⟩ 46), (b6, .cells ⟨zPt.v⟩ 97)] ++ s.L) F := S
    (repeat (with_reducible first|refine Ja ?_|refine Jb ?_|refine Jc ?_|refine Jd ?_|refine Je ?_|refine Jf ?_|refine Jg ?_|refine Jh ?_|refine Ji ?_|refine Jj ?_|refine Jk rfl ?_|refine Jl ?_|refine Jm ?_|refine Jn ?_|refine Jo ?_|refine Jp ?_|refine Jq ?_))
    refine e_mvS rfl ?_
    (repeat (with_reducible first|refine Ja ?_|refine Jb ?_|refine Jc ?_|refine Jd ?_|refine Je ?_|refine Jf ?_|refine Jg ?_|refine Jh ?_|refine Ji ?_|refine Jj ?_|refine Jk rfl ?_|refine Jl ?_|refine Jm ?_|refine Jn ?_|refine Jo ?_|refine Jp ?_|refine Jq ?_))
    refine e_mvI rfl ?_
    (repeat (with_reducible first|refine Ja ?_|refine Jb ?_|refine Jc ?_|refine Jd ?_|refine Je ?_|refine Jf ?_|refine Jg ?_|refine Jh ?_|refine Ji ?_|refine Jj ?_|refine Jk rfl ?_|refine Jl ?_|refine Jm ?_|refine Jn ?_|refine Jo ?_|refine Jp ?_|refine Jq ?_))
    refine e_mvI rfl ?_
    refine e_p (v := .bool false) rfl ?_
    (repeat (with_reducible first|refine Ja ?_|refine Jb ?_|refine Jc ?_|refine Jd ?_|refine Je ?_|refine Jf ?_|refine Jg ?_|refine Jh ?_|refine Ji ?_|refine Jj ?_|refine Jk rfl ?_|refine Jl ?_|refine Jm ?_|refine Jn ?_|refine Jo ?_|refine Jp ?_|refine Jq ?_))
    refine s_iteF rfl ?_
    (repeat (with_reducible first|refine Jc ?_|refine Jd ?_|refine Je ?_|refine Jf ?_|refine Jg ?_|refine Jh ?_|refine Ji ?_|refine Jj ?_|refine Jk rfl ?_|refine Jl ?_|refine Jm ?_|refine Jn ?_|refine Jp ?_|refine Jq ?_))
    refine s_cut (σ := Nat) (fun b14 => [(13, .string ⟨⟨pl⟩⟩), (14, .pointer (some ⟨b14, 0, none⟩)), (6, .pointer (some ⟨b6, 0, none⟩))])
      (fun b14 w => Dn.Sep w ([(b14, .cells ⟨[.int .i64 gn.epoch, .int .i64 gn.count, .int .i64 0, .int .i64 0, .int .i64 (leN (pl.take 4) : Int), .int .i64 (leN ((pl.drop 4).take 2) : Int), .string ⟨#[]⟩]⟩ 97), (b12, .cells ⟨gn.v⟩ 29), (b9, .cells ⟨(plW d i).v⟩ 46), (b6, .cells ⟨zPt.v⟩ 97)] ++ s.L) F) ?_ ?_
    · (repeat (with_reducible first|refine Ja ?_|refine Jb ?_|refine Jc ?_|refine Jd ?_|refine Je ?_|refine Jf ?_|refine Jg ?_|refine Jh ?_|refine Ji ?_|refine Jj ?_|refine Jk rfl ?_|refine Jl ?_|refine Jm ?_|refine Jn ?_|refine Jo ?_|refine Jp ?_|refine Jq ?_))
      replace S := S.drew
      refine e_mvS rfl ?_
      (repeat (with_reducible first|refine Ja ?_|refine Jb ?_|refine Jc ?_|refine Jd ?_|refine Je ?_|refine Jf ?_|refine Jg ?_|refine Jh ?_|refine Ji ?_|refine Jj ?_|refine Jk rfl ?_|refine Jl ?_|refine Jm ?_|refine Jn ?_|refine Jo ?_|refine Jp ?_|refine Jq ?_))
      refine e_slsL (s := pl) (i := 0) (j := 4) rfl (bnd_s rfl rfl (by omega)) (bnd_n _ _ _) (by omega) ?_
      (repeat (with_reducible first|refine Ja ?_|refine Jb ?_|refine Jc ?_|refine Jd ?_|refine Je ?_|refine Jf ?_|refine Jg ?_|refine Jh ?_|refine Ji ?_|refine Jj ?_|refine Jk rfl ?_|refine Jl ?_|refine Jm ?_|refine Jn ?_|refine Jo ?_|refine Jp ?_|refine Jq ?_))
      refine e_mvS rfl ?_
      (repeat (with_reducible first|refine Ja ?_|refine Jb ?_|refine Jc ?_|refine Jd ?_|refine Je ?_|refine Jf ?_|refine Jg ?_|refine Jh ?_|refine Ji ?_|refine Jj ?_|refine Jk rfl ?_|refine Jl ?_|refine Jm ?_|refine Jn ?_|refine Jo ?_|refine Jp ?_|refine Jq ?_))
      refine e_slsL (s := pl) (i := 4) (j := 6) rfl (bnd_s rfl rfl (by omega)) (bnd_s rfl rfl (by omega)) (by omega) ?_
      (repeat (with_reducible first|refine Ja ?_|refine Jb ?_|refine Jc ?_|refine Jd ?_|refine Je ?_|refine Jf ?_|refine Jg ?_|refine Jh ?_|refine Ji ?_|refine Jj ?_|refine Jk rfl ?_|refine Jl ?_|refine Jm ?_|refine Jn ?_|refine Jo ?_|refine Jp ?_|refine Jq ?_))
      have g1 := wal_get ((pl.drop 0).take (4 - 0)) (by simp; omega)
      have g2 := wal_get ((pl.drop 4).take (6 - 4)) (by simp; omega)
      have hfin : ∀ {b14 : Nat} {w : World}, Dn.Sep w ((b14, .cells ⟨putAt zPt.v 0 [.int .i64 gn.epoch, .int .i64 gn.count, .int .i64 0, .int .i64 0, .int .i64 (leN ((pl.drop 0).take (4 - 0)) : Int), .int .i64 (leN ((pl.drop 4).take (6 - 4)) : Int), .string ⟨#[]⟩]⟩ 97) :: ([(b12, .cells ⟨gn.v⟩ 29), (b9, .cells ⟨(plW d i).v⟩ 46), (b6, .cells ⟨zPt.v⟩ 97)] ++ s.L)) F →
          Dn.Sep w ([(b14, .cells ⟨[.int .i64 gn.epoch, .int .i64 gn.count, .int .i64 0, .int .i64 0, .int .i64 (leN (pl.take 4) : Int), .int .i64 (leN ((pl.drop 4).take 2) : Int), .string ⟨#[]⟩]⟩ 97), (b12, .cells ⟨gn.v⟩ 29), (b9, .cells ⟨(plW d i).v⟩ 46), (b6, .cells ⟨zPt.v⟩ 97)] ++ s.L) F := fun S => S
      repeat' first
        | (with_reducible refine t_alt ?_ ?_)
        | (refine e_ld (v := .agg ⟨gn.v⟩) (S.row 0 rfl (by simp [Gn.v]) rfl) ?_)
        | (refine e_ld (v := .agg ⟨gn.v⟩) (S.row 1 rfl (by simp [Gn.v]) rfl) ?_)
        | (refine e_callP rfl g1 S fun w S => ?_)
        | (refine e_callP rfl g2 S fun w S => ?_)
        | (refine e_p (v := .agg ⟨[.int .i64 gn.epoch, .int .i64 gn.count, .int .i64 0, .int .i64 0, .int .i64 (leN ((pl.drop 0).take (4 - 0)) : Int), .int .i64 (leN ((pl.drop 4).take (6 - 4)) : Int), .string ⟨#[]⟩]⟩) rfl ?_)
        | (refine e_nwE S (cs' := zPt.v) rfl fun b14 w S => ?_)
        | (refine e_st (vs := [.int .i64 gn.epoch, .int .i64 gn.count, .int .i64 0, .int .i64 0, .int .i64 (leN ((pl.drop 0).take (4 - 0)) : Int), .int .i64 (leN ((pl.drop 4).take (6 - 4)) : Int), .string ⟨#[]⟩]) S 0 rfl rfl rfl rfl (by simp [Value.flat]) (by simp [zPt, Pt.v]) fun w S => ?_)
        | (first|(with_reducible first|refine Ja ?_|refine Jb ?_|refine Jc ?_|refine Jd ?_|refine Je ?_|refine Jf ?_|refine Jg ?_|refine Jh ?_|refine Ji ?_|refine Jj ?_|refine Jk rfl ?_|refine Jl ?_|refine Jm ?_|refine Jn ?_|refine Jo ?_|refine Jp ?_|refine Jq ?_)|refine JA rfl ?_|refine JB rfl ?_|refine JC rfl ?_|refine JD rfl ?_|refine JE rfl ?_|refine JF rfl ?_|refine JG rfl ?_|refine JH rfl ?_|refine JI rfl ?_|refine J2 rfl ?_|refine J3 rfl ?_|refine J4 rfl ?_|refine J1 rfl ?_|refine J6 rfl ?_|refine J7 rfl ?_|refine JJ rfl ?_|refine JK rfl ?_|refine JQ rfl ?_|refine JL rfl rfl ?_|refine JM rfl rfl ?_|refine JN rfl ?_|refine JO rfl ?_|refine JP rfl ?_)
      all_goals exact ⟨rfl, _, ⟨rfl, rfl, rfl, trivial⟩, hfin S⟩
    intro gg b14 w S
    simp only [setL]
    (repeat (with_reducible first|refine Ja ?_|refine Jb ?_|refine Jc ?_|refine Jd ?_|refine Je ?_|refine Jf ?_|refine Jg ?_|refine Jh ?_|refine Ji ?_|refine Jj ?_|refine Jk rfl ?_|refine Jl ?_|refine Jm ?_|refine Jn ?_|refine Jo ?_|refine Jp ?_|refine Jq ?_))
    refine s_opsd ?_
    replace S := S.drew
    refine e_mvS rfl ?_
    refine e_slsL (s := pl) (i := 6) (j := 10) rfl (bnd_s rfl rfl (by omega)) (bnd_s rfl rfl (by omega)) (by omega) ?_
    refine e_callP rfl (wal_get ((pl.drop 6).take (10 - 6)) (by simp; omega)) S fun w S => ?_
    refine e_mvS rfl ?_
    refine e_slsL (s := pl) (i := 10) (j := 14) rfl (bnd_s rfl rfl (by omega)) (bnd_s rfl rfl (by omega)) (by omega) ?_
    refine e_callP rfl (wal_get ((pl.drop 10).take (14 - 10)) (by simp; omega)) S fun w S => ?_
    (repeat (first|(with_reducible first|refine Ja ?_|refine Jb ?_|refine Jc ?_|refine Jd ?_|refine Je ?_|refine Jf ?_|refine Jg ?_|refine Jh ?_|refine Ji ?_|refine Jj ?_|refine Jk rfl ?_|refine Jl ?_|refine Jm ?_|refine Jn ?_|refine Jo ?_|refine Jp ?_|refine Jq ?_)|refine JA rfl ?_|refine JB rfl ?_|refine JC rfl ?_|refine JD rfl ?_|refine JE rfl ?_|refine JF rfl ?_|refine JG rfl ?_|refine JH rfl ?_|refine JI rfl ?_|refine J2 rfl ?_|refine J3 rfl ?_|refine J4 rfl ?_|refine J1 rfl ?_|refine J6 rfl ?_|refine J7 rfl ?_|refine JJ rfl ?_|refine JK rfl ?_|refine JQ rfl ?_|refine JL rfl rfl ?_|refine JM rfl rfl ?_|refine JN rfl ?_|refine JO rfl ?_|refine JP rfl ?_))
    refine e_st (vs := (⟨(leN ((pl.drop 6).take 4) : Int), (leN ((pl.drop 10).take 4) : Int)⟩ : Gn).v) S 0 rfl rfl rfl rfl (by simp [Gn.v, Value.flat]) (by simp) fun w S => ?_
    (repeat (first|(with_reducible first|refine Ja ?_|refine Jb ?_|refine Jc ?_|refine Jd ?_|refine Je ?_|refine Jf ?_|refine Jg ?_|refine Jh ?_|refine Ji ?_|refine Jj ?_|refine Jk rfl ?_|refine Jl ?_|refine Jm ?_|refine Jn ?_|refine Jo ?_|refine Jp ?_|refine Jq ?_)|refine JA rfl ?_|refine JB rfl ?_|refine JC rfl ?_|refine JD rfl ?_|refine JE rfl ?_|refine JF rfl ?_|refine JG rfl ?_|refine JH rfl ?_|refine JI rfl ?_|refine J2 rfl ?_|refine J3 rfl ?_|refine J4 rfl ?_|refine J1 rfl ?_|refine J6 rfl ?_|refine J7 rfl ?_|refine JJ rfl ?_|refine JK rfl ?_|refine JQ rfl ?_|refine JL rfl rfl ?_|refine JM rfl rfl ?_|refine JN rfl ?_|refine JO rfl ?_|refine JP rfl ?_))
    refine e_ld (S.cell 0 rfl rfl) ?_
    refine e_p (v := .int .i64 ((min 26 (leN ((pl.drop 4).take 2)) : Nat) : Int)) (by
      show some (Value.int .i64 (if ((leN ((pl.drop 4).take 2) : Nat) : Int) < 26 then ((leN ((pl.drop 4).take 2) : Nat) : Int) else 26)) = _
      congr 2; split <;> omega) ?_
    refine e_arv rfl rfl (ar_addN 14 _ (14 + min 26 (leN ((pl.drop 4).take 2))) (by omega) (by omega)) ?_
    refine e_slsL (s := pl) (i := 14) (j := 14 + min 26 (leN ((pl.drop 4).take 2))) rfl (bnd_s rfl rfl (by omega)) (bnd_s rfl rfl (by omega)) (by omega) ?_
    have e14 : 14 + min 26 (leN ((pl.drop 4).take 2)) - 14 = min 26 (leN ((pl.drop 4).take 2)) := by omega
    rw [e14]
    (repeat (first|(with_reducible first|refine Ja ?_|refine Jb ?_|refine Jc ?_|refine Jd ?_|refine Je ?_|refine Jf ?_|refine Jg ?_|refine Jh ?_|refine Ji ?_|refine Jj ?_|refine Jk rfl ?_|refine Jl ?_|refine Jm ?_|refine Jn ?_|refine Jo ?_|refine Jp ?_|refine Jq ?_)|refine JA rfl ?_|refine JB rfl ?_|refine JC rfl ?_|refine JD rfl ?_|refine JE rfl ?_|refine JF rfl ?_|refine JG rfl ?_|refine JH rfl ?_|refine JI rfl ?_|refine J2 rfl ?_|refine J3 rfl ?_|refine J4 rfl ?_|refine J1 rfl ?_|refine J6 rfl ?_|refine J7 rfl ?_|refine JJ rfl ?_|refine JK rfl ?_|refine JQ rfl ?_|refine JL rfl rfl ?_|refine JM rfl rfl ?_|refine JN rfl ?_|refine JO rfl ?_|refine JP rfl ?_))
    refine e_st (vs := [.string ⟨⟨(pl.drop 14).take (min 26 (leN ((pl.drop 4).take 2)))⟩⟩]) S 0 rfl rfl rfl rfl (by simp [Value.flat]) (Nat.le_of_ble_eq_true rfl) fun w S => ?_
    (repeat (first|(with_reducible first|refine Ja ?_|refine Jb ?_|refine Jc ?_|refine Jd ?_|refine Je ?_|refine Jf ?_|refine Jg ?_|refine Jh ?_|refine Ji ?_|refine Jj ?_|refine Jk rfl ?_|refine Jl ?_|refine Jm ?_|refine Jn ?_|refine Jo ?_|refine Jp ?_|refine Jq ?_)|refine JA rfl ?_|refine JB rfl ?_|refine JC rfl ?_|refine JD rfl ?_|refine JE rfl ?_|refine JF rfl ?_|refine JG rfl ?_|refine JH rfl ?_|refine JI rfl ?_|refine J2 rfl ?_|refine J3 rfl ?_|refine J4 rfl ?_|refine J1 rfl ?_|refine J6 rfl ?_|refine J7 rfl ?_|refine JJ rfl ?_|refine JK rfl ?_|refine JQ rfl ?_|refine JL rfl rfl ?_|refine JM rfl rfl ?_|refine JN rfl ?_|refine JO rfl ?_|refine JP rfl ?_))
    refine e_ld (v := .agg ⟨(parse gn pl).v⟩) (S.row 0 rfl (Nat.le_of_eq rfl) rfl) ?_
    refine e_st (vs := (parse gn pl).v) S 3 rfl rfl rfl rfl (by simp [Pt.v, Value.flat]) (by simp [zPt, Pt.v]) fun w S => ?_
    (repeat (first|(with_reducible first|refine Ja ?_|refine Jb ?_|refine Jc ?_|refine Jd ?_|refine Je ?_|refine Jf ?_|refine Jg ?_|refine Jh ?_|refine Ji ?_|refine Jj ?_|refine Jk rfl ?_|refine Jl ?_|refine Jm ?_|refine Jn ?_|refine Jo ?_|refine Jp ?_|refine Jq ?_)|refine JA rfl ?_|refine JB rfl ?_|refine JC rfl ?_|refine JD rfl ?_|refine JE rfl ?_|refine JF rfl ?_|refine JG rfl ?_|refine JH rfl ?_|refine JI rfl ?_|refine J2 rfl ?_|refine J3 rfl ?_|refine J4 rfl ?_|refine J1 rfl ?_|refine J6 rfl ?_|refine J7 rfl ?_|refine JJ rfl ?_|refine JK rfl ?_|refine JQ rfl ?_|refine JL rfl rfl ?_|refine JM rfl rfl ?_|refine JN rfl ?_|refine JO rfl ?_|refine JP rfl ?_))
    exact f_ret (vs := [.agg ⟨(parse gn pl).v⟩, .bool true, .int .i64 0]) rfl (rvs3 (S.row 3 rfl (by simp [putAt, zPt, Pt.v]) rfl) rfl rfl) (hQ _ _ _ ⟨by rw [rW]; rfl, rfl⟩ (Sep.drop (L2 := [_, _, _, _]) S))

end Go.Proofs.Ytgendpinmmmfjaa

/-
  The walk of next.
-/
namespace Dn
open Go

def headOK (x : Pt) (t : Tl) : Prop := x.gen.newer t.gen ∧ x.number = t.number + 1 ∧ x.before = t.gen ∧ x.left ≤ 4096
@[irreducible] instance headOKD (x : Pt) (t : Tl) : Decidable (headOK x t) := by unfold headOK; infer_instance
def partOK (p x : Pt) (i : Nat) : Prop := p.gen = x.gen ∧ p.number = x.number ∧ p.before = x.before ∧ p.left = x.left - 26 * i
@[irreducible] instance partOKD (p x : Pt) (i : Nat) : Decidable (partOK p x i) := by unfold partOK; infer_instance
/-- the parts from i on: the bytes, whether all are there, the error -/
def restW (s : Sh) (d : Int) (t : Tl) (x : Pt) : Nat → Nat → Sec → Sec × Bool × Int
  | 0, _, acc => (acc, true, 0)
  | k + 1, i, acc =>
    if (readW s d (t.next + i)).2.1 = true ∧ partOK (readW s d (t.next + i)).1 x i then restW s d t x k (i + 1) (acc ++ (readW s d (t.next + i)).1.bytes)
    else ([], false, (readW s d (t.next + i)).2.2)
/-- next: the record, the tail, whether there is one, the error -/
def nextW (s : Sh) (d : Int) (t : Tl) : Sec × Tl × Bool × Int :=
  if (readW s d t.next).2.1 = true ∧ headOK (readW s d t.next).1 t then
    (if (restW s d t (readW s d t.next).1 (sizeW (readW s d t.next).1.left.toNat - 1) 1 (readW s d t.next).1.bytes).2.1 = true then
      ((restW s d t (readW s d t.next).1 (sizeW (readW s d t.next).1.left.toNat - 1) 1 (readW s d t.next).1.bytes).1, ⟨t.next + sizeW (readW s d t.next).1.left.toNat, (readW s d t.next).1.number, (readW s d t.next).1.gen⟩, true, 0)
    else ([], t, false, (restW s d t (readW s d t.next).1 (sizeW (readW s d t.next).1.left.toNat - 1) 1 (readW s d t.next).1.bytes).2.2))
  else ([], t, false, (readW s d t.next).2.2)
end Dn
namespace Go.Proofs.Ytgendpinmmmfjaa
open Dn
attribute [local irreducible] Evs Ev EvT DSpec PSpec CallTo
set_option maxRecDepth 10000
set_option maxHeartbeats 2000000

theorem rvs4 {T : Rg} {w : World} {a b c e : RV} {x y z u : Value} (h1 : rvV T w a = some x) (h2 : rvV T w b = some y) (h3 : rvV T w c = some z) (h4 : rvV T w e = some u) : rvsV T w [a, b, c, e] = some [x, y, z, u] := by simp only [rvsV, h1, h2, h3, h4]
theorem gn_v_inj {p q : Gn} : p = q ↔ (p.epoch = q.epoch ∧ p.count = q.count) := by
  constructor
  · rintro rfl; exact ⟨rfl, rfl⟩
  · rintro ⟨h1, h2⟩; cases p; cases q; simp_all
theorem eqc_gn {T : Rg} {x y : X} {p q : Gn} (hx : T.ev x = .agg ⟨p.v⟩) (hy : T.ev y = .agg ⟨q.v⟩) : (PE.eqc true 2 x y).ev T = some (.bool (!decide (p = q))) := by
  simp only [PE.ev, hx, hy]
  show some (Value.bool (sgn true (p.epoch == q.epoch && (p.count == q.count && true)))) = _
  simp only [sgn, cond_true]
  by_cases h : p = q
  · subst h; simp
  · rw [decide_eq_false h]
    have : ¬ (p.epoch = q.epoch ∧ p.count = q.count) := fun h' => h (gn_v_inj.2 h')
    congr 2
    by_cases h1 : p.epoch = q.epoch <;> by_cases h2 : p.count = q.count <;> simp_all

theorem read_part {s : Sh} {d i : Int} : (readW s d i).1 = zPt ∨ ∃ g p, (readW s d i).1 = parse g p := by
  unfold readW
  split
  · exact .inl rfl
  split
  · exact .inl rfl
  split
  · exact .inl rfl
  · exact .inr ⟨_, _, rfl⟩
theorem part_bd {s : Sh} {d i : Int} : 0 ≤ (readW s d i).1.left ∧ (readW s d i).1.left < 65536 ∧ 0 ≤ (readW s d i).1.number ∧ (readW s d i).1.number < 4294967296 ∧ (readW s d i).1.bytes.length ≤ 26 := by
  rcases read_part (s := s) (d := d) (i := i) with h | ⟨g, p, h⟩ <;> rw [h]
  · decide
  · unfold parse
    have h1 := leN_lt ((p.drop 4).take 2)
    have h2 := leN_lt (p.take 4)
    have e1 : 256 ^ ((p.drop 4).take 2).length ≤ 256 ^ 2 := Nat.pow_le_pow_right (by omega) (by simp; omega)
    have e2 : 256 ^ (p.take 4).length ≤ 256 ^ 4 := Nat.pow_le_pow_right (by omega) (by simp; omega)
    simp only [List.length_take]
    omega

theorem w_next (s : Sh) (d : Int) (t : Tl) (hs : s.ok) (hd : 0 ≤ d ∧ d < s.cfg.disks) (ht' : 0 ≤ t.next ∧ t.next ≤ 2147483647 ∧ 0 ≤ t.number ∧ t.number ≤ 4294967296) :
    DSpec Try.prog 27 [s.v, .int .i64 d, .agg ⟨t.v⟩] s.L fun v L => v = .tuple ⟨[.string ⟨⟨(nextW s d t).1⟩⟩, .agg ⟨(nextW s d t).2.1.v⟩, .bool (nextW s d t).2.2.1, .int .i64 (nextW s d t).2.2.2]⟩ ∧ L = s.L := by
  refine spec_of mix Try.func27 c27_eq rfl rfl fun w F Q S hQ => ?_
  obtain ⟨R0, hR0⟩ : ∃ R0, readW s d t.next = R0 := ⟨_, rfl⟩
  have hbd := part_bd (s := s) (d := d) (i := t.next)
  rw [hR0] at hbd
  have nW : nextW s d t = if R0.2.1 = true ∧ headOK R0.1 t then
      (if (restW s d t R0.1 (sizeW R0.1.left.toNat - 1) 1 R0.1.bytes).2.1 = true then ((restW s d t R0.1 (sizeW R0.1.left.toNat - 1) 1 R0.1.bytes).1, ⟨t.next + sizeW R0.1.left.toNat, R0.1.number, R0.1.gen⟩, true, 0)
      else ([], t, false, (restW s d t R0.1 (sizeW R0.1.left.toNat - 1) 1 R0.1.bytes).2.2)) else ([], t, false, R0.2.2) := by unfold nextW; rw [hR0]
  (repeat (with_reducible first|refine Ja ?_|refine Jb ?_|refine Jc ?_|refine Jd ?_|refine Je ?_|refine Jf ?_|refine Jg ?_|refine Jh ?_|refine Ji ?_|refine Jj ?_|refine Jk rfl ?_|refine Jl ?_|refine Jm ?_|refine Jn ?_|refine Jo ?_|refine Jp ?_|refine Jq ?_))
  refine e_bx S rfl fun b5 w S => ?_
  (repeat (first|(with_reducible first|refine Ja ?_|refine Jb ?_|refine Jc ?_|refine Jd ?_|refine Je ?_|refine Jf ?_|refine Jg ?_|refine Jh ?_|refine Ji ?_|refine Jj ?_|refine Jk rfl ?_|refine Jl ?_|refine Jm ?_|refine Jn ?_|refine Jo ?_|refine Jp ?_|refine Jq ?_)|refine JA rfl ?_|refine JB rfl ?_|refine JC rfl ?_|refine JD rfl ?_|refine JE rfl ?_|refine JF rfl ?_|refine JG rfl ?_|refine JH rfl ?_|refine JI rfl ?_|refine J2 rfl ?_|refine J3 rfl ?_|refine J4 rfl ?_|refine J1 rfl ?_|refine J6 rfl ?_|refine J7 rfl ?_|refine JJ rfl ?_|refine JK rfl ?_|refine JQ rfl ?_|refine JL rfl rfl ?_|refine JM rfl rfl ?_|refine JN rfl ?_|refine JO rfl ?_|refine JP rfl ?_))
  refine e_nwE S (cs' := zT.v) rfl fun b7 w S => ?_
  (repeat (first|(with_reducible first|refine Ja ?_|refine Jb ?_|refine Jc ?_|refine Jd ?_|refine Je ?_|refine Jf ?_|refine Jg ?_|refine Jh ?_|refine Ji ?_|refine Jj ?_|refine Jk rfl ?_|refine Jl ?_|refine Jm ?_|refine Jn ?_|refine Jo ?_|refine Jp ?_|refine Jq ?_)|refine JA rfl ?_|refine JB rfl ?_|refine JC rfl ?_|refine JD rfl ?_|refine JE rfl ?_|refine JF rfl ?_|refine JG rfl ?_|refine JH rfl ?_|refine JI rfl ?_|refine J2 rfl ?_|refine J3 rfl ?_|refine J4 rfl ?_|refine J1 rfl ?_|refine J6 rfl ?_|refine J7 rfl ?_|refine JJ rfl ?_|refine JK rfl ?_|refine JQ rfl ?_|refine JL rfl rfl ?_|refine JM rfl rfl ?_|refine JN rfl ?_|refine JO rfl ?_|refine JP rfl ?_))
  refine e_ld (S.cell 1 rfl rfl) ?_
  refine e_call (L2 := [_, _]) rfl (w_read s d t.next hs hd ht'.1) S ?_
  rintro _ _ w ⟨rfl, rfl⟩ S
  rw [hR0]
  refine e_mvT rfl ?_
  refine e_p (v := .agg ⟨R0.1.v⟩) rfl ?_
  refine e_p (v := .bool R0.2.1) rfl ?_
  refine e_p (v := .int .i64 R0.2.2) rfl ?_
  refine e_nwE S (cs' := zPt.v) rfl fun b10 w S => ?_
  refine e_st (vs := R0.1.v) S 0 rfl rfl rfl rfl (by simp [Pt.v, Value.flat]) (by simp [zPt, Pt.v]) fun w S => ?_
  replace S : Dn.Sep w ([(b10, .cells ⟨R0.1.v⟩ 97), (b7, .cells ⟨zT.v⟩ 31), (b5, .cells ⟨t.v⟩ 31)] ++ s.L) F := S
  refine e_mvB rfl ?_
  refine e_mvI rfl ?_
  (repeat (with_reducible first|refine Jc ?_|refine Jd ?_|refine Je ?_|refine Jf ?_|refine Jg ?_|refine Jh ?_|refine Ji ?_|refine Jj ?_|refine Jk rfl ?_|refine Jl ?_|refine Jm ?_|refine Jn ?_|refine Jp ?_|refine Jq ?_))
  -- the head
  refine s_seq ?_
  refine s_cut (σ := Unit) (fun _ => [(57, .bool (!decide (R0.2.1 = true ∧ headOK R0.1 t))), (12, .int .i64 R0.2.2), (0, s.v), (1, .int .i64 d), (5, .pointer (some ⟨b5, 0, none⟩)), (7, .pointer (some ⟨b7, 0, none⟩)), (10, .pointer (some ⟨b10, 0, none⟩))])
    (fun _ w => Dn.Sep w ([(b10, .cells ⟨R0.1.v⟩ 97), (b7, .cells ⟨zT.v⟩ 31), (b5, .cells ⟨t.v⟩ 31)] ++ s.L) F) ?_ ?_
  · have no : ¬ (R0.2.1 = true ∧ headOK R0.1 t) → Value.bool true = Value.bool (!decide (R0.2.1 = true ∧ headOK R0.1 t)) := fun h => by rw [decide_eq_false h]; rfl
    (repeat (with_reducible first|refine Ja ?_|refine Jb ?_|refine Jc ?_|refine Jd ?_|refine Je ?_|refine Jf ?_|refine Jg ?_|refine Jh ?_|refine Ji ?_|refine Jj ?_|refine Jk rfl ?_|refine Jl ?_|refine Jm ?_|refine Jn ?_|refine Jo ?_|refine Jp ?_|refine Jq ?_))
    refine e_mvB rfl ?_
    refine e_p (v := .bool (!R0.2.1)) rfl ?_
    refine e_mvB rfl ?_
    refine e_br rfl (fun h1 => ?_) (fun h1 => ?_)
    rotate_left
    · have h1' : R0.2.1 = false := by simpa using h1
      (repeat (first|(with_reducible first|refine Ja ?_|refine Jb ?_|refine Jc ?_|refine Jd ?_|refine Je ?_|refine Jf ?_|refine Jg ?_|refine Jh ?_|refine Ji ?_|refine Jj ?_|refine Jk rfl ?_|refine Jl ?_|refine Jm ?_|refine Jn ?_|refine Jo ?_|refine Jp ?_|refine Jq ?_)|refine JA rfl ?_|refine JB rfl ?_|refine JC rfl ?_|refine JD rfl ?_|refine JE rfl ?_|refine JF rfl ?_|refine JG rfl ?_|refine JH rfl ?_|refine JI rfl ?_|refine J2 rfl ?_|refine J3 rfl ?_|refine J4 rfl ?_|refine J1 rfl ?_|refine J6 rfl ?_|refine J7 rfl ?_|refine JJ rfl ?_|refine JK rfl ?_|refine JQ rfl ?_|refine JL rfl rfl ?_|refine JM rfl rfl ?_|refine JN rfl ?_|refine JO rfl ?_|refine JP rfl ?_))
      exact ⟨rfl, (), ⟨no (fun h => by rw [h1'] at h; exact absurd h.1 (by simp)), rfl, rfl, rfl, rfl, rfl, rfl, trivial⟩, S⟩
    have h1' : R0.2.1 = true := by simpa using h1
    (repeat (first|(with_reducible first|refine Ja ?_|refine Jb ?_|refine Jc ?_|refine Jd ?_|refine Je ?_|refine Jf ?_|refine Jg ?_|refine Jh ?_|refine Ji ?_|refine Jj ?_|refine Jk rfl ?_|refine Jl ?_|refine Jm ?_|refine Jn ?_|refine Jo ?_|refine Jp ?_|refine Jq ?_)|refine JA rfl ?_|refine JB rfl ?_|refine JC rfl ?_|refine JD rfl ?_|refine JE rfl ?_|refine JF rfl ?_|refine JG rfl ?_|refine JH rfl ?_|refine JI rfl ?_|refine J2 rfl ?_|refine J3 rfl ?_|refine J4 rfl ?_|refine J1 rfl ?_|refine J6 rfl ?_|refine J7 rfl ?_|refine JJ rfl ?_|refine JK rfl ?_|refine JQ rfl ?_|refine JL rfl rfl ?_|refine JM rfl rfl ?_|refine JN rfl ?_|refine JO rfl ?_|refine JP rfl ?_))
    refine e_ld (v := .agg ⟨R0.1.gen.v⟩) (S.row 0 rfl (by simp [Pt.v]) rfl) ?_
    (repeat (first|(with_reducible first|refine Ja ?_|refine Jb ?_|refine Jc ?_|refine Jd ?_|refine Je ?_|refine Jf ?_|refine Jg ?_|refine Jh ?_|refine Ji ?_|refine Jj ?_|refine Jk rfl ?_|refine Jl ?_|refine Jm ?_|refine Jn ?_|refine Jo ?_|refine Jp ?_|refine Jq ?_)|refine JA rfl ?_|refine JB rfl ?_|refine JC rfl ?_|refine JD rfl ?_|refine JE rfl ?_|refine JF rfl ?_|refine JG rfl ?_|refine JH rfl ?_|refine JI rfl ?_|refine J2 rfl ?_|refine J3 rfl ?_|refine J4 rfl ?_|refine J1 rfl ?_|refine J6 rfl ?_|refine J7 rfl ?_|refine JJ rfl ?_|refine JK rfl ?_|refine JQ rfl ?_|refine JL rfl rfl ?_|refine JM rfl rfl ?_|refine JN rfl ?_|refine JO rfl ?_|refine JP rfl ?_))
    refine e_ld (v := .agg ⟨t.gen.v⟩) (S.row 2 rfl (by simp [Tl.v]) rfl) ?_
    refine e_gdT rfl ?_
    refine e_callP rfl (sec_newer R0.1.gen t.gen) S fun w S => ?_
    (repeat (first|(with_reducible first|refine Ja ?_|refine Jb ?_|refine Jc ?_|refine Jd ?_|refine Je ?_|refine Jf ?_|refine Jg ?_|refine Jh ?_|refine Ji ?_|refine Jj ?_|refine Jk rfl ?_|refine Jl ?_|refine Jm ?_|refine Jn ?_|refine Jo ?_|refine Jp ?_|refine Jq ?_)|refine JA rfl ?_|refine JB rfl ?_|refine JC rfl ?_|refine JD rfl ?_|refine JE rfl ?_|refine JF rfl ?_|refine JG rfl ?_|refine JH rfl ?_|refine JI rfl ?_|refine J2 rfl ?_|refine J3 rfl ?_|refine J4 rfl ?_|refine J1 rfl ?_|refine J6 rfl ?_|refine J7 rfl ?_|refine JJ rfl ?_|refine JK rfl ?_|refine JQ rfl ?_|refine JL rfl rfl ?_|refine JM rfl rfl ?_|refine JN rfl ?_|refine JO rfl ?_|refine JP rfl ?_))
    refine e_brN rfl (fun h2 => ?_) (fun h2 => ?_)
    rotate_left
    · (repeat (first|(with_reducible first|refine Ja ?_|refine Jb ?_|refine Jc ?_|refine Jd ?_|refine Je ?_|refine Jf ?_|refine Jg ?_|refine Jh ?_|refine Ji ?_|refine Jj ?_|refine Jk rfl ?_|refine Jl ?_|refine Jm ?_|refine Jn ?_|refine Jo ?_|refine Jp ?_|refine Jq ?_)|refine JA rfl ?_|refine JB rfl ?_|refine JC rfl ?_|refine JD rfl ?_|refine JE rfl ?_|refine JF rfl ?_|refine JG rfl ?_|refine JH rfl ?_|refine JI rfl ?_|refine J2 rfl ?_|refine J3 rfl ?_|refine J4 rfl ?_|refine J1 rfl ?_|refine J6 rfl ?_|refine J7 rfl ?_|refine JJ rfl ?_|refine JK rfl ?_|refine JQ rfl ?_|refine JL rfl rfl ?_|refine JM rfl rfl ?_|refine JN rfl ?_|refine JO rfl ?_|refine JP rfl ?_))
      exact ⟨rfl, (), ⟨no (fun h => h2 h.2.1), rfl, rfl, rfl, rfl, rfl, rfl, trivial⟩, S⟩
    (repeat (first|(with_reducible first|refine Ja ?_|refine Jb ?_|refine Jc ?_|refine Jd ?_|refine Je ?_|refine Jf ?_|refine Jg ?_|refine Jh ?_|refine Ji ?_|refine Jj ?_|refine Jk rfl ?_|refine Jl ?_|refine Jm ?_|refine Jn ?_|refine Jo ?_|refine Jp ?_|refine Jq ?_)|refine JA rfl ?_|refine JB rfl ?_|refine JC rfl ?_|refine JD rfl ?_|refine JE rfl ?_|refine JF rfl ?_|refine JG rfl ?_|refine JH rfl ?_|refine JI rfl ?_|refine J2 rfl ?_|refine J3 rfl ?_|refine J4 rfl ?_|refine J1 rfl ?_|refine J6 rfl ?_|refine J7 rfl ?_|refine JJ rfl ?_|refine JK rfl ?_|refine JQ rfl ?_|refine JL rfl rfl ?_|refine JM rfl rfl ?_|refine JN rfl ?_|refine JO rfl ?_|refine JP rfl ?_))
    refine e_ld (S.cell 0 rfl rfl) ?_
    (repeat (first|(with_reducible first|refine Ja ?_|refine Jb ?_|refine Jc ?_|refine Jd ?_|refine Je ?_|refine Jf ?_|refine Jg ?_|refine Jh ?_|refine Ji ?_|refine Jj ?_|refine Jk rfl ?_|refine Jl ?_|refine Jm ?_|refine Jn ?_|refine Jo ?_|refine Jp ?_|refine Jq ?_)|refine JA rfl ?_|refine JB rfl ?_|refine JC rfl ?_|refine JD rfl ?_|refine JE rfl ?_|refine JF rfl ?_|refine JG rfl ?_|refine JH rfl ?_|refine JI rfl ?_|refine J2 rfl ?_|refine J3 rfl ?_|refine J4 rfl ?_|refine J1 rfl ?_|refine J6 rfl ?_|refine J7 rfl ?_|refine JJ rfl ?_|refine JK rfl ?_|refine JQ rfl ?_|refine JL rfl rfl ?_|refine JM rfl rfl ?_|refine JN rfl ?_|refine JO rfl ?_|refine JP rfl ?_))
    refine e_ld (S.cell 2 rfl rfl) ?_
    refine e_gdT rfl ?_
    refine e_add (a := t.number) (b := 1) rfl rfl (by omega) (by omega) ?_
    refine e_gdT rfl ?_
    refine e_p (cmp_neqD rfl rfl) ?_
    (repeat (first|(with_reducible first|refine Ja ?_|refine Jb ?_|refine Jc ?_|refine Jd ?_|refine Je ?_|refine Jf ?_|refine Jg ?_|refine Jh ?_|refine Ji ?_|refine Jj ?_|refine Jk rfl ?_|refine Jl ?_|refine Jm ?_|refine Jn ?_|refine Jo ?_|refine Jp ?_|refine Jq ?_)|refine JA rfl ?_|refine JB rfl ?_|refine JC rfl ?_|refine JD rfl ?_|refine JE rfl ?_|refine JF rfl ?_|refine JG rfl ?_|refine JH rfl ?_|refine JI rfl ?_|refine J2 rfl ?_|refine J3 rfl ?_|refine J4 rfl ?_|refine J1 rfl ?_|refine J6 rfl ?_|refine J7 rfl ?_|refine JJ rfl ?_|refine JK rfl ?_|refine JQ rfl ?_|refine JL rfl rfl ?_|refine JM rfl rfl ?_|refine JN rfl ?_|refine JO rfl ?_|refine JP rfl ?_))
    refine e_brN rfl (fun h3 => ?_) (fun h3 => ?_)
    rotate_left
    · (repeat (first|(with_reducible first|refine Ja ?_|refine Jb ?_|refine Jc ?_|refine Jd ?_|refine Je ?_|refine Jf ?_|refine Jg ?_|refine Jh ?_|refine Ji ?_|refine Jj ?_|refine Jk rfl ?_|refine Jl ?_|refine Jm ?_|refine Jn ?_|refine Jo ?_|refine Jp ?_|refine Jq ?_)|refine JA rfl ?_|refine JB rfl ?_|refine JC rfl ?_|refine JD rfl ?_|refine JE rfl ?_|refine JF rfl ?_|refine JG rfl ?_|refine JH rfl ?_|refine JI rfl ?_|refine J2 rfl ?_|refine J3 rfl ?_|refine J4 rfl ?_|refine J1 rfl ?_|refine J6 rfl ?_|refine J7 rfl ?_|refine JJ rfl ?_|refine JK rfl ?_|refine JQ rfl ?_|refine JL rfl rfl ?_|refine JM rfl rfl ?_|refine JN rfl ?_|refine JO rfl ?_|refine JP rfl ?_))
      exact ⟨rfl, (), ⟨no (fun h => h3 h.2.2.1), rfl, rfl, rfl, rfl, rfl, rfl, trivial⟩, S⟩
    (repeat (first|(with_reducible first|refine Ja ?_|refine Jb ?_|refine Jc ?_|refine Jd ?_|refine Je ?_|refine Jf ?_|refine Jg ?_|refine Jh ?_|refine Ji ?_|refine Jj ?_|refine Jk rfl ?_|refine Jl ?_|refine Jm ?_|refine Jn ?_|refine Jo ?_|refine Jp ?_|refine Jq ?_)|refine JA rfl ?_|refine JB rfl ?_|refine JC rfl ?_|refine JD rfl ?_|refine JE rfl ?_|refine JF rfl ?_|refine JG rfl ?_|refine JH rfl ?_|refine JI rfl ?_|refine J2 rfl ?_|refine J3 rfl ?_|refine J4 rfl ?_|refine J1 rfl ?_|refine J6 rfl ?_|refine J7 rfl ?_|refine JJ rfl ?_|refine JK rfl ?_|refine JQ rfl ?_|refine JL rfl rfl ?_|refine JM rfl rfl ?_|refine JN rfl ?_|refine JO rfl ?_|refine JP rfl ?_))
    refine e_ld (v := .agg ⟨R0.1.before.v⟩) (S.row 0 rfl (by simp [Pt.v]) rfl) ?_
    (repeat (first|(with_reducible first|refine Ja ?_|refine Jb ?_|refine Jc ?_|refine Jd ?_|refine Je ?_|refine Jf ?_|refine Jg ?_|refine Jh ?_|refine Ji ?_|refine Jj ?_|refine Jk rfl ?_|refine Jl ?_|refine Jm ?_|refine Jn ?_|refine Jo ?_|refine Jp ?_|refine Jq ?_)|refine JA rfl ?_|refine JB rfl ?_|refine JC rfl ?_|refine JD rfl ?_|refine JE rfl ?_|refine JF rfl ?_|refine JG rfl ?_|refine JH rfl ?_|refine JI rfl ?_|refine J2 rfl ?_|refine J3 rfl ?_|refine J4 rfl ?_|refine J1 rfl ?_|refine J6 rfl ?_|refine J7 rfl ?_|refine JJ rfl ?_|refine JK rfl ?_|refine JQ rfl ?_|refine JL rfl rfl ?_|refine JM rfl rfl ?_|refine JN rfl ?_|refine JO rfl ?_|refine JP rfl ?_))
    refine e_ld (v := .agg ⟨t.gen.v⟩) (S.row 2 rfl (by simp [Tl.v]) rfl) ?_
    refine e_gdT rfl ?_
    refine e_p (eqc_gn rfl rfl) ?_
    (repeat (first|(with_reducible first|refine Ja ?_|refine Jb ?_|refine Jc ?_|refine Jd ?_|refine Je ?_|refine Jf ?_|refine Jg ?_|refine Jh ?_|refine Ji ?_|refine Jj ?_|refine Jk rfl ?_|refine Jl ?_|refine Jm ?_|refine Jn ?_|refine Jo ?_|refine Jp ?_|refine Jq ?_)|refine JA rfl ?_|refine JB rfl ?_|refine JC rfl ?_|refine JD rfl ?_|refine JE rfl ?_|refine JF rfl ?_|refine JG rfl ?_|refine JH rfl ?_|refine JI rfl ?_|refine J2 rfl ?_|refine J3 rfl ?_|refine J4 rfl ?_|refine J1 rfl ?_|refine J6 rfl ?_|refine J7 rfl ?_|refine JJ rfl ?_|refine JK rfl ?_|refine JQ rfl ?_|refine JL rfl rfl ?_|refine JM rfl rfl ?_|refine JN rfl ?_|refine JO rfl ?_|refine JP rfl ?_))
    refine e_brN rfl (fun h4 => ?_) (fun h4 => ?_)
    rotate_left
    · (repeat (first|(with_reducible first|refine Ja ?_|refine Jb ?_|refine Jc ?_|refine Jd ?_|refine Je ?_|refine Jf ?_|refine Jg ?_|refine Jh ?_|refine Ji ?_|refine Jj ?_|refine Jk rfl ?_|refine Jl ?_|refine Jm ?_|refine Jn ?_|refine Jo ?_|refine Jp ?_|refine Jq ?_)|refine JA rfl ?_|refine JB rfl ?_|refine JC rfl ?_|refine JD rfl ?_|refine JE rfl ?_|refine JF rfl ?_|refine JG rfl ?_|refine JH rfl ?_|refine JI rfl ?_|refine J2 rfl ?_|refine J3 rfl ?_|refine J4 rfl ?_|refine J1 rfl ?_|refine J6 rfl ?_|refine J7 rfl ?_|refine JJ rfl ?_|refine JK rfl ?_|refine JQ rfl ?_|refine JL rfl rfl ?_|refine JM rfl rfl ?_|refine JN rfl ?_|refine JO rfl ?_|refine JP rfl ?_))
      exact ⟨rfl, (), ⟨no (fun h => h4 h.2.2.2.1), rfl, rfl, rfl, rfl, rfl, rfl, trivial⟩, S⟩
    (repeat (first|(with_reducible first|refine Ja ?_|refine Jb ?_|refine Jc ?_|refine Jd ?_|refine Je ?_|refine Jf ?_|refine Jg ?_|refine Jh ?_|refine Ji ?_|refine Jj ?_|refine Jk rfl ?_|refine Jl ?_|refine Jm ?_|refine Jn ?_|refine Jo ?_|refine Jp ?_|refine Jq ?_)|refine JA rfl ?_|refine JB rfl ?_|refine JC rfl ?_|refine JD rfl ?_|refine JE rfl ?_|refine JF rfl ?_|refine JG rfl ?_|refine JH rfl ?_|refine JI rfl ?_|refine J2 rfl ?_|refine J3 rfl ?_|refine J4 rfl ?_|refine J1 rfl ?_|refine J6 rfl ?_|refine J7 rfl ?_|refine JJ rfl ?_|refine JK rfl ?_|refine JQ rfl ?_|refine JL rfl rfl ?_|refine JM rfl rfl ?_|refine JN rfl ?_|refine JO rfl ?_|refine JP rfl ?_))
    refine e_ld (S.cell 0 rfl rfl) ?_
    (repeat (first|(with_reducible first|refine Ja ?_|refine Jb ?_|refine Jc ?_|refine Jd ?_|refine Je ?_|refine Jf ?_|refine Jg ?_|refine Jh ?_|refine Ji ?_|refine Jj ?_|refine Jk rfl ?_|refine Jl ?_|refine Jm ?_|refine Jn ?_|refine Jo ?_|refine Jp ?_|refine Jq ?_)|refine JA rfl ?_|refine JB rfl ?_|refine JC rfl ?_|refine JD rfl ?_|refine JE rfl ?_|refine JF rfl ?_|refine JG rfl ?_|refine JH rfl ?_|refine JI rfl ?_|refine J2 rfl ?_|refine J3 rfl ?_|refine J4 rfl ?_|refine J1 rfl ?_|refine J6 rfl ?_|refine J7 rfl ?_|refine JJ rfl ?_|refine JK rfl ?_|refine JQ rfl ?_|refine JL rfl rfl ?_|refine JM rfl rfl ?_|refine JN rfl ?_|refine JO rfl ?_|refine JP rfl ?_))
    refine ⟨rfl, (), ⟨?_, rfl, rfl, rfl, rfl, rfl, rfl, trivial⟩, S⟩
    show Value.bool (decide (R0.1.left > 4096)) = Value.bool (!decide _)
    by_cases h5 : R0.1.left > 4096
    · rw [decide_eq_true h5]
      exact no (fun h => by have := h.2.2.2.2; omega)
    · rw [decide_eq_false h5, decide_eq_true (p := R0.2.1 = true ∧ headOK R0.1 t) ⟨h1', h2, h3, h4, by omega⟩]; rfl
  rintro gg _ w S
  simp only [setL]
  -- nothing there
  have bad : ∀ {e : Int}, nextW s d t = ([], t, false, e) → ∀ {w' : World} {T : Rg} {X : List (Nat × Obj)}, T.ds = [] → T.f 6 = .string ⟨#[]⟩ → T.f 7 = .pointer (some ⟨b7, 0, none⟩) → T.f 8 = .bool false → T.f 9 = .int .i64 e →
      Dn.Sep w' (X ++ ([(b10, .cells ⟨R0.1.v⟩ 97), (b7, .cells ⟨t.v⟩ 31), (b5, .cells ⟨t.v⟩ 31)] ++ s.L)) F →
      finK [.t (.r 6), .cl (.r 7) (some 4), .t (.r 8), .t (.r 9)] Q .r T w' := by
    intro e he w' T X h1 h6 h2 h3 h4 S
    have S1 := S.drop
    refine f_ret (vs := [.string ⟨#[]⟩, .agg ⟨t.v⟩, .bool false, .int .i64 e]) h1 (rvs4 ?_ ?_ ?_ ?_) (hQ _ _ _ ⟨by rw [he]; rfl, rfl⟩ (Sep.drop (L2 := [_, _, _]) S1))
    · show some (T.f 6) = _
      rw [h6]
    · show ldV (some 4) (T.f 7) w' = _
      rw [h2]; exact S1.row 1 rfl (by simp [Tl.v]) rfl
    · show some (T.f 8) = _
      rw [h3]
    · show some (T.f 9) = _
      rw [h4]
  refine s_iteN rfl (fun h => ?_) (fun h => ?_)
  · rw [if_neg h] at nW
    (repeat (with_reducible first|refine Ja ?_|refine Jb ?_|refine Jc ?_|refine Jd ?_|refine Je ?_|refine Jf ?_|refine Jg ?_|refine Jh ?_|refine Ji ?_|refine Jj ?_|refine Jk rfl ?_|refine Jl ?_|refine Jm ?_|refine Jn ?_|refine Jo ?_|refine Jp ?_|refine Jq ?_))
    refine s_opsd ?_
    replace S := S.drew
    refine e_ld (v := .agg ⟨t.v⟩) (S.row 2 rfl (by simp [Tl.v]) rfl) ?_
    (repeat (first|(with_reducible first|refine Ja ?_|refine Jb ?_|refine Jc ?_|refine Jd ?_|refine Je ?_|refine Jf ?_|refine Jg ?_|refine Jh ?_|refine Ji ?_|refine Jj ?_|refine Jk rfl ?_|refine Jl ?_|refine Jm ?_|refine Jn ?_|refine Jo ?_|refine Jp ?_|refine Jq ?_)|refine JA rfl ?_|refine JB rfl ?_|refine JC rfl ?_|refine JD rfl ?_|refine JE rfl ?_|refine JF rfl ?_|refine JG rfl ?_|refine JH rfl ?_|refine JI rfl ?_|refine J2 rfl ?_|refine J3 rfl ?_|refine J4 rfl ?_|refine J1 rfl ?_|refine J6 rfl ?_|refine J7 rfl ?_|refine JJ rfl ?_|refine JK rfl ?_|refine JQ rfl ?_|refine JL rfl rfl ?_|refine JM rfl rfl ?_|refine JN rfl ?_|refine JO rfl ?_|refine JP rfl ?_))
    refine e_st (vs := t.v) S 1 rfl rfl rfl rfl (by simp [Tl.v, Value.flat]) (by simp [zT, Tl.v]) fun w S => ?_
    (repeat (first|(with_reducible first|refine Ja ?_|refine Jb ?_|refine Jc ?_|refine Jd ?_|refine Je ?_|refine Jf ?_|refine Jg ?_|refine Jh ?_|refine Ji ?_|refine Jj ?_|refine Jk rfl ?_|refine Jl ?_|refine Jm ?_|refine Jn ?_|refine Jo ?_|refine Jp ?_|refine Jq ?_)|refine JA rfl ?_|refine JB rfl ?_|refine JC rfl ?_|refine JD rfl ?_|refine JE rfl ?_|refine JF rfl ?_|refine JG rfl ?_|refine JH rfl ?_|refine JI rfl ?_|refine J2 rfl ?_|refine J3 rfl ?_|refine J4 rfl ?_|refine J1 rfl ?_|refine J6 rfl ?_|refine J7 rfl ?_|refine JJ rfl ?_|refine JK rfl ?_|refine JQ rfl ?_|refine JL rfl rfl ?_|refine JM rfl rfl ?_|refine JN rfl ?_|refine JO rfl ?_|refine JP rfl ?_))
    exact bad (X := []) nW rfl rfl rfl rfl rfl S
  rw [if_pos h] at nW
  have hl : R0.1.left ≤ 4096 := h.2.2.2.2
  obtain ⟨n, hn⟩ : ∃ n, sizeW R0.1.left.toNat = n := ⟨_, rfl⟩
  have hn1 : 1 ≤ n ∧ n ≤ 158 := by rw [← hn]; unfold sizeW; split <;> omega
  have hleft : R0.1.left = ((R0.1.left.toNat : Nat) : Int) := by omega
  obtain ⟨RR, hRR⟩ : ∃ RR, restW s d t R0.1 (n - 1) 1 R0.1.bytes = RR := ⟨_, rfl⟩
  rw [hn, hRR] at nW
  (repeat (with_reducible first|refine Jc ?_|refine Jd ?_|refine Je ?_|refine Jf ?_|refine Jg ?_|refine Jh ?_|refine Ji ?_|refine Jj ?_|refine Jk rfl ?_|refine Jl ?_|refine Jm ?_|refine Jn ?_|refine Jp ?_|refine Jq ?_))
  refine s_cut (σ := Unit) (fun _ => [(13, .string ⟨⟨R0.1.bytes⟩⟩), (14, .int .i64 (n : Int)), (0, s.v), (1, .int .i64 d), (5, .pointer (some ⟨b5, 0, none⟩)), (7, .pointer (some ⟨b7, 0, none⟩)), (10, .pointer (some ⟨b10, 0, none⟩))])
    (fun _ w => Dn.Sep w ([(b10, .cells ⟨R0.1.v⟩ 97), (b7, .cells ⟨zT.v⟩ 31), (b5, .cells ⟨t.v⟩ 31)] ++ s.L) F) ?_ ?_
  · (repeat (with_reducible first|refine Ja ?_|refine Jb ?_|refine Jc ?_|refine Jd ?_|refine Je ?_|refine Jf ?_|refine Jg ?_|refine Jh ?_|refine Ji ?_|refine Jj ?_|refine Jk rfl ?_|refine Jl ?_|refine Jm ?_|refine Jn ?_|refine Jo ?_|refine Jp ?_|refine Jq ?_))
    replace S := S.drew
    (repeat (first|(with_reducible first|refine Ja ?_|refine Jb ?_|refine Jc ?_|refine Jd ?_|refine Je ?_|refine Jf ?_|refine Jg ?_|refine Jh ?_|refine Ji ?_|refine Jj ?_|refine Jk rfl ?_|refine Jl ?_|refine Jm ?_|refine Jn ?_|refine Jo ?_|refine Jp ?_|refine Jq ?_)|refine JA rfl ?_|refine JB rfl ?_|refine JC rfl ?_|refine JD rfl ?_|refine JE rfl ?_|refine JF rfl ?_|refine JG rfl ?_|refine JH rfl ?_|refine JI rfl ?_|refine J2 rfl ?_|refine J3 rfl ?_|refine J4 rfl ?_|refine J1 rfl ?_|refine J6 rfl ?_|refine J7 rfl ?_|refine JJ rfl ?_|refine JK rfl ?_|refine JQ rfl ?_|refine JL rfl rfl ?_|refine JM rfl rfl ?_|refine JN rfl ?_|refine JO rfl ?_|refine JP rfl ?_))
    have hsz := w_size R0.1.left.toNat (by omega)
    rw [hn] at hsz
    refine e_ld (v := .int .i64 ((R0.1.left.toNat : Nat) : Int)) (S.cell 0 rfl (by show some (Value.int .i64 R0.1.left) = _; rw [← hleft])) ?_
    (repeat (first|(with_reducible first|refine Ja ?_|refine Jb ?_|refine Jc ?_|refine Jd ?_|refine Je ?_|refine Jf ?_|refine Jg ?_|refine Jh ?_|refine Ji ?_|refine Jj ?_|refine Jk rfl ?_|refine Jl ?_|refine Jm ?_|refine Jn ?_|refine Jo ?_|refine Jp ?_|refine Jq ?_)|refine JA rfl ?_|refine JB rfl ?_|refine JC rfl ?_|refine JD rfl ?_|refine JE rfl ?_|refine JF rfl ?_|refine JG rfl ?_|refine JH rfl ?_|refine JI rfl ?_|refine J2 rfl ?_|refine J3 rfl ?_|refine J4 rfl ?_|refine J1 rfl ?_|refine J6 rfl ?_|refine J7 rfl ?_|refine JJ rfl ?_|refine JK rfl ?_|refine JQ rfl ?_|refine JL rfl rfl ?_|refine JM rfl rfl ?_|refine JN rfl ?_|refine JO rfl ?_|refine JP rfl ?_))
    refine t_alt ?_ ?_
    all_goals
      repeat' first
        | (refine e_ld (v := .string ⟨⟨R0.1.bytes⟩⟩) (S.cell 0 rfl rfl) ?_)
        | (refine e_callP rfl hsz S fun w S => ?_)
        | (first|(with_reducible first|refine Ja ?_|refine Jb ?_|refine Jc ?_|refine Jd ?_|refine Je ?_|refine Jf ?_|refine Jg ?_|refine Jh ?_|refine Ji ?_|refine Jj ?_|refine Jk rfl ?_|refine Jl ?_|refine Jm ?_|refine Jn ?_|refine Jo ?_|refine Jp ?_|refine Jq ?_)|refine JA rfl ?_|refine JB rfl ?_|refine JC rfl ?_|refine JD rfl ?_|refine JE rfl ?_|refine JF rfl ?_|refine JG rfl ?_|refine JH rfl ?_|refine JI rfl ?_|refine J2 rfl ?_|refine J3 rfl ?_|refine J4 rfl ?_|refine J1 rfl ?_|refine J6 rfl ?_|refine J7 rfl ?_|refine JJ rfl ?_|refine JK rfl ?_|refine JQ rfl ?_|refine JL rfl rfl ?_|refine JM rfl rfl ?_|refine JN rfl ?_|refine JO rfl ?_|refine JP rfl ?_)
      exact ⟨rfl, (), ⟨rfl, rfl, rfl, rfl, rfl, rfl, rfl, trivial⟩, S⟩
  rintro gg _ w S
  simp only [setL]
  (repeat (first|(with_reducible first|refine Ja ?_|refine Jb ?_|refine Jc ?_|refine Jd ?_|refine Je ?_|refine Jf ?_|refine Jg ?_|refine Jh ?_|refine Ji ?_|refine Jj ?_|refine Jk rfl ?_|refine Jl ?_|refine Jm ?_|refine Jn ?_|refine Jo ?_|refine Jp ?_|refine Jq ?_)|refine JA rfl ?_|refine JB rfl ?_|refine JC rfl ?_|refine JD rfl ?_|refine JE rfl ?_|refine JF rfl ?_|refine JG rfl ?_|refine JH rfl ?_|refine JI rfl ?_|refine J2 rfl ?_|refine J3 rfl ?_|refine J4 rfl ?_|refine J1 rfl ?_|refine J6 rfl ?_|refine J7 rfl ?_|refine JJ rfl ?_|refine JK rfl ?_|refine JQ rfl ?_|refine JL rfl rfl ?_|refine JM rfl rfl ?_|refine JN rfl ?_|refine JO rfl ?_|refine JP rfl ?_))
  refine s_loop (σ := Nat × Sec) (fun q => [(15, .int .i64 (q.1 : Int)), (13, .string ⟨⟨q.2⟩⟩), (14, .int .i64 (n : Int)), (0, s.v), (1, .int .i64 d), (5, .pointer (some ⟨b5, 0, none⟩)), (7, .pointer (some ⟨b7, 0, none⟩)), (10, .pointer (some ⟨b10, 0, none⟩))])
    (fun q w => 1 ≤ q.1 ∧ q.1 ≤ n ∧ q.2.length ≤ 26 * q.1 ∧ restW s d t R0.1 (n - q.1) q.1 q.2 = RR ∧ Dn.Sep w ([(b10, .cells ⟨R0.1.v⟩ 97), (b7, .cells ⟨zT.v⟩ 31), (b5, .cells ⟨t.v⟩ 31)] ++ s.L) F) (fun q => n - q.1) (1, R0.1.bytes)
    ⟨rfl, rfl, rfl, rfl, rfl, rfl, rfl, rfl, trivial⟩ rfl ⟨by simp, by simp; omega, by simp; omega, hRR, S⟩ ?_
  rintro gg ⟨i, acc⟩ w ⟨hi1, hi2, hacc, hrest, S⟩
  simp only [setL] at hi1 hi2 hacc hrest S ⊢
  (repeat (first|(with_reducible first|refine Ja ?_|refine Jb ?_|refine Jc ?_|refine Jd ?_|refine Je ?_|refine Jf ?_|refine Jg ?_|refine Jh ?_|refine Ji ?_|refine Jj ?_|refine Jk rfl ?_|refine Jl ?_|refine Jm ?_|refine Jn ?_|refine Jo ?_|refine Jp ?_|refine Jq ?_)|refine JA rfl ?_|refine JB rfl ?_|refine JC rfl ?_|refine JD rfl ?_|refine JE rfl ?_|refine JF rfl ?_|refine JG rfl ?_|refine JH rfl ?_|refine JI rfl ?_|refine J2 rfl ?_|refine J3 rfl ?_|refine J4 rfl ?_|refine J1 rfl ?_|refine J6 rfl ?_|refine J7 rfl ?_|refine JJ rfl ?_|refine JK rfl ?_|refine JQ rfl ?_|refine JL rfl rfl ?_|refine JM rfl rfl ?_|refine JN rfl ?_|refine JO rfl ?_|refine JP rfl ?_))
  refine s_iteD rfl (fun hlt => ?_) (fun hlt => ?_)
  rotate_left
  · have hi' : i = n := by omega
    subst hi'
    rw [show i - i = 0 by omega] at hrest
    simp only [restW] at hrest
    rw [← hrest] at nW
    (repeat (with_reducible first|refine Ja ?_|refine Jb ?_|refine Jc ?_|refine Jd ?_|refine Je ?_|refine Jf ?_|refine Jg ?_|refine Jh ?_|refine Ji ?_|refine Jj ?_|refine Jk rfl ?_|refine Jl ?_|refine Jm ?_|refine Jn ?_|refine Jo ?_|refine Jp ?_|refine Jq ?_))
    refine s_opsd ?_
    replace S := S.drew
    (repeat (first|(with_reducible first|refine Ja ?_|refine Jb ?_|refine Jc ?_|refine Jd ?_|refine Je ?_|refine Jf ?_|refine Jg ?_|refine Jh ?_|refine Ji ?_|refine Jj ?_|refine Jk rfl ?_|refine Jl ?_|refine Jm ?_|refine Jn ?_|refine Jo ?_|refine Jp ?_|refine Jq ?_)|refine JA rfl ?_|refine JB rfl ?_|refine JC rfl ?_|refine JD rfl ?_|refine JE rfl ?_|refine JF rfl ?_|refine JG rfl ?_|refine JH rfl ?_|refine JI rfl ?_|refine J2 rfl ?_|refine J3 rfl ?_|refine J4 rfl ?_|refine J1 rfl ?_|refine J6 rfl ?_|refine J7 rfl ?_|refine JJ rfl ?_|refine JK rfl ?_|refine JQ rfl ?_|refine JL rfl rfl ?_|refine JM rfl rfl ?_|refine JN rfl ?_|refine JO rfl ?_|refine JP rfl ?_))
    refine e_ld (S.cell 2 rfl rfl) ?_
    (repeat (first|(with_reducible first|refine Ja ?_|refine Jb ?_|refine Jc ?_|refine Jd ?_|refine Je ?_|refine Jf ?_|refine Jg ?_|refine Jh ?_|refine Ji ?_|refine Jj ?_|refine Jk rfl ?_|refine Jl ?_|refine Jm ?_|refine Jn ?_|refine Jo ?_|refine Jp ?_|refine Jq ?_)|refine JA rfl ?_|refine JB rfl ?_|refine JC rfl ?_|refine JD rfl ?_|refine JE rfl ?_|refine JF rfl ?_|refine JG rfl ?_|refine JH rfl ?_|refine JI rfl ?_|refine J2 rfl ?_|refine J3 rfl ?_|refine J4 rfl ?_|refine J1 rfl ?_|refine J6 rfl ?_|refine J7 rfl ?_|refine JJ rfl ?_|refine JK rfl ?_|refine JQ rfl ?_|refine JL rfl rfl ?_|refine JM rfl rfl ?_|refine JN rfl ?_|refine JO rfl ?_|refine JP rfl ?_))
    refine e_add (a := t.next) (b := (i : Int)) rfl rfl (by omega) (by omega) ?_
    (repeat (first|(with_reducible first|refine Ja ?_|refine Jb ?_|refine Jc ?_|refine Jd ?_|refine Je ?_|refine Jf ?_|refine Jg ?_|refine Jh ?_|refine Ji ?_|refine Jj ?_|refine Jk rfl ?_|refine Jl ?_|refine Jm ?_|refine Jn ?_|refine Jo ?_|refine Jp ?_|refine Jq ?_)|refine JA rfl ?_|refine JB rfl ?_|refine JC rfl ?_|refine JD rfl ?_|refine JE rfl ?_|refine JF rfl ?_|refine JG rfl ?_|refine JH rfl ?_|refine JI rfl ?_|refine J2 rfl ?_|refine J3 rfl ?_|refine J4 rfl ?_|refine J1 rfl ?_|refine J6 rfl ?_|refine J7 rfl ?_|refine JJ rfl ?_|refine JK rfl ?_|refine JQ rfl ?_|refine JL rfl rfl ?_|refine JM rfl rfl ?_|refine JN rfl ?_|refine JO rfl ?_|refine JP rfl ?_))
    refine e_ld (S.cell 0 rfl rfl) ?_
    (repeat (first|(with_reducible first|refine Ja ?_|refine Jb ?_|refine Jc ?_|refine Jd ?_|refine Je ?_|refine Jf ?_|refine Jg ?_|refine Jh ?_|refine Ji ?_|refine Jj ?_|refine Jk rfl ?_|refine Jl ?_|refine Jm ?_|refine Jn ?_|refine Jo ?_|refine Jp ?_|refine Jq ?_)|refine JA rfl ?_|refine JB rfl ?_|refine JC rfl ?_|refine JD rfl ?_|refine JE rfl ?_|refine JF rfl ?_|refine JG rfl ?_|refine JH rfl ?_|refine JI rfl ?_|refine J2 rfl ?_|refine J3 rfl ?_|refine J4 rfl ?_|refine J1 rfl ?_|refine J6 rfl ?_|refine J7 rfl ?_|refine JJ rfl ?_|refine JK rfl ?_|refine JQ rfl ?_|refine JL rfl rfl ?_|refine JM rfl rfl ?_|refine JN rfl ?_|refine JO rfl ?_|refine JP rfl ?_))
    refine e_ld (v := .agg ⟨R0.1.gen.v⟩) (S.row 0 rfl (by simp [Pt.v]) rfl) ?_
    (repeat (first|(with_reducible first|refine Ja ?_|refine Jb ?_|refine Jc ?_|refine Jd ?_|refine Je ?_|refine Jf ?_|refine Jg ?_|refine Jh ?_|refine Ji ?_|refine Jj ?_|refine Jk rfl ?_|refine Jl ?_|refine Jm ?_|refine Jn ?_|refine Jo ?_|refine Jp ?_|refine Jq ?_)|refine JA rfl ?_|refine JB rfl ?_|refine JC rfl ?_|refine JD rfl ?_|refine JE rfl ?_|refine JF rfl ?_|refine JG rfl ?_|refine JH rfl ?_|refine JI rfl ?_|refine J2 rfl ?_|refine J3 rfl ?_|refine J4 rfl ?_|refine J1 rfl ?_|refine J6 rfl ?_|refine J7 rfl ?_|refine JJ rfl ?_|refine JK rfl ?_|refine JQ rfl ?_|refine JL rfl rfl ?_|refine JM rfl rfl ?_|refine JN rfl ?_|refine JO rfl ?_|refine JP rfl ?_))
    refine e_st (vs := (⟨t.next + i, R0.1.number, R0.1.gen⟩ : Tl).v) S 1 rfl rfl rfl rfl (by simp [Tl.v, Value.flat]) (by simp [zT, Tl.v]) fun w S => ?_
    (repeat (first|(with_reducible first|refine Ja ?_|refine Jb ?_|refine Jc ?_|refine Jd ?_|refine Je ?_|refine Jf ?_|refine Jg ?_|refine Jh ?_|refine Ji ?_|refine Jj ?_|refine Jk rfl ?_|refine Jl ?_|refine Jm ?_|refine Jn ?_|refine Jo ?_|refine Jp ?_|refine Jq ?_)|refine JA rfl ?_|refine JB rfl ?_|refine JC rfl ?_|refine JD rfl ?_|refine JE rfl ?_|refine JF rfl ?_|refine JG rfl ?_|refine JH rfl ?_|refine JI rfl ?_|refine J2 rfl ?_|refine J3 rfl ?_|refine J4 rfl ?_|refine J1 rfl ?_|refine J6 rfl ?_|refine J7 rfl ?_|refine JJ rfl ?_|refine JK rfl ?_|refine JQ rfl ?_|refine JL rfl rfl ?_|refine JM rfl rfl ?_|refine JN rfl ?_|refine JO rfl ?_|refine JP rfl ?_))
    exact f_ret (vs := [.string ⟨⟨acc⟩⟩, .agg ⟨(⟨t.next + i, R0.1.number, R0.1.gen⟩ : Tl).v⟩, .bool true, .int .i64 0]) rfl (rvs4 rfl (S.row 1 rfl (by simp [Tl.v, putAt, zT]) rfl) rfl rfl) (hQ _ _ _ ⟨by rw [nW]; rfl, rfl⟩ (Sep.drop (L2 := [_, _, _]) S))
  have hlt' : i < n := by omega
  have hk : n - i = (n - (i + 1)) + 1 := by omega
  rw [hk] at hrest
  simp only [restW] at hrest
  obtain ⟨R1, hR1⟩ : ∃ R1, readW s d (t.next + i) = R1 := ⟨_, rfl⟩
  have hbd1 := part_bd (s := s) (d := d) (i := t.next + i)
  rw [hR1] at hbd1 hrest
  (repeat (first|(with_reducible first|refine Ja ?_|refine Jb ?_|refine Jc ?_|refine Jd ?_|refine Je ?_|refine Jf ?_|refine Jg ?_|refine Jh ?_|refine Ji ?_|refine Jj ?_|refine Jk rfl ?_|refine Jl ?_|refine Jm ?_|refine Jn ?_|refine Jo ?_|refine Jp ?_|refine Jq ?_)|refine JA rfl ?_|refine JB rfl ?_|refine JC rfl ?_|refine JD rfl ?_|refine JE rfl ?_|refine JF rfl ?_|refine JG rfl ?_|refine JH rfl ?_|refine JI rfl ?_|refine J2 rfl ?_|refine J3 rfl ?_|refine J4 rfl ?_|refine J1 rfl ?_|refine J6 rfl ?_|refine J7 rfl ?_|refine JJ rfl ?_|refine JK rfl ?_|refine JQ rfl ?_|refine JL rfl rfl ?_|refine JM rfl rfl ?_|refine JN rfl ?_|refine JO rfl ?_|refine JP rfl ?_))
  refine e_ld (S.cell 2 rfl rfl) ?_
  (repeat (first|(with_reducible first|refine Ja ?_|refine Jb ?_|refine Jc ?_|refine Jd ?_|refine Je ?_|refine Jf ?_|refine Jg ?_|refine Jh ?_|refine Ji ?_|refine Jj ?_|refine Jk rfl ?_|refine Jl ?_|refine Jm ?_|refine Jn ?_|refine Jo ?_|refine Jp ?_|refine Jq ?_)|refine JA rfl ?_|refine JB rfl ?_|refine JC rfl ?_|refine JD rfl ?_|refine JE rfl ?_|refine JF rfl ?_|refine JG rfl ?_|refine JH rfl ?_|refine JI rfl ?_|refine J2 rfl ?_|refine J3 rfl ?_|refine J4 rfl ?_|refine J1 rfl ?_|refine J6 rfl ?_|refine J7 rfl ?_|refine JJ rfl ?_|refine JK rfl ?_|refine JQ rfl ?_|refine JL rfl rfl ?_|refine JM rfl rfl ?_|refine JN rfl ?_|refine JO rfl ?_|refine JP rfl ?_))
  refine e_add (a := t.next) (b := (i : Int)) rfl rfl (by omega) (by omega) ?_
  refine e_call (L2 := [_, _, _]) rfl (w_read s d (t.next + i) hs hd (by omega)) S ?_
  rintro _ _ w ⟨rfl, rfl⟩ S
  rw [hR1]
  refine e_mvT rfl ?_
  refine e_p (v := .agg ⟨R1.1.v⟩) rfl ?_
  refine e_p (v := .bool R1.2.1) rfl ?_
  refine e_p (v := .int .i64 R1.2.2) rfl ?_
  refine e_nwE S (cs' := zPt.v) rfl fun b16 w S => ?_
  refine e_st (vs := R1.1.v) S 0 rfl rfl rfl rfl (by simp [Pt.v, Value.flat]) (by simp [zPt, Pt.v]) fun w S => ?_
  replace S : Dn.Sep w ([(b16, .cells ⟨R1.1.v⟩ 97), (b10, .cells ⟨R0.1.v⟩ 97), (b7, .cells ⟨zT.v⟩ 31), (b5, .cells ⟨t.v⟩ 31)] ++ s.L) F := S
  refine e_mvB rfl ?_
  refine e_mvI rfl ?_
  (repeat (with_reducible first|refine Jc ?_|refine Jd ?_|refine Je ?_|refine Jf ?_|refine Jg ?_|refine Jh ?_|refine Ji ?_|refine Jj ?_|refine Jk rfl ?_|refine Jl ?_|refine Jm ?_|refine Jn ?_|refine Jp ?_|refine Jq ?_))
  refine s_seq ?_
  refine s_cut (σ := Unit) (fun _ => [(113, .bool (!decide (R1.2.1 = true ∧ partOK R1.1 R0.1 i))), (16, .pointer (some ⟨b16, 0, none⟩)), (18, .int .i64 R1.2.2), (15, .int .i64 (i : Int)), (13, .string ⟨⟨acc⟩⟩), (14, .int .i64 (n : Int)), (0, s.v), (1, .int .i64 d), (5, .pointer (some ⟨b5, 0, none⟩)), (7, .pointer (some ⟨b7, 0, none⟩)), (10, .pointer (some ⟨b10, 0, none⟩))])
    (fun _ w => Dn.Sep w ([(b16, .cells ⟨R1.1.v⟩ 97), (b10, .cells ⟨R0.1.v⟩ 97), (b7, .cells ⟨zT.v⟩ 31), (b5, .cells ⟨t.v⟩ 31)] ++ s.L) F) ?_ ?_
  · have no : ¬ (R1.2.1 = true ∧ partOK R1.1 R0.1 i) → Value.bool true = Value.bool (!decide (R1.2.1 = true ∧ partOK R1.1 R0.1 i)) := fun h => by rw [decide_eq_false h]; rfl
    (repeat (with_reducible first|refine Ja ?_|refine Jb ?_|refine Jc ?_|refine Jd ?_|refine Je ?_|refine Jf ?_|refine Jg ?_|refine Jh ?_|refine Ji ?_|refine Jj ?_|refine Jk rfl ?_|refine Jl ?_|refine Jm ?_|refine Jn ?_|refine Jo ?_|refine Jp ?_|refine Jq ?_))
    refine e_mvB rfl ?_
    refine e_p (v := .bool (!R1.2.1)) rfl ?_
    refine e_mvB rfl ?_
    refine e_br rfl (fun h1 => ?_) (fun h1 => ?_)
    rotate_left
    · have h1' : R1.2.1 = false := by simpa using h1
      (repeat (first|(with_reducible first|refine Ja ?_|refine Jb ?_|refine Jc ?_|refine Jd ?_|refine Je ?_|refine Jf ?_|refine Jg ?_|refine Jh ?_|refine Ji ?_|refine Jj ?_|refine Jk rfl ?_|refine Jl ?_|refine Jm ?_|refine Jn ?_|refine Jo ?_|refine Jp ?_|refine Jq ?_)|refine JA rfl ?_|refine JB rfl ?_|refine JC rfl ?_|refine JD rfl ?_|refine JE rfl ?_|refine JF rfl ?_|refine JG rfl ?_|refine JH rfl ?_|refine JI rfl ?_|refine J2 rfl ?_|refine J3 rfl ?_|refine J4 rfl ?_|refine J1 rfl ?_|refine J6 rfl ?_|refine J7 rfl ?_|refine JJ rfl ?_|refine JK rfl ?_|refine JQ rfl ?_|refine JL rfl rfl ?_|refine JM rfl rfl ?_|refine JN rfl ?_|refine JO rfl ?_|refine JP rfl ?_))
      exact ⟨rfl, (), ⟨no (fun h => by rw [h1'] at h; exact absurd h.1 (by simp)), rfl, rfl, rfl, rfl, rfl, rfl, rfl, rfl, rfl, rfl, trivial⟩, S⟩
    have h1' : R1.2.1 = true := by simpa using h1
    (repeat (first|(with_reducible first|refine Ja ?_|refine Jb ?_|refine Jc ?_|refine Jd ?_|refine Je ?_|refine Jf ?_|refine Jg ?_|refine Jh ?_|refine Ji ?_|refine Jj ?_|refine Jk rfl ?_|refine Jl ?_|refine Jm ?_|refine Jn ?_|refine Jo ?_|refine Jp ?_|refine Jq ?_)|refine JA rfl ?_|refine JB rfl ?_|refine JC rfl ?_|refine JD rfl ?_|refine JE rfl ?_|refine JF rfl ?_|refine JG rfl ?_|refine JH rfl ?_|refine JI rfl ?_|refine J2 rfl ?_|refine J3 rfl ?_|refine J4 rfl ?_|refine J1 rfl ?_|refine J6 rfl ?_|refine J7 rfl ?_|refine JJ rfl ?_|refine JK rfl ?_|refine JQ rfl ?_|refine JL rfl rfl ?_|refine JM rfl rfl ?_|refine JN rfl ?_|refine JO rfl ?_|refine JP rfl ?_))
    refine e_ld (v := .agg ⟨R1.1.gen.v⟩) (S.row 0 rfl (by simp [Pt.v]) rfl) ?_
    (repeat (first|(with_reducible first|refine Ja ?_|refine Jb ?_|refine Jc ?_|refine Jd ?_|refine Je ?_|refine Jf ?_|refine Jg ?_|refine Jh ?_|refine Ji ?_|refine Jj ?_|refine Jk rfl ?_|refine Jl ?_|refine Jm ?_|refine Jn ?_|refine Jo ?_|refine Jp ?_|refine Jq ?_)|refine JA rfl ?_|refine JB rfl ?_|refine JC rfl ?_|refine JD rfl ?_|refine JE rfl ?_|refine JF rfl ?_|refine JG rfl ?_|refine JH rfl ?_|refine JI rfl ?_|refine J2 rfl ?_|refine J3 rfl ?_|refine J4 rfl ?_|refine J1 rfl ?_|refine J6 rfl ?_|refine J7 rfl ?_|refine JJ rfl ?_|refine JK rfl ?_|refine JQ rfl ?_|refine JL rfl rfl ?_|refine JM rfl rfl ?_|refine JN rfl ?_|refine JO rfl ?_|refine JP rfl ?_))
    refine e_ld (v := .agg ⟨R0.1.gen.v⟩) (S.row 1 rfl (by simp [Pt.v]) rfl) ?_
    refine e_gdT rfl ?_
    refine e_p (eqc_gn rfl rfl) ?_
    (repeat (first|(with_reducible first|refine Ja ?_|refine Jb ?_|refine Jc ?_|refine Jd ?_|refine Je ?_|refine Jf ?_|refine Jg ?_|refine Jh ?_|refine Ji ?_|refine Jj ?_|refine Jk rfl ?_|refine Jl ?_|refine Jm ?_|refine Jn ?_|refine Jo ?_|refine Jp ?_|refine Jq ?_)|refine JA rfl ?_|refine JB rfl ?_|refine JC rfl ?_|refine JD rfl ?_|refine JE rfl ?_|refine JF rfl ?_|refine JG rfl ?_|refine JH rfl ?_|refine JI rfl ?_|refine J2 rfl ?_|refine J3 rfl ?_|refine J4 rfl ?_|refine J1 rfl ?_|refine J6 rfl ?_|refine J7 rfl ?_|refine JJ rfl ?_|refine JK rfl ?_|refine JQ rfl ?_|refine JL rfl rfl ?_|refine JM rfl rfl ?_|refine JN rfl ?_|refine JO rfl ?_|refine JP rfl ?_))
    refine e_brN rfl (fun h2 => ?_) (fun h2 => ?_)
    rotate_left
    · (repeat (first|(with_reducible first|refine Ja ?_|refine Jb ?_|refine Jc ?_|refine Jd ?_|refine Je ?_|refine Jf ?_|refine Jg ?_|refine Jh ?_|refine Ji ?_|refine Jj ?_|refine Jk rfl ?_|refine Jl ?_|refine Jm ?_|refine Jn ?_|refine Jo ?_|refine Jp ?_|refine Jq ?_)|refine JA rfl ?_|refine JB rfl ?_|refine JC rfl ?_|refine JD rfl ?_|refine JE rfl ?_|refine JF rfl ?_|refine JG rfl ?_|refine JH rfl ?_|refine JI rfl ?_|refine J2 rfl ?_|refine J3 rfl ?_|refine J4 rfl ?_|refine J1 rfl ?_|refine J6 rfl ?_|refine J7 rfl ?_|refine JJ rfl ?_|refine JK rfl ?_|refine JQ rfl ?_|refine JL rfl rfl ?_|refine JM rfl rfl ?_|refine JN rfl ?_|refine JO rfl ?_|refine JP rfl ?_))
      exact ⟨rfl, (), ⟨no (fun h => h2 h.2.1), rfl, rfl, rfl, rfl, rfl, rfl, rfl, rfl, rfl, rfl, trivial⟩, S⟩
    (repeat (first|(with_reducible first|refine Ja ?_|refine Jb ?_|refine Jc ?_|refine Jd ?_|refine Je ?_|refine Jf ?_|refine Jg ?_|refine Jh ?_|refine Ji ?_|refine Jj ?_|refine Jk rfl ?_|refine Jl ?_|refine Jm ?_|refine Jn ?_|refine Jo ?_|refine Jp ?_|refine Jq ?_)|refine JA rfl ?_|refine JB rfl ?_|refine JC rfl ?_|refine JD rfl ?_|refine JE rfl ?_|refine JF rfl ?_|refine JG rfl ?_|refine JH rfl ?_|refine JI rfl ?_|refine J2 rfl ?_|refine J3 rfl ?_|refine J4 rfl ?_|refine J1 rfl ?_|refine J6 rfl ?_|refine J7 rfl ?_|refine JJ rfl ?_|refine JK rfl ?_|refine JQ rfl ?_|refine JL rfl rfl ?_|refine JM rfl rfl ?_|refine JN rfl ?_|refine JO rfl ?_|refine JP rfl ?_))
    refine e_ld (S.cell 0 rfl rfl) ?_
    (repeat (first|(with_reducible first|refine Ja ?_|refine Jb ?_|refine Jc ?_|refine Jd ?_|refine Je ?_|refine Jf ?_|refine Jg ?_|refine Jh ?_|refine Ji ?_|refine Jj ?_|refine Jk rfl ?_|refine Jl ?_|refine Jm ?_|refine Jn ?_|refine Jo ?_|refine Jp ?_|refine Jq ?_)|refine JA rfl ?_|refine JB rfl ?_|refine JC rfl ?_|refine JD rfl ?_|refine JE rfl ?_|refine JF rfl ?_|refine JG rfl ?_|refine JH rfl ?_|refine JI rfl ?_|refine J2 rfl ?_|refine J3 rfl ?_|refine J4 rfl ?_|refine J1 rfl ?_|refine J6 rfl ?_|refine J7 rfl ?_|refine JJ rfl ?_|refine JK rfl ?_|refine JQ rfl ?_|refine JL rfl rfl ?_|refine JM rfl rfl ?_|refine JN rfl ?_|refine JO rfl ?_|refine JP rfl ?_))
    refine e_ld (S.cell 1 rfl rfl) ?_
    refine e_gdT rfl ?_
    refine e_p (cmp_neqD rfl rfl) ?_
    (repeat (first|(with_reducible first|refine Ja ?_|refine Jb ?_|refine Jc ?_|refine Jd ?_|refine Je ?_|refine Jf ?_|refine Jg ?_|refine Jh ?_|refine Ji ?_|refine Jj ?_|refine Jk rfl ?_|refine Jl ?_|refine Jm ?_|refine Jn ?_|refine Jo ?_|refine Jp ?_|refine Jq ?_)|refine JA rfl ?_|refine JB rfl ?_|refine JC rfl ?_|refine JD rfl ?_|refine JE rfl ?_|refine JF rfl ?_|refine JG rfl ?_|refine JH rfl ?_|refine JI rfl ?_|refine J2 rfl ?_|refine J3 rfl ?_|refine J4 rfl ?_|refine J1 rfl ?_|refine J6 rfl ?_|refine J7 rfl ?_|refine JJ rfl ?_|refine JK rfl ?_|refine JQ rfl ?_|refine JL rfl rfl ?_|refine JM rfl rfl ?_|refine JN rfl ?_|refine JO rfl ?_|refine JP rfl ?_))
    refine e_brN rfl (fun h3 => ?_) (fun h3 => ?_)
    rotate_left
    · (repeat (first|(with_reducible first|refine Ja ?_|refine Jb ?_|refine Jc ?_|refine Jd ?_|refine Je ?_|refine Jf ?_|refine Jg ?_|refine Jh ?_|refine Ji ?_|refine Jj ?_|refine Jk rfl ?_|refine Jl ?_|refine Jm ?_|refine Jn ?_|refine Jo ?_|refine Jp ?_|refine Jq ?_)|refine JA rfl ?_|refine JB rfl ?_|refine JC rfl ?_|refine JD rfl ?_|refine JE rfl ?_|refine JF rfl ?_|refine JG rfl ?_|refine JH rfl ?_|refine JI rfl ?_|refine J2 rfl ?_|refine J3 rfl ?_|refine J4 rfl ?_|refine J1 rfl ?_|refine J6 rfl ?_|refine J7 rfl ?_|refine JJ rfl ?_|refine JK rfl ?_|refine JQ rfl ?_|refine JL rfl rfl ?_|refine JM rfl rfl ?_|refine JN rfl ?_|refine JO rfl ?_|refine JP rfl ?_))
      exact ⟨rfl, (), ⟨no (fun h => h3 h.2.2.1), rfl, rfl, rfl, rfl, rfl, rfl, rfl, rfl, rfl, rfl, trivial⟩, S⟩
    (repeat (first|(with_reducible first|refine Ja ?_|refine Jb ?_|refine Jc ?_|refine Jd ?_|refine Je ?_|refine Jf ?_|refine Jg ?_|refine Jh ?_|refine Ji ?_|refine Jj ?_|refine Jk rfl ?_|refine Jl ?_|refine Jm ?_|refine Jn ?_|refine Jo ?_|refine Jp ?_|refine Jq ?_)|refine JA rfl ?_|refine JB rfl ?_|refine JC rfl ?_|refine JD rfl ?_|refine JE rfl ?_|refine JF rfl ?_|refine JG rfl ?_|refine JH rfl ?_|refine JI rfl ?_|refine J2 rfl ?_|refine J3 rfl ?_|refine J4 rfl ?_|refine J1 rfl ?_|refine J6 rfl ?_|refine J7 rfl ?_|refine JJ rfl ?_|refine JK rfl ?_|refine JQ rfl ?_|refine JL rfl rfl ?_|refine JM rfl rfl ?_|refine JN rfl ?_|refine JO rfl ?_|refine JP rfl ?_))
    refine e_ld (v := .agg ⟨R1.1.before.v⟩) (S.row 0 rfl (by simp [Pt.v]) rfl) ?_
    (repeat (first|(with_reducible first|refine Ja ?_|refine Jb ?_|refine Jc ?_|refine Jd ?_|refine Je ?_|refine Jf ?_|refine Jg ?_|refine Jh ?_|refine Ji ?_|refine Jj ?_|refine Jk rfl ?_|refine Jl ?_|refine Jm ?_|refine Jn ?_|refine Jo ?_|refine Jp ?_|refine Jq ?_)|refine JA rfl ?_|refine JB rfl ?_|refine JC rfl ?_|refine JD rfl ?_|refine JE rfl ?_|refine JF rfl ?_|refine JG rfl ?_|refine JH rfl ?_|refine JI rfl ?_|refine J2 rfl ?_|refine J3 rfl ?_|refine J4 rfl ?_|refine J1 rfl ?_|refine J6 rfl ?_|refine J7 rfl ?_|refine JJ rfl ?_|refine JK rfl ?_|refine JQ rfl ?_|refine JL rfl rfl ?_|refine JM rfl rfl ?_|refine JN rfl ?_|refine JO rfl ?_|refine JP rfl ?_))
    refine e_ld (v := .agg ⟨R0.1.before.v⟩) (S.row 1 rfl (by simp [Pt.v]) rfl) ?_
    refine e_gdT rfl ?_
    refine e_p (eqc_gn rfl rfl) ?_
    (repeat (first|(with_reducible first|refine Ja ?_|refine Jb ?_|refine Jc ?_|refine Jd ?_|refine Je ?_|refine Jf ?_|refine Jg ?_|refine Jh ?_|refine Ji ?_|refine Jj ?_|refine Jk rfl ?_|refine Jl ?_|refine Jm ?_|refine Jn ?_|refine Jo ?_|refine Jp ?_|refine Jq ?_)|refine JA rfl ?_|refine JB rfl ?_|refine JC rfl ?_|refine JD rfl ?_|refine JE rfl ?_|refine JF rfl ?_|refine JG rfl ?_|refine JH rfl ?_|refine JI rfl ?_|refine J2 rfl ?_|refine J3 rfl ?_|refine J4 rfl ?_|refine J1 rfl ?_|refine J6 rfl ?_|refine J7 rfl ?_|refine JJ rfl ?_|refine JK rfl ?_|refine JQ rfl ?_|refine JL rfl rfl ?_|refine JM rfl rfl ?_|refine JN rfl ?_|refine JO rfl ?_|refine JP rfl ?_))
    refine e_brN rfl (fun h4 => ?_) (fun h4 => ?_)
    rotate_left
    · (repeat (first|(with_reducible first|refine Ja ?_|refine Jb ?_|refine Jc ?_|refine Jd ?_|refine Je ?_|refine Jf ?_|refine Jg ?_|refine Jh ?_|refine Ji ?_|refine Jj ?_|refine Jk rfl ?_|refine Jl ?_|refine Jm ?_|refine Jn ?_|refine Jo ?_|refine Jp ?_|refine Jq ?_)|refine JA rfl ?_|refine JB rfl ?_|refine JC rfl ?_|refine JD rfl ?_|refine JE rfl ?_|refine JF rfl ?_|refine JG rfl ?_|refine JH rfl ?_|refine JI rfl ?_|refine J2 rfl ?_|refine J3 rfl ?_|refine J4 rfl ?_|refine J1 rfl ?_|refine J6 rfl ?_|refine J7 rfl ?_|refine JJ rfl ?_|refine JK rfl ?_|refine JQ rfl ?_|refine JL rfl rfl ?_|refine JM rfl rfl ?_|refine JN rfl ?_|refine JO rfl ?_|refine JP rfl ?_))
      exact ⟨rfl, (), ⟨no (fun h => h4 h.2.2.2.1), rfl, rfl, rfl, rfl, rfl, rfl, rfl, rfl, rfl, rfl, trivial⟩, S⟩
    (repeat (first|(with_reducible first|refine Ja ?_|refine Jb ?_|refine Jc ?_|refine Jd ?_|refine Je ?_|refine Jf ?_|refine Jg ?_|refine Jh ?_|refine Ji ?_|refine Jj ?_|refine Jk rfl ?_|refine Jl ?_|refine Jm ?_|refine Jn ?_|refine Jo ?_|refine Jp ?_|refine Jq ?_)|refine JA rfl ?_|refine JB rfl ?_|refine JC rfl ?_|refine JD rfl ?_|refine JE rfl ?_|refine JF rfl ?_|refine JG rfl ?_|refine JH rfl ?_|refine JI rfl ?_|refine J2 rfl ?_|refine J3 rfl ?_|refine J4 rfl ?_|refine J1 rfl ?_|refine J6 rfl ?_|refine J7 rfl ?_|refine JJ rfl ?_|refine JK rfl ?_|refine JQ rfl ?_|refine JL rfl rfl ?_|refine JM rfl rfl ?_|refine JN rfl ?_|refine JO rfl ?_|refine JP rfl ?_))
    refine e_ld (S.cell 0 rfl rfl) ?_
    (repeat (first|(with_reducible first|refine Ja ?_|refine Jb ?_|refine Jc ?_|refine Jd ?_|refine Je ?_|refine Jf ?_|refine Jg ?_|refine Jh ?_|refine Ji ?_|refine Jj ?_|refine Jk rfl ?_|refine Jl ?_|refine Jm ?_|refine Jn ?_|refine Jo ?_|refine Jp ?_|refine Jq ?_)|refine JA rfl ?_|refine JB rfl ?_|refine JC rfl ?_|refine JD rfl ?_|refine JE rfl ?_|refine JF rfl ?_|refine JG rfl ?_|refine JH rfl ?_|refine JI rfl ?_|refine J2 rfl ?_|refine J3 rfl ?_|refine J4 rfl ?_|refine J1 rfl ?_|refine J6 rfl ?_|refine J7 rfl ?_|refine JJ rfl ?_|refine JK rfl ?_|refine JQ rfl ?_|refine JL rfl rfl ?_|refine JM rfl rfl ?_|refine JN rfl ?_|refine JO rfl ?_|refine JP rfl ?_))
    refine e_ld (S.cell 1 rfl rfl) ?_
    (repeat (first|(with_reducible first|refine Ja ?_|refine Jb ?_|refine Jc ?_|refine Jd ?_|refine Je ?_|refine Jf ?_|refine Jg ?_|refine Jh ?_|refine Ji ?_|refine Jj ?_|refine Jk rfl ?_|refine Jl ?_|refine Jm ?_|refine Jn ?_|refine Jo ?_|refine Jp ?_|refine Jq ?_)|refine JA rfl ?_|refine JB rfl ?_|refine JC rfl ?_|refine JD rfl ?_|refine JE rfl ?_|refine JF rfl ?_|refine JG rfl ?_|refine JH rfl ?_|refine JI rfl ?_|refine J2 rfl ?_|refine J3 rfl ?_|refine J4 rfl ?_|refine J1 rfl ?_|refine J6 rfl ?_|refine J7 rfl ?_|refine JJ rfl ?_|refine JK rfl ?_|refine JQ rfl ?_|refine JL rfl rfl ?_|refine JM rfl rfl ?_|refine JN rfl ?_|refine JO rfl ?_|refine JP rfl ?_))
    refine e_mul (a := 26) (b := (i : Int)) rfl rfl (by omega) (by omega) ?_
    refine e_gdT rfl ?_
    refine e_sub (a := R0.1.left) (b := 26 * (i : Int)) rfl rfl (by omega) (by omega) ?_
    refine e_gdT rfl ?_
    refine e_p (cmp_neqD rfl rfl) ?_
    (repeat (first|(with_reducible first|refine Ja ?_|refine Jb ?_|refine Jc ?_|refine Jd ?_|refine Je ?_|refine Jf ?_|refine Jg ?_|refine Jh ?_|refine Ji ?_|refine Jj ?_|refine Jk rfl ?_|refine Jl ?_|refine Jm ?_|refine Jn ?_|refine Jo ?_|refine Jp ?_|refine Jq ?_)|refine JA rfl ?_|refine JB rfl ?_|refine JC rfl ?_|refine JD rfl ?_|refine JE rfl ?_|refine JF rfl ?_|refine JG rfl ?_|refine JH rfl ?_|refine JI rfl ?_|refine J2 rfl ?_|refine J3 rfl ?_|refine J4 rfl ?_|refine J1 rfl ?_|refine J6 rfl ?_|refine J7 rfl ?_|refine JJ rfl ?_|refine JK rfl ?_|refine JQ rfl ?_|refine JL rfl rfl ?_|refine JM rfl rfl ?_|refine JN rfl ?_|refine JO rfl ?_|refine JP rfl ?_))
    refine ⟨rfl, (), ⟨?_, rfl, rfl, rfl, rfl, rfl, rfl, rfl, rfl, rfl, rfl, trivial⟩, S⟩
    show Value.bool (!decide (R1.1.left = R0.1.left - 26 * (i : Int))) = Value.bool (!decide _)
    rw [decide_eq_decide.2 (⟨fun h => ⟨h1', h2, h3, h4, h⟩, fun h => h.2.2.2.2⟩ : R1.1.left = R0.1.left - 26 * (i : Int) ↔ (R1.2.1 = true ∧ partOK R1.1 R0.1 i))]
  rintro gg _ w S
  simp only [setL]
  refine s_iteN rfl (fun h => ?_) (fun h => ?_)
  · rw [if_neg h] at hrest
    rw [← hrest] at nW
    (repeat (with_reducible first|refine Ja ?_|refine Jb ?_|refine Jc ?_|refine Jd ?_|refine Je ?_|refine Jf ?_|refine Jg ?_|refine Jh ?_|refine Ji ?_|refine Jj ?_|refine Jk rfl ?_|refine Jl ?_|refine Jm ?_|refine Jn ?_|refine Jo ?_|refine Jp ?_|refine Jq ?_))
    refine s_opsd ?_
    replace S := S.drew
    refine e_ld (v := .agg ⟨t.v⟩) (S.row 3 rfl (by simp [Tl.v]) rfl) ?_
    (repeat (first|(with_reducible first|refine Ja ?_|refine Jb ?_|refine Jc ?_|refine Jd ?_|refine Je ?_|refine Jf ?_|refine Jg ?_|refine Jh ?_|refine Ji ?_|refine Jj ?_|refine Jk rfl ?_|refine Jl ?_|refine Jm ?_|refine Jn ?_|refine Jo ?_|refine Jp ?_|refine Jq ?_)|refine JA rfl ?_|refine JB rfl ?_|refine JC rfl ?_|refine JD rfl ?_|refine JE rfl ?_|refine JF rfl ?_|refine JG rfl ?_|refine JH rfl ?_|refine JI rfl ?_|refine J2 rfl ?_|refine J3 rfl ?_|refine J4 rfl ?_|refine J1 rfl ?_|refine J6 rfl ?_|refine J7 rfl ?_|refine JJ rfl ?_|refine JK rfl ?_|refine JQ rfl ?_|refine JL rfl rfl ?_|refine JM rfl rfl ?_|refine JN rfl ?_|refine JO rfl ?_|refine JP rfl ?_))
    refine e_st (vs := t.v) S 2 rfl rfl rfl rfl (by simp [Tl.v, Value.flat]) (by simp [zT, Tl.v]) fun w S => ?_
    (repeat (first|(with_reducible first|refine Ja ?_|refine Jb ?_|refine Jc ?_|refine Jd ?_|refine Je ?_|refine Jf ?_|refine Jg ?_|refine Jh ?_|refine Ji ?_|refine Jj ?_|refine Jk rfl ?_|refine Jl ?_|refine Jm ?_|refine Jn ?_|refine Jo ?_|refine Jp ?_|refine Jq ?_)|refine JA rfl ?_|refine JB rfl ?_|refine JC rfl ?_|refine JD rfl ?_|refine JE rfl ?_|refine JF rfl ?_|refine JG rfl ?_|refine JH rfl ?_|refine JI rfl ?_|refine J2 rfl ?_|refine J3 rfl ?_|refine J4 rfl ?_|refine J1 rfl ?_|refine J6 rfl ?_|refine J7 rfl ?_|refine JJ rfl ?_|refine JK rfl ?_|refine JQ rfl ?_|refine JL rfl rfl ?_|refine JM rfl rfl ?_|refine JN rfl ?_|refine JO rfl ?_|refine JP rfl ?_))
    exact bad (X := [_]) nW rfl rfl rfl rfl rfl S
  · rw [if_pos h] at hrest
    (repeat (first|(with_reducible first|refine Ja ?_|refine Jb ?_|refine Jc ?_|refine Jd ?_|refine Je ?_|refine Jf ?_|refine Jg ?_|refine Jh ?_|refine Ji ?_|refine Jj ?_|refine Jk rfl ?_|refine Jl ?_|refine Jm ?_|refine Jn ?_|refine Jo ?_|refine Jp ?_|refine Jq ?_)|refine JA rfl ?_|refine JB rfl ?_|refine JC rfl ?_|refine JD rfl ?_|refine JE rfl ?_|refine JF rfl ?_|refine JG rfl ?_|refine JH rfl ?_|refine JI rfl ?_|refine J2 rfl ?_|refine J3 rfl ?_|refine J4 rfl ?_|refine J1 rfl ?_|refine J6 rfl ?_|refine J7 rfl ?_|refine JJ rfl ?_|refine JK rfl ?_|refine JQ rfl ?_|refine JL rfl rfl ?_|refine JM rfl rfl ?_|refine JN rfl ?_|refine JO rfl ?_|refine JP rfl ?_))
    refine e_ld (v := .string ⟨⟨R1.1.bytes⟩⟩) (S.cell 0 rfl rfl) ?_
    refine e_cat rfl rfl (by
      show acc.length + R1.1.bytes.length < _
      omega) ?_
    rw [cat_list]
    (repeat (first|(with_reducible first|refine Ja ?_|refine Jb ?_|refine Jc ?_|refine Jd ?_|refine Je ?_|refine Jf ?_|refine Jg ?_|refine Jh ?_|refine Ji ?_|refine Jj ?_|refine Jk rfl ?_|refine Jl ?_|refine Jm ?_|refine Jn ?_|refine Jo ?_|refine Jp ?_|refine Jq ?_)|refine JA rfl ?_|refine JB rfl ?_|refine JC rfl ?_|refine JD rfl ?_|refine JE rfl ?_|refine JF rfl ?_|refine JG rfl ?_|refine JH rfl ?_|refine JI rfl ?_|refine J2 rfl ?_|refine J3 rfl ?_|refine J4 rfl ?_|refine J1 rfl ?_|refine J6 rfl ?_|refine J7 rfl ?_|refine JJ rfl ?_|refine JK rfl ?_|refine JQ rfl ?_|refine JL rfl rfl ?_|refine JM rfl rfl ?_|refine JN rfl ?_|refine JO rfl ?_|refine JP rfl ?_))
    refine e_add (a := (i : Int)) (b := 1) rfl rfl (by omega) (by omega) ?_
    (repeat (first|(with_reducible first|refine Ja ?_|refine Jb ?_|refine Jc ?_|refine Jd ?_|refine Je ?_|refine Jf ?_|refine Jg ?_|refine Jh ?_|refine Ji ?_|refine Jj ?_|refine Jk rfl ?_|refine Jl ?_|refine Jm ?_|refine Jn ?_|refine Jo ?_|refine Jp ?_|refine Jq ?_)|refine JA rfl ?_|refine JB rfl ?_|refine JC rfl ?_|refine JD rfl ?_|refine JE rfl ?_|refine JF rfl ?_|refine JG rfl ?_|refine JH rfl ?_|refine JI rfl ?_|refine J2 rfl ?_|refine J3 rfl ?_|refine J4 rfl ?_|refine J1 rfl ?_|refine J6 rfl ?_|refine J7 rfl ?_|refine JJ rfl ?_|refine JK rfl ?_|refine JQ rfl ?_|refine JL rfl rfl ?_|refine JM rfl rfl ?_|refine JN rfl ?_|refine JO rfl ?_|refine JP rfl ?_))
    exact ⟨rfl, (i + 1, acc ++ R1.1.bytes), ⟨rfl, rfl, rfl, rfl, rfl, rfl, rfl, rfl, trivial⟩, ⟨by simp, by simp; omega, by simp; omega, hrest, Sep.drop (L2 := [_]) S⟩, by simp; omega⟩

end Go.Proofs.Ytgendpinmmmfjaa

/-
  The walk of Scan.
-/
namespace Dn
open Go

/-- Scan from a tail on: the records, the tail, the error. -/
def scanW (s : Sh) (d : Int) : Nat → Tl → List Sec → List Sec × Tl × Int
  | 0, t, acc => (acc, t, 0)
  | k + 1, t, acc =>
    if (nextW s d t).2.2.2 ≠ 0 then ([], zT, (nextW s d t).2.2.2)
    else if (nextW s d t).2.2.1 = true then scanW s d k (nextW s d t).2.1 (acc ++ [(nextW s d t).1])
    else (acc, t, 0)
def fuelW (t : Tl) : Nat := (65540 - t.next).toNat + 1
def scanFull (s : Sh) (d : Int) (t : Tl) : List Sec × Tl × Int := if validW s d t then scanW s d (fuelW t) t [] else ([], zT, 1)
def strV (r : Sec) : Value := .string ⟨⟨r⟩⟩

theorem rest_ok {s : Sh} {d : Int} {t : Tl} {x : Pt} : ∀ (k i : Nat) (acc : Sec), (restW s d t x k i acc).2.1 = true → ∀ j, i ≤ j → j < i + k → (readW s d (t.next + j)).2.1 = true := by
  intro k
  induction k with
  | zero => intro i acc _ j h1 h2; omega
  | succ k ih =>
    intro i acc h j h1 h2
    simp only [restW] at h
    split at h
    · rename_i hh
      by_cases e : j = i
      · subst e; exact hh.1
      · exact ih (i + 1) _ h j (by omega) (by omega)
    · simp at h
theorem read_lt {s : Sh} {d i : Int} (h : (readW s d i).2.1 = true) : i < s.cfg.logN := by
  unfold readW at h
  split at h
  · simp at h
  · omega
theorem next_adv {s : Sh} {d : Int} {t : Tl} (h : (nextW s d t).2.2.1 = true) : t.next + 1 ≤ (nextW s d t).2.1.next ∧ (nextW s d t).2.1.next ≤ s.cfg.logN ∧ 0 ≤ (nextW s d t).2.1.number ∧ (nextW s d t).2.1.number < 4294967296 := by
  have hb := Go.Proofs.Ytgendpinmmmfjaa.part_bd (s := s) (d := d) (i := t.next)
  unfold nextW at h ⊢
  split at h
  · rename_i h1
    rw [if_pos h1]
    split at h
    · rename_i h2
      rw [if_pos h2]
      simp only
      have hn : 1 ≤ sizeW (readW s d t.next).1.left.toNat := by unfold sizeW; split <;> omega
      refine ⟨by omega, ?_, hb.2.2.1, hb.2.2.2.1⟩
      obtain ⟨n, hn'⟩ : ∃ n, sizeW (readW s d t.next).1.left.toNat = n := ⟨_, rfl⟩
      rw [hn'] at hn h2 ⊢
      by_cases e : n = 1
      · have := read_lt h1.1; omega
      · have := read_lt (rest_ok _ _ _ h2 (n - 1) (by omega) (by omega))
        omega
    · simp at h
  · simp at h
end Dn
namespace Go.Proofs.Ytgendpinmmmfjaa
open Dn
attribute [local irreducible] Evs Ev EvT DSpec PSpec CallTo
set_option maxRecDepth 10000
set_option maxHeartbeats 2000000

abbrev OwnT (ad : Option Addr) (n cap : Nat) (l : List Sec) (Lb : List (Nat × Obj)) : Prop := OwnS 9 1 ad n cap (l.map strV) Lb

theorem w_scan (s : Sh) (d : Int) (t : Tl) (hs : s.ok) :
    DSpec Try.prog 12 [s.v, .int .i64 d, .agg ⟨t.v⟩] s.L fun v L => ∃ ad cap Lb, v = .tuple ⟨[.slice ad (scanFull s d t).1.length cap, .agg ⟨(scanFull s d t).2.1.v⟩, .int .i64 (scanFull s d t).2.2]⟩ ∧ L = s.L ++ Lb ∧ OwnT ad (scanFull s d t).1.length cap (scanFull s d t).1 Lb := by
  refine spec_of mix Try.func12 c12_eq rfl rfl fun w F Q S hQ => ?_
  have hc := hs.cfg
  unfold Cfg.ok at hc
  have hlog : s.cfg.logN ≤ 65536 := by unfold Cfg.logN; split <;> omega
  (repeat (with_reducible first|refine Ja ?_|refine Jb ?_|refine Jc ?_|refine Jd ?_|refine Je ?_|refine Jf ?_|refine Jg ?_|refine Jh ?_|refine Ji ?_|refine Jj ?_|refine Jk rfl ?_|refine Jl ?_|refine Jm ?_|refine Jn ?_|refine Jo ?_|refine Jp ?_|refine Jq ?_))
  refine e_bx S rfl fun b5 w S => ?_
  refine e_mvL rfl ?_
  refine e_nwE S (cs' := zT.v) rfl fun b7 w S => ?_
  (repeat (first|(with_reducible first|refine Ja ?_|refine Jb ?_|refine Jc ?_|refine Jd ?_|refine Je ?_|refine Jf ?_|refine Jg ?_|refine Jh ?_|refine Ji ?_|refine Jj ?_|refine Jk rfl ?_|refine Jl ?_|refine Jm ?_|refine Jn ?_|refine Jo ?_|refine Jp ?_|refine Jq ?_)|refine JA rfl ?_|refine JB rfl ?_|refine JC rfl ?_|refine JD rfl ?_|refine JE rfl ?_|refine JF rfl ?_|refine JG rfl ?_|refine JH rfl ?_|refine JI rfl ?_|refine J2 rfl ?_|refine J3 rfl ?_|refine J4 rfl ?_|refine J1 rfl ?_|refine J6 rfl ?_|refine J7 rfl ?_|refine JJ rfl ?_|refine JK rfl ?_|refine JQ rfl ?_|refine JL rfl rfl ?_|refine JM rfl rfl ?_|refine JN rfl ?_|refine JO rfl ?_|refine JP rfl ?_))
  refine e_ld (v := .agg ⟨t.v⟩) (S.row 1 rfl (by simp [Tl.v]) rfl) ?_
  refine e_call (L2 := [_, _]) rfl (w_valid s d t) S ?_
  rintro _ _ w ⟨rfl, rfl⟩ S
  (repeat (first|(with_reducible first|refine Ja ?_|refine Jb ?_|refine Jc ?_|refine Jd ?_|refine Je ?_|refine Jf ?_|refine Jg ?_|refine Jh ?_|refine Ji ?_|refine Jj ?_|refine Jk rfl ?_|refine Jl ?_|refine Jm ?_|refine Jn ?_|refine Jo ?_|refine Jp ?_|refine Jq ?_)|refine JA rfl ?_|refine JB rfl ?_|refine JC rfl ?_|refine JD rfl ?_|refine JE rfl ?_|refine JF rfl ?_|refine JG rfl ?_|refine JH rfl ?_|refine JI rfl ?_|refine J2 rfl ?_|refine J3 rfl ?_|refine J4 rfl ?_|refine J1 rfl ?_|refine J6 rfl ?_|refine J7 rfl ?_|refine JJ rfl ?_|refine JK rfl ?_|refine JQ rfl ?_|refine JL rfl rfl ?_|refine JM rfl rfl ?_|refine JN rfl ?_|refine JO rfl ?_|refine JP rfl ?_))
  refine s_iteN rfl (fun hv => ?_) (fun hv => ?_)
  · (repeat (first|(with_reducible first|refine Ja ?_|refine Jb ?_|refine Jc ?_|refine Jd ?_|refine Je ?_|refine Jf ?_|refine Jg ?_|refine Jh ?_|refine Ji ?_|refine Jj ?_|refine Jk rfl ?_|refine Jl ?_|refine Jm ?_|refine Jn ?_|refine Jo ?_|refine Jp ?_|refine Jq ?_)|refine JA rfl ?_|refine JB rfl ?_|refine JC rfl ?_|refine JD rfl ?_|refine JE rfl ?_|refine JF rfl ?_|refine JG rfl ?_|refine JH rfl ?_|refine JI rfl ?_|refine J2 rfl ?_|refine J3 rfl ?_|refine J4 rfl ?_|refine J1 rfl ?_|refine J6 rfl ?_|refine J7 rfl ?_|refine JJ rfl ?_|refine JK rfl ?_|refine JQ rfl ?_|refine JL rfl rfl ?_|refine JM rfl rfl ?_|refine JN rfl ?_|refine JO rfl ?_|refine JP rfl ?_))
    refine e_st (vs := zT.v) S 0 rfl rfl rfl rfl (by simp [zT, Tl.v, Value.flat]) (by simp [zT, Tl.v]) fun w S => ?_
    (repeat (first|(with_reducible first|refine Ja ?_|refine Jb ?_|refine Jc ?_|refine Jd ?_|refine Je ?_|refine Jf ?_|refine Jg ?_|refine Jh ?_|refine Ji ?_|refine Jj ?_|refine Jk rfl ?_|refine Jl ?_|refine Jm ?_|refine Jn ?_|refine Jo ?_|refine Jp ?_|refine Jq ?_)|refine JA rfl ?_|refine JB rfl ?_|refine JC rfl ?_|refine JD rfl ?_|refine JE rfl ?_|refine JF rfl ?_|refine JG rfl ?_|refine JH rfl ?_|refine JI rfl ?_|refine J2 rfl ?_|refine J3 rfl ?_|refine J4 rfl ?_|refine J1 rfl ?_|refine J6 rfl ?_|refine J7 rfl ?_|refine JJ rfl ?_|refine JK rfl ?_|refine JQ rfl ?_|refine JL rfl rfl ?_|refine JM rfl rfl ?_|refine JN rfl ?_|refine JO rfl ?_|refine JP rfl ?_))
    refine f_ret (vs := [.slice none 0 0, .agg ⟨zT.v⟩, .int .i64 1]) rfl (rvs3 rfl (S.row 0 rfl (by simp [Tl.v, putAt, zT]) rfl) rfl) (hQ _ _ (s.L ++ []) ⟨none, 0, [], by unfold scanFull; rw [if_neg hv]; rfl, rfl, by unfold scanFull; rw [if_neg hv]; exact OwnS.nil⟩ (by simpa using Sep.drop (L2 := [_, _]) S))
  have hv' := hv
  unfold validW Tl.ok at hv'
  obtain ⟨RES, hRES⟩ : ∃ RES, scanW s d (fuelW t) t [] = RES := ⟨_, rfl⟩
  have hF : scanFull s d t = RES := by unfold scanFull; rw [if_pos hv, hRES]
  rw [hF] at hQ
  (repeat (first|(with_reducible first|refine Ja ?_|refine Jb ?_|refine Jc ?_|refine Jd ?_|refine Je ?_|refine Jf ?_|refine Jg ?_|refine Jh ?_|refine Ji ?_|refine Jj ?_|refine Jk rfl ?_|refine Jl ?_|refine Jm ?_|refine Jn ?_|refine Jo ?_|refine Jp ?_|refine Jq ?_)|refine JA rfl ?_|refine JB rfl ?_|refine JC rfl ?_|refine JD rfl ?_|refine JE rfl ?_|refine JF rfl ?_|refine JG rfl ?_|refine JH rfl ?_|refine JI rfl ?_|refine J2 rfl ?_|refine J3 rfl ?_|refine J4 rfl ?_|refine J1 rfl ?_|refine J6 rfl ?_|refine J7 rfl ?_|refine JJ rfl ?_|refine JK rfl ?_|refine JQ rfl ?_|refine JL rfl rfl ?_|refine JM rfl rfl ?_|refine JN rfl ?_|refine JO rfl ?_|refine JP rfl ?_))
  refine e_ld (v := .agg ⟨t.v⟩) (S.row 1 rfl (by simp [Tl.v]) rfl) ?_
  refine e_nwE S (cs' := zT.v) rfl fun b10 w S => ?_
  refine e_st (vs := t.v) S 0 rfl rfl rfl rfl (by simp [Tl.v, Value.flat]) (by simp [zT, Tl.v]) fun w S => ?_
  replace S : Dn.Sep w ((b10, .cells ⟨t.v⟩ 31) :: (b7, .cells ⟨zT.v⟩ 31) :: (b5, .cells ⟨t.v⟩ 31) :: s.L) F := S
  replace S : Dn.Sep w (([(b10, .cells ⟨t.v⟩ 31), (b7, .cells ⟨zT.v⟩ 31)] ++ ((b5, .cells ⟨t.v⟩ 31) :: s.L)) ++ []) F := by simpa using S
  (repeat (first|(with_reducible first|refine Ja ?_|refine Jb ?_|refine Jc ?_|refine Jd ?_|refine Je ?_|refine Jf ?_|refine Jg ?_|refine Jh ?_|refine Ji ?_|refine Jj ?_|refine Jk rfl ?_|refine Jl ?_|refine Jm ?_|refine Jn ?_|refine Jo ?_|refine Jp ?_|refine Jq ?_)|refine JA rfl ?_|refine JB rfl ?_|refine JC rfl ?_|refine JD rfl ?_|refine JE rfl ?_|refine JF rfl ?_|refine JG rfl ?_|refine JH rfl ?_|refine JI rfl ?_|refine J2 rfl ?_|refine J3 rfl ?_|refine J4 rfl ?_|refine J1 rfl ?_|refine J6 rfl ?_|refine J7 rfl ?_|refine JJ rfl ?_|refine JK rfl ?_|refine JQ rfl ?_|refine JL rfl rfl ?_|refine JM rfl rfl ?_|refine JN rfl ?_|refine JO rfl ?_|refine JP rfl ?_))
  refine s_loop (σ := Nat × Tl × List Sec × Option Addr × Nat × List (Nat × Obj)) (fun q => [(9, .slice q.2.2.2.1 q.2.2.1.length q.2.2.2.2.1), (0, s.v), (1, .int .i64 d), (7, .pointer (some ⟨b7, 0, none⟩)), (10, .pointer (some ⟨q.1, 0, none⟩))])
    (fun q w => 0 ≤ q.2.1.next ∧ q.2.1.next ≤ 2147483647 ∧ 0 ≤ q.2.1.number ∧ q.2.1.number ≤ 4294967296 ∧ OwnT q.2.2.2.1 q.2.2.1.length q.2.2.2.2.1 q.2.2.1 q.2.2.2.2.2 ∧ (q.2.2.1.length : Int) + fuelW q.2.1 ≤ 2147600000 ∧
      (∃ k, fuelW q.2.1 ≤ k ∧ scanW s d k q.2.1 q.2.2.1 = RES) ∧ ∃ X, Dn.Sep w (([(q.1, .cells ⟨q.2.1.v⟩ 31), (b7, .cells ⟨zT.v⟩ 31)] ++ (X ++ s.L)) ++ q.2.2.2.2.2) F) (fun q => fuelW q.2.1) (b10, t, [], none, 0, [])
    ⟨rfl, rfl, rfl, rfl, rfl, trivial⟩ rfl ⟨by simp; omega, by simp; omega, by simp; omega, by simp; omega, OwnS.nil, by simp [fuelW]; omega, ⟨_, Nat.le_refl _, hRES⟩, ⟨[_], S⟩⟩ ?_
  rintro gg ⟨b10, t, acc, ad, cap, Lb⟩ w ⟨h1, h2, h3, h4, hO, hsz, ⟨k, hk, hres⟩, X, S⟩
  simp only [setL] at h1 h2 h3 h4 hO hsz hk hres S ⊢
  obtain ⟨R, hR⟩ : ∃ R, nextW s d t = R := ⟨_, rfl⟩
  obtain ⟨k', rfl⟩ : ∃ k', k = k' + 1 := ⟨k - 1, by unfold fuelW at hk; omega⟩
  simp only [scanW, hR] at hres
  have pm : ∀ {A Y Z W : List (Nat × Obj)}, ((A ++ (Y ++ Z)) ++ W).Perm (((A ++ Y) ++ W) ++ Z) := by
    intro A Y Z W
    simp only [List.append_assoc]
    exact (List.Perm.refl _).append ((List.Perm.refl _).append List.perm_append_comm)
  (repeat (with_reducible first|refine Ja ?_|refine Jb ?_|refine Jc ?_|refine Jd ?_|refine Je ?_|refine Jf ?_|refine Jg ?_|refine Jh ?_|refine Ji ?_|refine Jj ?_|refine Jk rfl ?_|refine Jl ?_|refine Jm ?_|refine Jn ?_|refine Jo ?_|refine Jp ?_|refine Jq ?_))
  refine e_mvP rfl ?_
  refine e_mvI rfl ?_
  refine e_ld (v := .agg ⟨t.v⟩) (S.row 0 rfl (by simp [Tl.v]) rfl) ?_
  have hd : 0 ≤ d ∧ d < s.cfg.disks := ⟨hv'.1, hv'.2.1⟩
  refine e_call rfl (w_next s d t hs hd ⟨h1, h2, h3, h4⟩) (S.perm pm) ?_
  rintro _ _ w ⟨rfl, rfl⟩ S
  replace S := S.perm pm.symm
  rw [hR]
  refine e_mvT rfl ?_
  refine e_p (v := .string ⟨⟨R.1⟩⟩) rfl ?_
  refine e_p (v := .agg ⟨R.2.1.v⟩) rfl ?_
  refine e_p (v := .bool R.2.2.1) rfl ?_
  refine e_p (v := .int .i64 R.2.2.2) rfl ?_
  refine e_nwE S (cs' := zT.v) rfl fun b12 w S => ?_
  refine e_mvS rfl ?_
  refine e_st (vs := R.2.1.v) S 0 rfl rfl rfl rfl (by simp [Tl.v, Value.flat]) (by simp [zT, Tl.v]) fun w S => ?_
  replace S : Dn.Sep w (((b12, .cells ⟨R.2.1.v⟩ 31) :: ([(b10, .cells ⟨t.v⟩ 31), (b7, .cells ⟨zT.v⟩ 31)] ++ (X ++ s.L))) ++ Lb) F := S
  refine e_mvB rfl ?_
  refine e_mvI rfl ?_
  (repeat (with_reducible first|refine Ja ?_|refine Jb ?_|refine Jc ?_|refine Jd ?_|refine Je ?_|refine Jf ?_|refine Jg ?_|refine Jh ?_|refine Ji ?_|refine Jj ?_|refine Jk rfl ?_|refine Jl ?_|refine Jm ?_|refine Jn ?_|refine Jo ?_|refine Jp ?_|refine Jq ?_))
  refine e_mvI rfl ?_
  refine e_p (cmp_neqD rfl rfl) ?_
  refine e_mvB rfl ?_
  (repeat (with_reducible first|refine Ja ?_|refine Jb ?_|refine Jc ?_|refine Jd ?_|refine Je ?_|refine Jf ?_|refine Jg ?_|refine Jh ?_|refine Ji ?_|refine Jj ?_|refine Jk rfl ?_|refine Jl ?_|refine Jm ?_|refine Jn ?_|refine Jo ?_|refine Jp ?_|refine Jq ?_))
  have fin : ∀ {w : World} {tl : Tl} {T : List (Nat × Obj)} {Lb' : List (Nat × Obj)}, Dn.Sep w (((b12, .cells ⟨R.2.1.v⟩ 31) :: ([(b10, .cells ⟨t.v⟩ 31), (b7, .cells ⟨tl.v⟩ 31)] ++ (X ++ s.L))) ++ Lb') F → Dn.Sep w (s.L ++ Lb') F := by
    intro w tl T Lb' S
    have := Sep.drop (L2 := (b12, .cells ⟨R.2.1.v⟩ 31) :: (b10, .cells ⟨t.v⟩ 31) :: (b7, .cells ⟨tl.v⟩ 31) :: X) (L1 := s.L ++ Lb') (by simpa [List.append_assoc] using S)
    exact this
  refine s_iteN rfl (fun he => ?_) (fun he => ?_)
  · rw [if_pos he] at hres
    (repeat (first|(with_reducible first|refine Ja ?_|refine Jb ?_|refine Jc ?_|refine Jd ?_|refine Je ?_|refine Jf ?_|refine Jg ?_|refine Jh ?_|refine Ji ?_|refine Jj ?_|refine Jk rfl ?_|refine Jl ?_|refine Jm ?_|refine Jn ?_|refine Jo ?_|refine Jp ?_|refine Jq ?_)|refine JA rfl ?_|refine JB rfl ?_|refine JC rfl ?_|refine JD rfl ?_|refine JE rfl ?_|refine JF rfl ?_|refine JG rfl ?_|refine JH rfl ?_|refine JI rfl ?_|refine J2 rfl ?_|refine J3 rfl ?_|refine J4 rfl ?_|refine J1 rfl ?_|refine J6 rfl ?_|refine J7 rfl ?_|refine JJ rfl ?_|refine JK rfl ?_|refine JQ rfl ?_|refine JL rfl rfl ?_|refine JM rfl rfl ?_|refine JN rfl ?_|refine JO rfl ?_|refine JP rfl ?_))
    refine e_st (vs := zT.v) S 2 rfl rfl rfl rfl (by simp [zT, Tl.v, Value.flat]) (by simp [zT, Tl.v]) fun w S => ?_
    (repeat (first|(with_reducible first|refine Ja ?_|refine Jb ?_|refine Jc ?_|refine Jd ?_|refine Je ?_|refine Jf ?_|refine Jg ?_|refine Jh ?_|refine Ji ?_|refine Jj ?_|refine Jk rfl ?_|refine Jl ?_|refine Jm ?_|refine Jn ?_|refine Jo ?_|refine Jp ?_|refine Jq ?_)|refine JA rfl ?_|refine JB rfl ?_|refine JC rfl ?_|refine JD rfl ?_|refine JE rfl ?_|refine JF rfl ?_|refine JG rfl ?_|refine JH rfl ?_|refine JI rfl ?_|refine J2 rfl ?_|refine J3 rfl ?_|refine J4 rfl ?_|refine J1 rfl ?_|refine J6 rfl ?_|refine J7 rfl ?_|refine JJ rfl ?_|refine JK rfl ?_|refine JQ rfl ?_|refine JL rfl rfl ?_|refine JM rfl rfl ?_|refine JN rfl ?_|refine JO rfl ?_|refine JP rfl ?_))
    refine f_ret (vs := [.slice none 0 0, .agg ⟨zT.v⟩, .int .i64 R.2.2.2]) rfl (rvs3 rfl (S.row 2 rfl (by simp [Tl.v, putAt, zT]) rfl) rfl) (hQ _ _ (s.L ++ []) ⟨none, 0, [], by rw [← hres]; rfl, rfl, by rw [← hres]; exact OwnS.nil⟩ ?_)
    have S3 := fin (tl := zT) (T := []) S
    have S4 : Dn.Sep w (Lb ++ s.L) F := S3.perm List.perm_append_comm
    simpa using S4.drop
  have he' : R.2.2.2 = 0 := by simpa using he
  rw [if_neg (by simp [he'])] at hres
  (repeat (first|(with_reducible first|refine Ja ?_|refine Jb ?_|refine Jc ?_|refine Jd ?_|refine Je ?_|refine Jf ?_|refine Jg ?_|refine Jh ?_|refine Ji ?_|refine Jj ?_|refine Jk rfl ?_|refine Jl ?_|refine Jm ?_|refine Jn ?_|refine Jo ?_|refine Jp ?_|refine Jq ?_)|refine JA rfl ?_|refine JB rfl ?_|refine JC rfl ?_|refine JD rfl ?_|refine JE rfl ?_|refine JF rfl ?_|refine JG rfl ?_|refine JH rfl ?_|refine JI rfl ?_|refine J2 rfl ?_|refine J3 rfl ?_|refine J4 rfl ?_|refine J1 rfl ?_|refine J6 rfl ?_|refine J7 rfl ?_|refine JJ rfl ?_|refine JK rfl ?_|refine JQ rfl ?_|refine JL rfl rfl ?_|refine JM rfl rfl ?_|refine JN rfl ?_|refine JO rfl ?_|refine JP rfl ?_))
  refine s_ite rfl (fun ho => ?_) (fun ho => ?_)
  · have ho' : R.2.2.1 = false := by simpa using ho
    rw [ho', if_neg (by simp)] at hres
    (repeat (with_reducible first|refine Ja ?_|refine Jb ?_|refine Jc ?_|refine Jd ?_|refine Je ?_|refine Jf ?_|refine Jg ?_|refine Jh ?_|refine Ji ?_|refine Jj ?_|refine Jk rfl ?_|refine Jl ?_|refine Jm ?_|refine Jn ?_|refine Jo ?_|refine Jp ?_|refine Jq ?_))
    refine s_opsd ?_
    replace S := S.drew
    refine e_mvL rfl ?_
    refine e_ld (v := .agg ⟨t.v⟩) (S.row 1 rfl (by simp [Tl.v]) rfl) ?_
    (repeat (first|(with_reducible first|refine Ja ?_|refine Jb ?_|refine Jc ?_|refine Jd ?_|refine Je ?_|refine Jf ?_|refine Jg ?_|refine Jh ?_|refine Ji ?_|refine Jj ?_|refine Jk rfl ?_|refine Jl ?_|refine Jm ?_|refine Jn ?_|refine Jo ?_|refine Jp ?_|refine Jq ?_)|refine JA rfl ?_|refine JB rfl ?_|refine JC rfl ?_|refine JD rfl ?_|refine JE rfl ?_|refine JF rfl ?_|refine JG rfl ?_|refine JH rfl ?_|refine JI rfl ?_|refine J2 rfl ?_|refine J3 rfl ?_|refine J4 rfl ?_|refine J1 rfl ?_|refine J6 rfl ?_|refine J7 rfl ?_|refine JJ rfl ?_|refine JK rfl ?_|refine JQ rfl ?_|refine JL rfl rfl ?_|refine JM rfl rfl ?_|refine JN rfl ?_|refine JO rfl ?_|refine JP rfl ?_))
    refine e_st (vs := t.v) S 2 rfl rfl rfl rfl (by simp [Tl.v, Value.flat]) (by simp [zT, Tl.v]) fun w S => ?_
    (repeat (first|(with_reducible first|refine Ja ?_|refine Jb ?_|refine Jc ?_|refine Jd ?_|refine Je ?_|refine Jf ?_|refine Jg ?_|refine Jh ?_|refine Ji ?_|refine Jj ?_|refine Jk rfl ?_|refine Jl ?_|refine Jm ?_|refine Jn ?_|refine Jo ?_|refine Jp ?_|refine Jq ?_)|refine JA rfl ?_|refine JB rfl ?_|refine JC rfl ?_|refine JD rfl ?_|refine JE rfl ?_|refine JF rfl ?_|refine JG rfl ?_|refine JH rfl ?_|refine JI rfl ?_|refine J2 rfl ?_|refine J3 rfl ?_|refine J4 rfl ?_|refine J1 rfl ?_|refine J6 rfl ?_|refine J7 rfl ?_|refine JJ rfl ?_|refine JK rfl ?_|refine JQ rfl ?_|refine JL rfl rfl ?_|refine JM rfl rfl ?_|refine JN rfl ?_|refine JO rfl ?_|refine JP rfl ?_))
    exact f_ret (vs := [.slice ad acc.length cap, .agg ⟨t.v⟩, .int .i64 0]) rfl (rvs3 rfl (S.row 2 rfl (by simp [Tl.v, putAt, zT]) rfl) rfl) (hQ _ _ (s.L ++ Lb) ⟨ad, cap, Lb, by rw [← hres]; rfl, rfl, by rw [← hres]; exact hO⟩ (fin (tl := t) (T := []) S))
  have ho' : R.2.2.1 = true := by simpa using ho
  rw [ho', if_pos rfl] at hres
  have hadv := next_adv (s := s) (d := d) (t := t) (by rw [hR]; exact ho')
  rw [hR] at hadv
  have hfuel : fuelW R.2.1 + 1 ≤ fuelW t := by unfold fuelW; omega
  (repeat (first|(with_reducible first|refine Ja ?_|refine Jb ?_|refine Jc ?_|refine Jd ?_|refine Je ?_|refine Jf ?_|refine Jg ?_|refine Jh ?_|refine Ji ?_|refine Jj ?_|refine Jk rfl ?_|refine Jl ?_|refine Jm ?_|refine Jn ?_|refine Jo ?_|refine Jp ?_|refine Jq ?_)|refine JA rfl ?_|refine JB rfl ?_|refine JC rfl ?_|refine JD rfl ?_|refine JE rfl ?_|refine JF rfl ?_|refine JG rfl ?_|refine JH rfl ?_|refine JI rfl ?_|refine J2 rfl ?_|refine J3 rfl ?_|refine J4 rfl ?_|refine J1 rfl ?_|refine J6 rfl ?_|refine J7 rfl ?_|refine JJ rfl ?_|refine JK rfl ?_|refine JQ rfl ?_|refine JL rfl rfl ?_|refine JM rfl rfl ?_|refine JN rfl ?_|refine JO rfl ?_|refine JP rfl ?_))
  replace S := S.drew
  (repeat (first|(with_reducible first|refine Ja ?_|refine Jb ?_|refine Jc ?_|refine Jd ?_|refine Je ?_|refine Jf ?_|refine Jg ?_|refine Jh ?_|refine Ji ?_|refine Jj ?_|refine Jk rfl ?_|refine Jl ?_|refine Jm ?_|refine Jn ?_|refine Jo ?_|refine Jp ?_|refine Jq ?_)|refine JA rfl ?_|refine JB rfl ?_|refine JC rfl ?_|refine JD rfl ?_|refine JE rfl ?_|refine JF rfl ?_|refine JG rfl ?_|refine JH rfl ?_|refine JI rfl ?_|refine J2 rfl ?_|refine J3 rfl ?_|refine J4 rfl ?_|refine J1 rfl ?_|refine J6 rfl ?_|refine J7 rfl ?_|refine JJ rfl ?_|refine JK rfl ?_|refine JQ rfl ?_|refine JL rfl rfl ?_|refine JM rfl rfl ?_|refine JN rfl ?_|refine JO rfl ?_|refine JP rfl ?_))
  repeat' first
    | (with_reducible refine t_alt ?_ ?_)
    | (refine e_ld (v := .agg ⟨R.2.1.v⟩) (S.row 0 rfl (by simp [Tl.v]) rfl) ?_)
    | (refine e_bsl (size := 1) (xs := [strV R.1]) S Try.underlying22 rfl rfl ⟨_, rfl⟩ (by omega) (by omega) (fun zs hz => (match zs, hz with | [u], _ => rfl)) fun b43 w S => ?_
       replace S := S.perm (perm_tail _ _ _))
    | (refine e_app (size := 1) (k := 1) (ys := [strV R.1]) (z := .string ⟨#[]⟩) S hO rfl (src_row Try.underlying22 (rowOf_at S (ty := 9) (fr := (0, 0)) (cs := [strV R.1]) (by simp) (by simp) rfl) (by simp [strV, Value.flat])) Try.underlying22 rfl rfl rfl rfl (by show (acc.length + 1) * 16 ≤ _; omega) (by omega) fun ad' cap' Lb' w hO' S => ?_)
    | (first|(with_reducible first|refine Ja ?_|refine Jb ?_|refine Jc ?_|refine Jd ?_|refine Je ?_|refine Jf ?_|refine Jg ?_|refine Jh ?_|refine Ji ?_|refine Jj ?_|refine Jk rfl ?_|refine Jl ?_|refine Jm ?_|refine Jn ?_|refine Jo ?_|refine Jp ?_|refine Jq ?_)|refine JA rfl ?_|refine JB rfl ?_|refine JC rfl ?_|refine JD rfl ?_|refine JE rfl ?_|refine JF rfl ?_|refine JG rfl ?_|refine JH rfl ?_|refine JI rfl ?_|refine J2 rfl ?_|refine J3 rfl ?_|refine J4 rfl ?_|refine J1 rfl ?_|refine J6 rfl ?_|refine J7 rfl ?_|refine JJ rfl ?_|refine JK rfl ?_|refine JQ rfl ?_|refine JL rfl rfl ?_|refine JM rfl rfl ?_|refine JN rfl ?_|refine JO rfl ?_|refine JP rfl ?_)
  all_goals
    refine e_st (vs := R.2.1.v) S 1 rfl rfl rfl rfl (by simp [Tl.v, Value.flat]) (by simp [Tl.v]) fun w S => ?_
    (repeat (first|(with_reducible first|refine Ja ?_|refine Jb ?_|refine Jc ?_|refine Jd ?_|refine Je ?_|refine Jf ?_|refine Jg ?_|refine Jh ?_|refine Ji ?_|refine Jj ?_|refine Jk rfl ?_|refine Jl ?_|refine Jm ?_|refine Jn ?_|refine Jo ?_|refine Jp ?_|refine Jq ?_)|refine JA rfl ?_|refine JB rfl ?_|refine JC rfl ?_|refine JD rfl ?_|refine JE rfl ?_|refine JF rfl ?_|refine JG rfl ?_|refine JH rfl ?_|refine JI rfl ?_|refine J2 rfl ?_|refine J3 rfl ?_|refine J4 rfl ?_|refine J1 rfl ?_|refine J6 rfl ?_|refine J7 rfl ?_|refine JJ rfl ?_|refine JK rfl ?_|refine JQ rfl ?_|refine JL rfl rfl ?_|refine JM rfl rfl ?_|refine JN rfl ?_|refine JO rfl ?_|refine JP rfl ?_))
    refine e_ld (v := .agg ⟨R.2.1.v⟩) (S.row 1 rfl (by simp [Tl.v, putAt]) rfl) ?_
    (repeat (first|(with_reducible first|refine Ja ?_|refine Jb ?_|refine Jc ?_|refine Jd ?_|refine Je ?_|refine Jf ?_|refine Jg ?_|refine Jh ?_|refine Ji ?_|refine Jj ?_|refine Jk rfl ?_|refine Jl ?_|refine Jm ?_|refine Jn ?_|refine Jo ?_|refine Jp ?_|refine Jq ?_)|refine JA rfl ?_|refine JB rfl ?_|refine JC rfl ?_|refine JD rfl ?_|refine JE rfl ?_|refine JF rfl ?_|refine JG rfl ?_|refine JH rfl ?_|refine JI rfl ?_|refine J2 rfl ?_|refine J3 rfl ?_|refine J4 rfl ?_|refine J1 rfl ?_|refine J6 rfl ?_|refine J7 rfl ?_|refine JJ rfl ?_|refine JK rfl ?_|refine JQ rfl ?_|refine JL rfl rfl ?_|refine JM rfl rfl ?_|refine JN rfl ?_|refine JO rfl ?_|refine JP rfl ?_))
    refine e_nwE S (cs' := zT.v) rfl fun b10' w S => ?_
    refine e_st (vs := R.2.1.v) S 0 rfl rfl rfl rfl (by simp [Tl.v, Value.flat]) (by simp [zT, Tl.v]) fun w S => ?_
    replace S : Dn.Sep w ((((b10', .cells ⟨R.2.1.v⟩ 31) :: (b12, .cells ⟨R.2.1.v⟩ 31) :: (b10, .cells ⟨R.2.1.v⟩ 31) :: (b7, .cells ⟨zT.v⟩ 31) :: (X ++ s.L)) ++ [(b43, .cells ⟨[strV R.1]⟩ 9)]) ++ Lb') F := S
    have S2 := (S.mv 3 rfl).mv 1 rfl
    replace S2 : Dn.Sep w ((((b10', .cells ⟨R.2.1.v⟩ 31) :: (b7, .cells ⟨zT.v⟩ 31) :: (b12, .cells ⟨R.2.1.v⟩ 31) :: (b10, .cells ⟨R.2.1.v⟩ 31) :: (X ++ s.L)) ++ [(b43, .cells ⟨[strV R.1]⟩ 9)]) ++ Lb') F := S2
    have el : (acc ++ [R.1]).length = acc.length + 1 := by simp
    (repeat (with_reducible first|refine Ja ?_|refine Jb ?_|refine Jc ?_|refine Jd ?_|refine Je ?_|refine Jf ?_|refine Jg ?_|refine Jh ?_|refine Ji ?_|refine Jj ?_|refine Jk rfl ?_|refine Jl ?_|refine Jm ?_|refine Jn ?_|refine Jo ?_|refine Jp ?_|refine Jq ?_))
    refine ⟨rfl, (b10', R.2.1, acc ++ [R.1], ad', cap', Lb'), ⟨?_, rfl, rfl, rfl, rfl, trivial⟩, ⟨by simp only; omega, by simp only; omega, by simp only; omega, by simp only; omega, ?_, by simp only [el]; omega, ⟨k', by simp only; omega, hres⟩, ⟨(b12, .cells ⟨R.2.1.v⟩ 31) :: (b10, .cells ⟨R.2.1.v⟩ 31) :: X, ?_⟩⟩, by simp only; omega⟩
    · simp only [el]; rfl
    · simp only [el, OwnT, List.map_append]; exact hO'
    · refine Sep.drop (L2 := [(b43, .cells ⟨[strV R.1]⟩ 9)]) (S2.perm ?_)
      rw [List.append_assoc]
      exact List.perm_middle

end Go.Proofs.Ytgendpinmmmfjaa

/-
  Memory that is only read: slices in the frame; contracts that ask something of the frame.
-/
namespace Dn
open Go

variable {P : Program} {m : Nat} {w : World} {L L1 L2 Lb : List (Nat × Obj)} {F : Fr} {T : Rg} {N : Rg → World → Prop} {l : List Ins} {d : Option Nat} {ty : TypeId} {K : Ex → Rg → World → Prop} {a b : Cd}

def FCell (F : Fr) (b off : Nat) (v : Value) : Prop := ∃ cs ty fr, F.h b = some (.cells ⟨cs⟩ ty fr) ∧ cs[off]? = some v
/-- The elements (one cell each) of a slice that lies in the frame. -/
def FSl (F : Fr) (ad : Option Addr) (vs : List Value) : Prop := ∀ i v, vs[i]? = some v → ∃ b off, ad = some ⟨b, off, none⟩ ∧ FCell F b (off + i) v

theorem FSl.add (S : Sep w (L2 ++ L1) F) {ad : Option Addr} {vs : List Value} (h : FSl F ad vs) : FSl (F.add L2) ad vs := by
  intro i v hi
  obtain ⟨b, off, h1, cs, ty, fr, h2, h3⟩ := h i v hi
  refine ⟨b, off, h1, cs, ty, fr, ?_, h3⟩
  have hn : look L2 b = none := by
    rw [look_none]
    intro hh
    obtain ⟨⟨x, o⟩, hx, rfl⟩ := List.mem_map.1 hh
    have := S.ap _ _ (List.mem_append_left _ hx)
    rw [this] at h2; simp at h2
  simp only [Fr.add, hn, h2]
theorem FSl.nil {ad : Option Addr} : FSl F ad [] := fun i v h => by simp at h
theorem FSl.of_row (S : Sep w (L2 ++ L1) F) {b n ty : Nat} {xs sp : List Value} {fr : Nat × Nat} (h : (b, Obj.cells ⟨xs ++ sp⟩ ty fr) ∈ L2) : FSl (F.add L2) (some ⟨b, 0, none⟩) xs := by
  intro i v hi
  refine ⟨b, 0, rfl, xs ++ sp, ty, fr, ?_, ?_⟩
  · have hnd := S.nd
    rw [List.map_append, List.nodup_append] at hnd
    simp only [Fr.add, (look_mem hnd.1).2 h]
  · rw [Nat.zero_add, List.getElem?_append_left]
    · exact hi
    · rcases Nat.lt_or_ge i xs.length with h' | h'
      · exact h'
      · rw [List.getElem?_eq_none h'] at hi; simp at hi
theorem OwnS.fsl {e : TypeId} {ad : Option Addr} {n cap : Nat} {xs : List Value} (hO : OwnS e 1 ad n cap xs Lb) (S : Sep w (L2 ++ L1) F) (hs : ∀ x ∈ Lb, x ∈ L2) : FSl (F.add L2) ad xs := by
  rcases hO.own with ⟨_, hc, _⟩ | ⟨b, sp, lo, hi, rfl, _, _, rfl⟩
  · have hn : n = 0 := by have := hO.le; omega
    have : xs = [] := List.eq_nil_of_length_eq_zero (by rw [hO.len, hn])
    subst this
    exact FSl.nil
  · exact FSl.of_row (n := n) S (hs _ (List.mem_singleton.2 rfl))
theorem FSl.drop {ad : Option Addr} {vs : List Value} (h : FSl F ad vs) (k cap : Nat) : FSl F (if cap = k then ad else ad.map (·.add (k * 1))) (vs.drop k) ∨ cap = k ∧ k ≠ 0 := by
  by_cases hk : cap = k
  · by_cases hz : k = 0
    · left
      rw [if_pos hk]
      subst hz
      simpa using h
    · exact .inr ⟨hk, hz⟩
  · left
    rw [if_neg hk]
    intro i v hi
    rw [List.getElem?_drop] at hi
    obtain ⟨b, off, rfl, hc⟩ := h _ v hi
    refine ⟨b, off + k, by simp [addr_add], ?_⟩
    rw [Nat.add_assoc]; exact hc
theorem Sep.fc (S : Sep w L F) {b off : Nat} {v : Value} (h : FCell F b off v) : ldV none (.pointer (some ⟨b, off, none⟩)) w = some v := by
  obtain ⟨cs, ty, fr, h1, h2⟩ := h
  exact S.fcell h1 h2

/-- A contract that asks something of the frame. -/
def DSpecF (P : Program) (f : FuncId) (args : List Value) (L : List (Nat × Obj)) (Φ : Fr → Prop) (post : Value → List (Nat × Obj) → Prop) : Prop :=
  ∀ w F, Φ F → Sep w L F → CallTo P f args w fun v w' => ∃ L', post v L' ∧ Sep w' L' F
theorem e_callF {f : FuncId} {args : List X} {vs : List Value} {Φ : Fr → Prop} {post : Value → List (Nat × Obj) → Prop} (ha : T.evs args = vs) (hf : DSpecF P f vs L1 Φ post) (S : Sep w (L2 ++ L1) F) (hΦ : Φ (F.add L2))
    (h : ∀ v L' w', post v L' → Sep w' (L2 ++ L') F → Evs P l N (updO T d v) w') : Evs P (.op (.call d f args) :: l) N T w := by
  show CallTo P f (T.evs args) w _
  rw [ha]
  exact (hf w (F.add L2) hΦ S.tail).mono fun v w' ⟨L', hp, S'⟩ => h v L' w' hp (S'.join S)
/-- .. and is given no blocks. -/
theorem e_callFN {f : FuncId} {args : List X} {vs : List Value} {Φ : Fr → Prop} {post : Value → List (Nat × Obj) → Prop} (ha : T.evs args = vs) (hf : DSpecF P f vs [] Φ post) (S : Sep w L F) (hΦ : Φ (F.add L))
    (h : ∀ v L' w', post v L' → Sep w' (L ++ L') F → Evs P l N (updO T d v) w') : Evs P (.op (.call d f args) :: l) N T w :=
  e_callF (L1 := []) (L2 := L) ha hf (by simpa using S) hΦ h
theorem specF_of {f : FuncId} {fn : Func} {Fn : Fun} {mm : Nat} {body : Cd} {res : List RV} {args : List Value} {Φ : Fr → Prop} {post : Value → List (Nat × Obj) → Prop} (hmix : P.follows .mixedOrders = true) (hf : P.funcs[f]? = some fn) (hc : cF P fn = some Fn) (hF : Fn = ⟨mm, body, res⟩) (hn : Nat.ble args.length mm = true)
    (h : ∀ w F (Q : Value → World → Prop), Φ F → Sep w L F → (∀ v w' L', post v L' → Sep w' L' F → Q v w') → Ev P mm body (finK res Q) (T0 args) w) : DSpecF P f args L Φ post := by
  subst hF
  exact fun w F hΦ S => enter hmix hf hc (Nat.le_of_ble_eq_true hn) (h w F _ hΦ S fun v w' L' hp S' => ⟨L', hp, S'⟩)

end Dn

/-
  The laws' own helpers: Same, config, text.
-/
namespace Go.Proofs.Ytgendpinmmmfjaa
open Dn
attribute [local irreducible] Evs Ev EvT DSpec PSpec CallTo
set_option maxRecDepth 10000

theorem strV_get {l : List Sec} {i : Nat} (h : i < l.length) : (l.map strV)[i]? = some (strV l[i]) := by simp [h]

theorem l_same (ad ad' : Option Addr) (cap cap' : Nat) (l l' : List Sec) (hb : l.length ≤ 1000000) : DSpecF Try.prog 14 [.slice ad l.length cap, .slice ad' l'.length cap'] [] (fun F => FSl F ad (l.map strV) ∧ FSl F ad' (l'.map strV))
    fun v L => v = .bool (decide (l = l')) ∧ L = [] := by
  refine specF_of mix Try.func14 c14_eq rfl rfl fun w F Q ⟨hF, hF'⟩ S hQ => ?_
  (repeat (with_reducible first|refine Ja ?_|refine Jb ?_|refine Jc ?_|refine Jd ?_|refine Je ?_|refine Jf ?_|refine Jg ?_|refine Jh ?_|refine Ji ?_|refine Jj ?_|refine Jk rfl ?_|refine Jl ?_|refine Jm ?_|refine Jn ?_|refine Jo ?_|refine Jp ?_|refine Jq ?_))
  refine e_mvB rfl ?_
  (repeat (with_reducible first|refine Ja ?_|refine Jb ?_|refine Jc ?_|refine Jd ?_|refine Je ?_|refine Jf ?_|refine Jg ?_|refine Jh ?_|refine Ji ?_|refine Jj ?_|refine Jk rfl ?_|refine Jl ?_|refine Jm ?_|refine Jn ?_|refine Jo ?_|refine Jp ?_|refine Jq ?_))
  refine e_mvL rfl ?_
  refine e_p (v := .int .i64 ((l.length : Nat) : Int)) rfl ?_
  refine e_mvL rfl ?_
  refine e_p (v := .int .i64 ((l'.length : Nat) : Int)) rfl ?_
  refine e_p (cmp_neqD rfl rfl) ?_
  (repeat (with_reducible first|refine Ja ?_|refine Jb ?_|refine Jc ?_|refine Jd ?_|refine Je ?_|refine Jf ?_|refine Jg ?_|refine Jh ?_|refine Ji ?_|refine Jj ?_|refine Jk rfl ?_|refine Jl ?_|refine Jm ?_|refine Jn ?_|refine Jo ?_|refine Jp ?_|refine Jq ?_))
  refine s_iteN rfl (fun hl => ?_) (fun hl => ?_)
  · (repeat (first|(with_reducible first|refine Ja ?_|refine Jb ?_|refine Jc ?_|refine Jd ?_|refine Je ?_|refine Jf ?_|refine Jg ?_|refine Jh ?_|refine Ji ?_|refine Jj ?_|refine Jk rfl ?_|refine Jl ?_|refine Jm ?_|refine Jn ?_|refine Jo ?_|refine Jp ?_|refine Jq ?_)|refine JA rfl ?_|refine JB rfl ?_|refine JC rfl ?_|refine JD rfl ?_|refine JE rfl ?_|refine JF rfl ?_|refine JG rfl ?_|refine JH rfl ?_|refine JI rfl ?_|refine J2 rfl ?_|refine J3 rfl ?_|refine J4 rfl ?_|refine J1 rfl ?_|refine J6 rfl ?_|refine J7 rfl ?_|refine JJ rfl ?_|refine JK rfl ?_|refine JQ rfl ?_|refine JL rfl rfl ?_|refine JM rfl rfl ?_|refine JN rfl ?_|refine JO rfl ?_|refine JP rfl ?_))
    exact f_ret rfl rfl (hQ _ _ _ ⟨congrArg Value.bool (decide_eq_false fun h => hl (by rw [h])).symm, rfl⟩ S)
  have hl' : l.length = l'.length := by omega
  (repeat (first|(with_reducible first|refine Ja ?_|refine Jb ?_|refine Jc ?_|refine Jd ?_|refine Je ?_|refine Jf ?_|refine Jg ?_|refine Jh ?_|refine Ji ?_|refine Jj ?_|refine Jk rfl ?_|refine Jl ?_|refine Jm ?_|refine Jn ?_|refine Jo ?_|refine Jp ?_|refine Jq ?_)|refine JA rfl ?_|refine JB rfl ?_|refine JC rfl ?_|refine JD rfl ?_|refine JE rfl ?_|refine JF rfl ?_|refine JG rfl ?_|refine JH rfl ?_|refine JI rfl ?_|refine J2 rfl ?_|refine J3 rfl ?_|refine J4 rfl ?_|refine J1 rfl ?_|refine J6 rfl ?_|refine J7 rfl ?_|refine JJ rfl ?_|refine JK rfl ?_|refine JQ rfl ?_|refine JL rfl rfl ?_|refine JM rfl rfl ?_|refine JN rfl ?_|refine JO rfl ?_|refine JP rfl ?_))
  refine s_loop (σ := Nat) (fun i => [(5, .int .i64 (i : Int)), (0, .slice ad l.length cap), (1, .slice ad' l'.length cap')]) (fun i w => i ≤ l.length ∧ l.take i = l'.take i ∧ Dn.Sep w [] F) (fun i => l.length - i) 0 ⟨rfl, rfl, rfl, trivial⟩ rfl ⟨by omega, by simp, S⟩ ?_
  rintro g i w ⟨hi, htk, S⟩
  simp only [setL]
  (repeat (first|(with_reducible first|refine Ja ?_|refine Jb ?_|refine Jc ?_|refine Jd ?_|refine Je ?_|refine Jf ?_|refine Jg ?_|refine Jh ?_|refine Ji ?_|refine Jj ?_|refine Jk rfl ?_|refine Jl ?_|refine Jm ?_|refine Jn ?_|refine Jo ?_|refine Jp ?_|refine Jq ?_)|refine JA rfl ?_|refine JB rfl ?_|refine JC rfl ?_|refine JD rfl ?_|refine JE rfl ?_|refine JF rfl ?_|refine JG rfl ?_|refine JH rfl ?_|refine JI rfl ?_|refine J2 rfl ?_|refine J3 rfl ?_|refine J4 rfl ?_|refine J1 rfl ?_|refine J6 rfl ?_|refine J7 rfl ?_|refine JJ rfl ?_|refine JK rfl ?_|refine JQ rfl ?_|refine JL rfl rfl ?_|refine JM rfl rfl ?_|refine JN rfl ?_|refine JO rfl ?_|refine JP rfl ?_))
  refine s_iteD rfl (fun h => ?_) (fun h => ?_)
  rotate_left
  · have hi' : i = l.length := by omega
    (repeat (first|(with_reducible first|refine Ja ?_|refine Jb ?_|refine Jc ?_|refine Jd ?_|refine Je ?_|refine Jf ?_|refine Jg ?_|refine Jh ?_|refine Ji ?_|refine Jj ?_|refine Jk rfl ?_|refine Jl ?_|refine Jm ?_|refine Jn ?_|refine Jo ?_|refine Jp ?_|refine Jq ?_)|refine JA rfl ?_|refine JB rfl ?_|refine JC rfl ?_|refine JD rfl ?_|refine JE rfl ?_|refine JF rfl ?_|refine JG rfl ?_|refine JH rfl ?_|refine JI rfl ?_|refine J2 rfl ?_|refine J3 rfl ?_|refine J4 rfl ?_|refine J1 rfl ?_|refine J6 rfl ?_|refine J7 rfl ?_|refine JJ rfl ?_|refine JK rfl ?_|refine JQ rfl ?_|refine JL rfl rfl ?_|refine JM rfl rfl ?_|refine JN rfl ?_|refine JO rfl ?_|refine JP rfl ?_))
    refine f_ret rfl rfl (hQ _ _ _ ⟨congrArg Value.bool (decide_eq_true ?_).symm, rfl⟩ S)
    rw [hi', List.take_length, hl', List.take_length] at htk
    exact htk
  have hi1 : i < l.length := by omega
  have hi2 : i < l'.length := by omega
  obtain ⟨b, off, rfl, hc⟩ := hF i _ (strV_get hi1)
  obtain ⟨b', off', rfl, hc'⟩ := hF' i _ (strV_get hi2)
  (repeat (with_reducible first|refine Ja ?_|refine Jb ?_|refine Jc ?_|refine Jd ?_|refine Je ?_|refine Jf ?_|refine Jg ?_|refine Jh ?_|refine Ji ?_|refine Jj ?_|refine Jk rfl ?_|refine Jl ?_|refine Jm ?_|refine Jn ?_|refine Jo ?_|refine Jp ?_|refine Jq ?_))
  refine s_opsd ?_
  replace S := S.drew
  refine e_mvL rfl ?_
  refine e_mvI rfl ?_
  refine e_ixa rfl rfl (by omega) (by omega) ?_
  rw [show off + (i : Int).toNat * 1 = off + i by omega]
  refine e_ld (v := strV l[i]) (S.fc hc) ?_
  refine e_mvL rfl ?_
  refine e_mvI rfl ?_
  refine e_ixa rfl rfl (by omega) (by omega) ?_
  rw [show off' + (i : Int).toNat * 1 = off' + i by omega]
  refine e_ld (v := strV l'[i]) (S.fc hc') ?_
  refine e_p (cmpS_neq (a := l[i]) (b := l'[i]) rfl rfl) ?_
  (repeat (with_reducible first|refine Ja ?_|refine Jb ?_|refine Jc ?_|refine Jd ?_|refine Je ?_|refine Jf ?_|refine Jg ?_|refine Jh ?_|refine Ji ?_|refine Jj ?_|refine Jk rfl ?_|refine Jl ?_|refine Jm ?_|refine Jn ?_|refine Jo ?_|refine Jp ?_|refine Jq ?_))
  refine s_iteN rfl (fun he => ?_) (fun he => ?_)
  · (repeat (first|(with_reducible first|refine Ja ?_|refine Jb ?_|refine Jc ?_|refine Jd ?_|refine Je ?_|refine Jf ?_|refine Jg ?_|refine Jh ?_|refine Ji ?_|refine Jj ?_|refine Jk rfl ?_|refine Jl ?_|refine Jm ?_|refine Jn ?_|refine Jo ?_|refine Jp ?_|refine Jq ?_)|refine JA rfl ?_|refine JB rfl ?_|refine JC rfl ?_|refine JD rfl ?_|refine JE rfl ?_|refine JF rfl ?_|refine JG rfl ?_|refine JH rfl ?_|refine JI rfl ?_|refine J2 rfl ?_|refine J3 rfl ?_|refine J4 rfl ?_|refine J1 rfl ?_|refine J6 rfl ?_|refine J7 rfl ?_|refine JJ rfl ?_|refine JK rfl ?_|refine JQ rfl ?_|refine JL rfl rfl ?_|refine JM rfl rfl ?_|refine JN rfl ?_|refine JO rfl ?_|refine JP rfl ?_))
    refine f_ret rfl rfl (hQ _ _ _ ⟨congrArg Value.bool (decide_eq_false ?_).symm, rfl⟩ S)
    intro h; subst h; exact he rfl
  · (repeat (first|(with_reducible first|refine Ja ?_|refine Jb ?_|refine Jc ?_|refine Jd ?_|refine Je ?_|refine Jf ?_|refine Jg ?_|refine Jh ?_|refine Ji ?_|refine Jj ?_|refine Jk rfl ?_|refine Jl ?_|refine Jm ?_|refine Jn ?_|refine Jo ?_|refine Jp ?_|refine Jq ?_)|refine JA rfl ?_|refine JB rfl ?_|refine JC rfl ?_|refine JD rfl ?_|refine JE rfl ?_|refine JF rfl ?_|refine JG rfl ?_|refine JH rfl ?_|refine JI rfl ?_|refine J2 rfl ?_|refine J3 rfl ?_|refine J4 rfl ?_|refine J1 rfl ?_|refine J6 rfl ?_|refine J7 rfl ?_|refine JJ rfl ?_|refine JK rfl ?_|refine JQ rfl ?_|refine JL rfl rfl ?_|refine JM rfl rfl ?_|refine JN rfl ?_|refine JO rfl ?_|refine JP rfl ?_))
    refine e_add (a := (i : Int)) (b := 1) rfl rfl (by omega) (by omega) ?_
    (repeat (first|(with_reducible first|refine Ja ?_|refine Jb ?_|refine Jc ?_|refine Jd ?_|refine Je ?_|refine Jf ?_|refine Jg ?_|refine Jh ?_|refine Ji ?_|refine Jj ?_|refine Jk rfl ?_|refine Jl ?_|refine Jm ?_|refine Jn ?_|refine Jo ?_|refine Jp ?_|refine Jq ?_)|refine JA rfl ?_|refine JB rfl ?_|refine JC rfl ?_|refine JD rfl ?_|refine JE rfl ?_|refine JF rfl ?_|refine JG rfl ?_|refine JH rfl ?_|refine JI rfl ?_|refine J2 rfl ?_|refine J3 rfl ?_|refine J4 rfl ?_|refine J1 rfl ?_|refine J6 rfl ?_|refine J7 rfl ?_|refine JJ rfl ?_|refine JK rfl ?_|refine JQ rfl ?_|refine JL rfl rfl ?_|refine JM rfl rfl ?_|refine JN rfl ?_|refine JO rfl ?_|refine JP rfl ?_))
    refine ⟨rfl, i + 1, ⟨rfl, rfl, rfl, trivial⟩, ⟨by omega, ?_, S⟩, by omega⟩
    rw [List.take_succ_eq_append_getElem hi1, List.take_succ_eq_append_getElem hi2, htk, he]

theorem l_config (n : Int) (h1 : -1000000 ≤ n) (h2 : n ≤ 9223372036854775000) : PSpec Try.prog 19 [.int .i64 n] (.agg ⟨(⟨2, 1, 1, 0, n + 3, 1⟩ : Cfg).v⟩) := by
  refine pspec_of mix Try.func19 c19_eq rfl rfl fun w F Q S hQ => ?_
  (repeat (first|(with_reducible first|refine Ja ?_|refine Jb ?_|refine Jc ?_|refine Jd ?_|refine Je ?_|refine Jf ?_|refine Jg ?_|refine Jh ?_|refine Ji ?_|refine Jj ?_|refine Jk rfl ?_|refine Jl ?_|refine Jm ?_|refine Jn ?_|refine Jo ?_|refine Jp ?_|refine Jq ?_)|refine JA rfl ?_|refine JB rfl ?_|refine JC rfl ?_|refine JD rfl ?_|refine JE rfl ?_|refine JF rfl ?_|refine JG rfl ?_|refine JH rfl ?_|refine JI rfl ?_|refine J2 rfl ?_|refine J3 rfl ?_|refine J4 rfl ?_|refine J1 rfl ?_|refine J6 rfl ?_|refine J7 rfl ?_|refine JJ rfl ?_|refine JK rfl ?_|refine JQ rfl ?_|refine JL rfl rfl ?_|refine JM rfl rfl ?_|refine JN rfl ?_|refine JO rfl ?_|refine JP rfl ?_))
  refine e_nw S fun b w S => ?_
  (repeat (first|(with_reducible first|refine Ja ?_|refine Jb ?_|refine Jc ?_|refine Jd ?_|refine Je ?_|refine Jf ?_|refine Jg ?_|refine Jh ?_|refine Ji ?_|refine Jj ?_|refine Jk rfl ?_|refine Jl ?_|refine Jm ?_|refine Jn ?_|refine Jo ?_|refine Jp ?_|refine Jq ?_)|refine JA rfl ?_|refine JB rfl ?_|refine JC rfl ?_|refine JD rfl ?_|refine JE rfl ?_|refine JF rfl ?_|refine JG rfl ?_|refine JH rfl ?_|refine JI rfl ?_|refine J2 rfl ?_|refine J3 rfl ?_|refine J4 rfl ?_|refine J1 rfl ?_|refine J6 rfl ?_|refine J7 rfl ?_|refine JJ rfl ?_|refine JK rfl ?_|refine JQ rfl ?_|refine JL rfl rfl ?_|refine JM rfl rfl ?_|refine JN rfl ?_|refine JO rfl ?_|refine JP rfl ?_))
  refine e_add (a := n) (b := 3) rfl rfl (by omega) (by omega) ?_
  (repeat (first|(with_reducible first|refine Ja ?_|refine Jb ?_|refine Jc ?_|refine Jd ?_|refine Je ?_|refine Jf ?_|refine Jg ?_|refine Jh ?_|refine Ji ?_|refine Jj ?_|refine Jk rfl ?_|refine Jl ?_|refine Jm ?_|refine Jn ?_|refine Jo ?_|refine Jp ?_|refine Jq ?_)|refine JA rfl ?_|refine JB rfl ?_|refine JC rfl ?_|refine JD rfl ?_|refine JE rfl ?_|refine JF rfl ?_|refine JG rfl ?_|refine JH rfl ?_|refine JI rfl ?_|refine J2 rfl ?_|refine J3 rfl ?_|refine J4 rfl ?_|refine J1 rfl ?_|refine J6 rfl ?_|refine J7 rfl ?_|refine JJ rfl ?_|refine JK rfl ?_|refine JQ rfl ?_|refine JL rfl rfl ?_|refine JM rfl rfl ?_|refine JN rfl ?_|refine JO rfl ?_|refine JP rfl ?_))
  refine e_st (vs := (⟨2, 1, 1, 0, n + 3, 1⟩ : Cfg).v) S 0 rfl rfl rfl rfl (by simp [Cfg.v, Value.flat]) (by simp) fun w S => ?_
  (repeat (first|(with_reducible first|refine Ja ?_|refine Jb ?_|refine Jc ?_|refine Jd ?_|refine Je ?_|refine Jf ?_|refine Jg ?_|refine Jh ?_|refine Ji ?_|refine Jj ?_|refine Jk rfl ?_|refine Jl ?_|refine Jm ?_|refine Jn ?_|refine Jo ?_|refine Jp ?_|refine Jq ?_)|refine JA rfl ?_|refine JB rfl ?_|refine JC rfl ?_|refine JD rfl ?_|refine JE rfl ?_|refine JF rfl ?_|refine JG rfl ?_|refine JH rfl ?_|refine JI rfl ?_|refine J2 rfl ?_|refine J3 rfl ?_|refine J4 rfl ?_|refine J1 rfl ?_|refine J6 rfl ?_|refine J7 rfl ?_|refine JJ rfl ?_|refine JK rfl ?_|refine JQ rfl ?_|refine JL rfl rfl ?_|refine JM rfl rfl ?_|refine JN rfl ?_|refine JO rfl ?_|refine JP rfl ?_))
  exact f_ret rfl (rvs1 (S.row (vs := (⟨2, 1, 1, 0, n + 3, 1⟩ : Cfg).v) 0 rfl (by simp [putAt, Cfg.v]) rfl)) (hQ _ _ _ rfl S)

def textW (n : Nat) (b : UInt8) : Sec := (List.range n).map fun i => b + UInt8.ofNat (i % 7)
theorem ar_add8 (b : UInt8) (k : Nat) : arV .add (bv b) (bv (UInt8.ofNat k)) = some (bv (b + UInt8.ofNat k)) := by
  simp only [arV, bv, kEq, cond_true]
  congr 2
  first | done | (rw [wrap_u8, UInt8.toNat_add]; omega) | (rw [wrap_u8, UInt8.toNat_add]; rfl)
theorem ar_rem7 (a : Nat) : arV .rem (.int .i64 (a : Int)) (.int .i64 7) = some (.int .i64 ((a % 7 : Nat) : Int)) := by
  rw [ar_remI _ _ (by omega)]
  rfl
theorem l_text (n : Nat) (b : UInt8) (hn : n ≤ 1000) : PSpec Try.prog 25 [.int .i64 (n : Int), bv b] (.string ⟨⟨textW n b⟩⟩) := by
  refine pspec_of mix Try.func25 c25_eq rfl rfl fun w F Q S hQ => ?_
  (repeat (first|(with_reducible first|refine Ja ?_|refine Jb ?_|refine Jc ?_|refine Jd ?_|refine Je ?_|refine Jf ?_|refine Jg ?_|refine Jh ?_|refine Ji ?_|refine Jj ?_|refine Jk rfl ?_|refine Jl ?_|refine Jm ?_|refine Jn ?_|refine Jo ?_|refine Jp ?_|refine Jq ?_)|refine JA rfl ?_|refine JB rfl ?_|refine JC rfl ?_|refine JD rfl ?_|refine JE rfl ?_|refine JF rfl ?_|refine JG rfl ?_|refine JH rfl ?_|refine JI rfl ?_|refine J2 rfl ?_|refine J3 rfl ?_|refine J4 rfl ?_|refine J1 rfl ?_|refine J6 rfl ?_|refine J7 rfl ?_|refine JJ rfl ?_|refine JK rfl ?_|refine JQ rfl ?_|refine JL rfl rfl ?_|refine JM rfl rfl ?_|refine JN rfl ?_|refine JO rfl ?_|refine JP rfl ?_))
  refine s_loop (σ := Nat × Option Addr × Nat × List (Nat × Obj)) (fun t => [(6, .int .i64 (t.1 : Int)), (0, .int .i64 (n : Int)), (1, bv b), (5, .slice t.2.1 t.1 t.2.2.1)])
    (fun t w => t.1 ≤ n ∧ OwnB t.2.1 t.1 t.2.2.1 (textW t.1 b) t.2.2.2 ∧ Dn.Sep w t.2.2.2 F) (fun t => n - t.1) (0, none, 0, []) ⟨rfl, rfl, rfl, rfl, trivial⟩ rfl ⟨by simp, OwnS.nil, S⟩ ?_
  rintro g ⟨i, ad, cap, Lb⟩ w ⟨hi, hO, S⟩
  simp only [setL] at hi hO S ⊢
  (repeat (first|(with_reducible first|refine Ja ?_|refine Jb ?_|refine Jc ?_|refine Jd ?_|refine Je ?_|refine Jf ?_|refine Jg ?_|refine Jh ?_|refine Ji ?_|refine Jj ?_|refine Jk rfl ?_|refine Jl ?_|refine Jm ?_|refine Jn ?_|refine Jo ?_|refine Jp ?_|refine Jq ?_)|refine JA rfl ?_|refine JB rfl ?_|refine JC rfl ?_|refine JD rfl ?_|refine JE rfl ?_|refine JF rfl ?_|refine JG rfl ?_|refine JH rfl ?_|refine JI rfl ?_|refine J2 rfl ?_|refine J3 rfl ?_|refine J4 rfl ?_|refine J1 rfl ?_|refine J6 rfl ?_|refine J7 rfl ?_|refine JJ rfl ?_|refine JK rfl ?_|refine JQ rfl ?_|refine JL rfl rfl ?_|refine JM rfl rfl ?_|refine JN rfl ?_|refine JO rfl ?_|refine JP rfl ?_))
  refine s_iteD rfl (fun h => ?_) (fun h => ?_)
  · (repeat (with_reducible first|refine Ja ?_|refine Jb ?_|refine Jc ?_|refine Jd ?_|refine Je ?_|refine Jf ?_|refine Jg ?_|refine Jh ?_|refine Ji ?_|refine Jj ?_|refine Jk rfl ?_|refine Jl ?_|refine Jm ?_|refine Jn ?_|refine Jo ?_|refine Jp ?_|refine Jq ?_))
    refine e_mvL rfl ?_
    refine e_p (v := bv b) rfl ?_
    (repeat (first|(with_reducible first|refine Ja ?_|refine Jb ?_|refine Jc ?_|refine Jd ?_|refine Je ?_|refine Jf ?_|refine Jg ?_|refine Jh ?_|refine Ji ?_|refine Jj ?_|refine Jk rfl ?_|refine Jl ?_|refine Jm ?_|refine Jn ?_|refine Jo ?_|refine Jp ?_|refine Jq ?_)|refine JA rfl ?_|refine JB rfl ?_|refine JC rfl ?_|refine JD rfl ?_|refine JE rfl ?_|refine JF rfl ?_|refine JG rfl ?_|refine JH rfl ?_|refine JI rfl ?_|refine J2 rfl ?_|refine J3 rfl ?_|refine J4 rfl ?_|refine J1 rfl ?_|refine J6 rfl ?_|refine J7 rfl ?_|refine JJ rfl ?_|refine JK rfl ?_|refine JQ rfl ?_|refine JL rfl rfl ?_|refine JM rfl rfl ?_|refine JN rfl ?_|refine JO rfl ?_|refine JP rfl ?_))
    refine e_arv (r := .int .i64 ((i % 7 : Nat) : Int)) rfl rfl (ar_rem7 i) ?_
    refine e_p (v := bv (UInt8.ofNat (i % 7))) (by show some (Value.int .u8 (IntKind.u8.wrap ((i % 7 : Nat) : Int))) = _; rw [bv_wrap]) ?_
    refine e_arv rfl rfl (ar_add8 b (i % 7)) ?_
    refine e_push (L := []) (b := b + UInt8.ofNat (i % 7)) S hO rfl (fun _ => rfl) (fun _ => rfl) (by omega) fun _ ad' cap' Lb' w hO' S => ?_
    (repeat (with_reducible first|refine Ja ?_|refine Jb ?_|refine Jc ?_|refine Jd ?_|refine Je ?_|refine Jf ?_|refine Jg ?_|refine Jh ?_|refine Ji ?_|refine Jj ?_|refine Jk rfl ?_|refine Jl ?_|refine Jm ?_|refine Jn ?_|refine Jo ?_|refine Jp ?_|refine Jq ?_))
    refine e_mvL rfl ?_
    (repeat (first|(with_reducible first|refine Ja ?_|refine Jb ?_|refine Jc ?_|refine Jd ?_|refine Je ?_|refine Jf ?_|refine Jg ?_|refine Jh ?_|refine Ji ?_|refine Jj ?_|refine Jk rfl ?_|refine Jl ?_|refine Jm ?_|refine Jn ?_|refine Jo ?_|refine Jp ?_|refine Jq ?_)|refine JA rfl ?_|refine JB rfl ?_|refine JC rfl ?_|refine JD rfl ?_|refine JE rfl ?_|refine JF rfl ?_|refine JG rfl ?_|refine JH rfl ?_|refine JI rfl ?_|refine J2 rfl ?_|refine J3 rfl ?_|refine J4 rfl ?_|refine J1 rfl ?_|refine J6 rfl ?_|refine J7 rfl ?_|refine JJ rfl ?_|refine JK rfl ?_|refine JQ rfl ?_|refine JL rfl rfl ?_|refine JM rfl rfl ?_|refine JN rfl ?_|refine JO rfl ?_|refine JP rfl ?_))
    refine e_add (a := (i : Int)) (b := 1) rfl rfl (by omega) (by omega) ?_
    (repeat (first|(with_reducible first|refine Ja ?_|refine Jb ?_|refine Jc ?_|refine Jd ?_|refine Je ?_|refine Jf ?_|refine Jg ?_|refine Jh ?_|refine Ji ?_|refine Jj ?_|refine Jk rfl ?_|refine Jl ?_|refine Jm ?_|refine Jn ?_|refine Jo ?_|refine Jp ?_|refine Jq ?_)|refine JA rfl ?_|refine JB rfl ?_|refine JC rfl ?_|refine JD rfl ?_|refine JE rfl ?_|refine JF rfl ?_|refine JG rfl ?_|refine JH rfl ?_|refine JI rfl ?_|refine J2 rfl ?_|refine J3 rfl ?_|refine J4 rfl ?_|refine J1 rfl ?_|refine J6 rfl ?_|refine J7 rfl ?_|refine JJ rfl ?_|refine JK rfl ?_|refine JQ rfl ?_|refine JL rfl rfl ?_|refine JM rfl rfl ?_|refine JN rfl ?_|refine JO rfl ?_|refine JP rfl ?_))
    refine ⟨rfl, (i + 1, ad', cap', Lb'), ⟨rfl, rfl, rfl, rfl, trivial⟩, ⟨by simp; omega, ?_, S⟩, by simp; omega⟩
    have e : textW (i + 1) b = textW i b ++ [b + UInt8.ofNat (i % 7)] := by simp [textW, List.range_succ]
    simp only [e]; exact hO'
  · have hi' : i = n := by omega
    subst hi'
    (repeat (with_reducible first|refine Ja ?_|refine Jb ?_|refine Jc ?_|refine Jd ?_|refine Je ?_|refine Jf ?_|refine Jg ?_|refine Jh ?_|refine Ji ?_|refine Jj ?_|refine Jk rfl ?_|refine Jl ?_|refine Jm ?_|refine Jn ?_|refine Jo ?_|refine Jp ?_|refine Jq ?_))
    refine e_mvL rfl ?_
    refine e_b2s (own_str (L := []) hO S) ?_
    (repeat (first|(with_reducible first|refine Ja ?_|refine Jb ?_|refine Jc ?_|refine Jd ?_|refine Je ?_|refine Jf ?_|refine Jg ?_|refine Jh ?_|refine Ji ?_|refine Jj ?_|refine Jk rfl ?_|refine Jl ?_|refine Jm ?_|refine Jn ?_|refine Jo ?_|refine Jp ?_|refine Jq ?_)|refine JA rfl ?_|refine JB rfl ?_|refine JC rfl ?_|refine JD rfl ?_|refine JE rfl ?_|refine JF rfl ?_|refine JG rfl ?_|refine JH rfl ?_|refine JI rfl ?_|refine J2 rfl ?_|refine J3 rfl ?_|refine J4 rfl ?_|refine J1 rfl ?_|refine J6 rfl ?_|refine J7 rfl ?_|refine JJ rfl ?_|refine JK rfl ?_|refine JQ rfl ?_|refine JL rfl rfl ?_|refine JM rfl rfl ?_|refine JN rfl ?_|refine JO rfl ?_|refine JP rfl ?_))
    exact f_ret rfl rfl (hQ _ _ _ rfl S)

end Go.Proofs.Ytgendpinmmmfjaa

/-
  The walk of the laws' log.
-/
namespace Dn
open Go

theorem appW_okk {d : Int} {t : Tl} {g : Gn} {r : Sec} (hw : ∀ (s : Sh), s.ok → ∀ p b, (s.wrS p b).ok ∧ (s.wrS p b).cfg = s.cfg ∧ (s.wrS p b).q = s.q) : ∀ (k i : Nat) (s : Sh), s.ok → (appW d t g r k i s).2.ok ∧ (appW d t g r k i s).2.cfg = s.cfg ∧ (appW d t g r k i s).2.q = s.q := by
  intro k
  induction k with
  | zero => intro i s h; exact ⟨h, rfl, rfl⟩
  | succ k ih =>
    intro i s h
    obtain ⟨h1, h2, h3⟩ := hw s h (plW d (t.next + i)) (sealS (plW d (t.next + i)) g (payB t r i))
    simp only [appW]
    split
    · obtain ⟨k1, k2, k3⟩ := ih (i + 1) _ h1
      exact ⟨k1, k2.trans h2, k3.trans h3⟩
    · exact ⟨h1, h2, h3⟩
end Dn
namespace Go.Proofs.Ytgendpinmmmfjaa
open Dn
attribute [local irreducible] Evs Ev EvT DSpec PSpec CallTo
set_option maxRecDepth 10000
set_option maxHeartbeats 2000000

theorem append_ok {s : Sh} (h : s.ok) (d : Int) (t : Tl) (g : Gn) (r : Sec) : (appendW s d t g r).2.2.ok ∧ (appendW s d t g r).2.2.cfg = s.cfg ∧ (appendW s d t g r).2.2.q = s.q := by
  have := appW_okk (d := d) (t := t) (g := g) (r := r) (fun s h p b => wr_ok h p b) (sizeW r.length) 0 s h
  unfold appendW
  repeat' split
  all_goals first | exact ⟨h, rfl, rfl⟩ | exact this

theorem fresh_ok {s : Sh} {c : Cfg} (hc : c.ok) (h : ShFresh s c) : s.ok := by
  have ht : 0 ≤ c.total := by unfold Cfg.ok at hc; unfold Cfg.total; omega
  refine ⟨by rw [h.cfg]; exact hc, by rw [h.cfg]; exact h.len, by rw [h.fused]; simp, fun b hb => ?_, fun b hb => ?_⟩
  · obtain ⟨h1, h2, h3⟩ := (h.bay b hb).2
    refine ⟨fun x hx => ?_, fun e he => ?_⟩
    · rw [h1] at hx; rw [List.eq_of_mem_replicate hx]; rfl
    · rw [h2] at he; simp at he
  · obtain ⟨h1, h2, h3⟩ := (h.bay b hb).2
    rw [h1, h.cfg, List.length_replicate]; omega

def lawCfg (n : Int) : Cfg := ⟨2, 1, 1, 0, n + 3, 1⟩
theorem lawCfg_ok {n : Int} (h1 : 1 ≤ n) (h2 : n ≤ 40) : (lawCfg n).ok ∧ (lawCfg n).total ≤ 65536 := by
  unfold Cfg.ok lawCfg Cfg.total
  simp only
  refine ⟨⟨by omega, by omega, by omega, by omega, by omega, by omega, by decide⟩, by omega⟩

end Go.Proofs.Ytgendpinmmmfjaa

/-
  The walk of Mark.
-/
namespace Dn
open Go
def markP (s : Sh) (d n : Int) : Pl := plW d (s.cfg.log - 1 - n.tmod 3)
def markOK (s : Sh) (d n : Int) : Prop := ¬ (d < 0 ∨ d ≥ s.cfg.disks ∨ n < 1 ∨ n ≥ 4294967296 ∨ s.cfg.log < 3)
@[irreducible] instance markOKD (s : Sh) (d n : Int) : Decidable (markOK s d n) := by unfold markOK; infer_instance
/-- Mark: the error, and the shelf. -/
def markW (s : Sh) (d n : Int) : Int × Sh := if markOK s d n then (s.wrE (markP s d n) (sealS (markP s d n) ⟨n, 0⟩ []), s.wrS (markP s d n) (sealS (markP s d n) ⟨n, 0⟩ [])) else (1, s)
end Dn
namespace Go.Proofs.Ytgendpinmmmfjaa
open Dn
attribute [local irreducible] Evs Ev EvT DSpec PSpec CallTo
set_option maxRecDepth 10000
set_option maxHeartbeats 2000000

theorem w_mark (s : Sh) (d n : Int) (hs : s.ok) : DSpec Try.prog 23 [s.v, .int .i64 d, .int .i64 n] s.L fun v L => v = .int .i64 (markW s d n).1 ∧ L = (markW s d n).2.L := by
  refine spec_of mix Try.func23 c23_eq rfl rfl fun w F Q S hQ => ?_
  have hc := hs.cfg
  unfold Cfg.ok at hc
  have bad : ¬ markOK s d n → ∀ {w' : World} {X : List (Nat × Obj)}, Dn.Sep w' (X ++ s.L) F → Q (.int .i64 1) w' := fun h w' X S => hQ _ _ _ ⟨by unfold markW; rw [if_neg h], by unfold markW; rw [if_neg h]⟩ S.drop
  (repeat (first|(with_reducible first|refine Ja ?_|refine Jb ?_|refine Jc ?_|refine Jd ?_|refine Je ?_|refine Jf ?_|refine Jg ?_|refine Jh ?_|refine Ji ?_|refine Jj ?_|refine Jk rfl ?_|refine Jl ?_|refine Jm ?_|refine Jn ?_|refine Jo ?_|refine Jp ?_|refine Jq ?_)|refine JA rfl ?_|refine JB rfl ?_|refine JC rfl ?_|refine JD rfl ?_|refine JE rfl ?_|refine JF rfl ?_|refine JG rfl ?_|refine JH rfl ?_|refine JI rfl ?_|refine J2 rfl ?_|refine J3 rfl ?_|refine J4 rfl ?_|refine J1 rfl ?_|refine J6 rfl ?_|refine J7 rfl ?_|refine JJ rfl ?_|refine JK rfl ?_|refine JQ rfl ?_|refine JL rfl rfl ?_|refine JM rfl rfl ?_|refine JN rfl ?_|refine JO rfl ?_|refine JP rfl ?_))
  refine e_call (L2 := []) rfl (sh_config s) S ?_
  rintro _ _ w ⟨rfl, rfl⟩ S
  replace S : Dn.Sep w s.L F := S
  refine e_nw S fun b7 w S => ?_
  refine e_st (vs := s.cfg.v) S 0 rfl rfl rfl rfl (by simp [Cfg.v, Value.flat]) (by simp) fun w S => ?_
  replace S : Dn.Sep w ([(b7, .cells ⟨s.cfg.v⟩ 53)] ++ s.L) F := S
  (repeat (first|(with_reducible first|refine Ja ?_|refine Jb ?_|refine Jc ?_|refine Jd ?_|refine Je ?_|refine Jf ?_|refine Jg ?_|refine Jh ?_|refine Ji ?_|refine Jj ?_|refine Jk rfl ?_|refine Jl ?_|refine Jm ?_|refine Jn ?_|refine Jo ?_|refine Jp ?_|refine Jq ?_)|refine JA rfl ?_|refine JB rfl ?_|refine JC rfl ?_|refine JD rfl ?_|refine JE rfl ?_|refine JF rfl ?_|refine JG rfl ?_|refine JH rfl ?_|refine JI rfl ?_|refine J2 rfl ?_|refine J3 rfl ?_|refine J4 rfl ?_|refine J1 rfl ?_|refine J6 rfl ?_|refine J7 rfl ?_|refine JJ rfl ?_|refine JK rfl ?_|refine JQ rfl ?_|refine JL rfl rfl ?_|refine JM rfl rfl ?_|refine JN rfl ?_|refine JO rfl ?_|refine JP rfl ?_))
  refine e_brD rfl (fun h1 => ?_) (fun h1 => ?_)
  · (repeat (first|(with_reducible first|refine Ja ?_|refine Jb ?_|refine Jc ?_|refine Jd ?_|refine Je ?_|refine Jf ?_|refine Jg ?_|refine Jh ?_|refine Ji ?_|refine Jj ?_|refine Jk rfl ?_|refine Jl ?_|refine Jm ?_|refine Jn ?_|refine Jo ?_|refine Jp ?_|refine Jq ?_)|refine JA rfl ?_|refine JB rfl ?_|refine JC rfl ?_|refine JD rfl ?_|refine JE rfl ?_|refine JF rfl ?_|refine JG rfl ?_|refine JH rfl ?_|refine JI rfl ?_|refine J2 rfl ?_|refine J3 rfl ?_|refine J4 rfl ?_|refine J1 rfl ?_|refine J6 rfl ?_|refine J7 rfl ?_|refine JJ rfl ?_|refine JK rfl ?_|refine JQ rfl ?_|refine JL rfl rfl ?_|refine JM rfl rfl ?_|refine JN rfl ?_|refine JO rfl ?_|refine JP rfl ?_))
    exact f_ret rfl rfl (bad (by unfold markOK; omega) S)
  (repeat (first|(with_reducible first|refine Ja ?_|refine Jb ?_|refine Jc ?_|refine Jd ?_|refine Je ?_|refine Jf ?_|refine Jg ?_|refine Jh ?_|refine Ji ?_|refine Jj ?_|refine Jk rfl ?_|refine Jl ?_|refine Jm ?_|refine Jn ?_|refine Jo ?_|refine Jp ?_|refine Jq ?_)|refine JA rfl ?_|refine JB rfl ?_|refine JC rfl ?_|refine JD rfl ?_|refine JE rfl ?_|refine JF rfl ?_|refine JG rfl ?_|refine JH rfl ?_|refine JI rfl ?_|refine J2 rfl ?_|refine J3 rfl ?_|refine J4 rfl ?_|refine J1 rfl ?_|refine J6 rfl ?_|refine J7 rfl ?_|refine JJ rfl ?_|refine JK rfl ?_|refine JQ rfl ?_|refine JL rfl rfl ?_|refine JM rfl rfl ?_|refine JN rfl ?_|refine JO rfl ?_|refine JP rfl ?_))
  refine e_ld (S.cell 0 rfl rfl) ?_
  (repeat (first|(with_reducible first|refine Ja ?_|refine Jb ?_|refine Jc ?_|refine Jd ?_|refine Je ?_|refine Jf ?_|refine Jg ?_|refine Jh ?_|refine Ji ?_|refine Jj ?_|refine Jk rfl ?_|refine Jl ?_|refine Jm ?_|refine Jn ?_|refine Jo ?_|refine Jp ?_|refine Jq ?_)|refine JA rfl ?_|refine JB rfl ?_|refine JC rfl ?_|refine JD rfl ?_|refine JE rfl ?_|refine JF rfl ?_|refine JG rfl ?_|refine JH rfl ?_|refine JI rfl ?_|refine J2 rfl ?_|refine J3 rfl ?_|refine J4 rfl ?_|refine J1 rfl ?_|refine J6 rfl ?_|refine J7 rfl ?_|refine JJ rfl ?_|refine JK rfl ?_|refine JQ rfl ?_|refine JL rfl rfl ?_|refine JM rfl rfl ?_|refine JN rfl ?_|refine JO rfl ?_|refine JP rfl ?_))
  refine e_brD rfl (fun h2 => ?_) (fun h2 => ?_)
  · (repeat (first|(with_reducible first|refine Ja ?_|refine Jb ?_|refine Jc ?_|refine Jd ?_|refine Je ?_|refine Jf ?_|refine Jg ?_|refine Jh ?_|refine Ji ?_|refine Jj ?_|refine Jk rfl ?_|refine Jl ?_|refine Jm ?_|refine Jn ?_|refine Jo ?_|refine Jp ?_|refine Jq ?_)|refine JA rfl ?_|refine JB rfl ?_|refine JC rfl ?_|refine JD rfl ?_|refine JE rfl ?_|refine JF rfl ?_|refine JG rfl ?_|refine JH rfl ?_|refine JI rfl ?_|refine J2 rfl ?_|refine J3 rfl ?_|refine J4 rfl ?_|refine J1 rfl ?_|refine J6 rfl ?_|refine J7 rfl ?_|refine JJ rfl ?_|refine JK rfl ?_|refine JQ rfl ?_|refine JL rfl rfl ?_|refine JM rfl rfl ?_|refine JN rfl ?_|refine JO rfl ?_|refine JP rfl ?_))
    exact f_ret rfl rfl (bad (by unfold markOK; omega) S)
  (repeat (first|(with_reducible first|refine Ja ?_|refine Jb ?_|refine Jc ?_|refine Jd ?_|refine Je ?_|refine Jf ?_|refine Jg ?_|refine Jh ?_|refine Ji ?_|refine Jj ?_|refine Jk rfl ?_|refine Jl ?_|refine Jm ?_|refine Jn ?_|refine Jo ?_|refine Jp ?_|refine Jq ?_)|refine JA rfl ?_|refine JB rfl ?_|refine JC rfl ?_|refine JD rfl ?_|refine JE rfl ?_|refine JF rfl ?_|refine JG rfl ?_|refine JH rfl ?_|refine JI rfl ?_|refine J2 rfl ?_|refine J3 rfl ?_|refine J4 rfl ?_|refine J1 rfl ?_|refine J6 rfl ?_|refine J7 rfl ?_|refine JJ rfl ?_|refine JK rfl ?_|refine JQ rfl ?_|refine JL rfl rfl ?_|refine JM rfl rfl ?_|refine JN rfl ?_|refine JO rfl ?_|refine JP rfl ?_))
  refine e_brD rfl (fun h3 => ?_) (fun h3 => ?_)
  · (repeat (first|(with_reducible first|refine Ja ?_|refine Jb ?_|refine Jc ?_|refine Jd ?_|refine Je ?_|refine Jf ?_|refine Jg ?_|refine Jh ?_|refine Ji ?_|refine Jj ?_|refine Jk rfl ?_|refine Jl ?_|refine Jm ?_|refine Jn ?_|refine Jo ?_|refine Jp ?_|refine Jq ?_)|refine JA rfl ?_|refine JB rfl ?_|refine JC rfl ?_|refine JD rfl ?_|refine JE rfl ?_|refine JF rfl ?_|refine JG rfl ?_|refine JH rfl ?_|refine JI rfl ?_|refine J2 rfl ?_|refine J3 rfl ?_|refine J4 rfl ?_|refine J1 rfl ?_|refine J6 rfl ?_|refine J7 rfl ?_|refine JJ rfl ?_|refine JK rfl ?_|refine JQ rfl ?_|refine JL rfl rfl ?_|refine JM rfl rfl ?_|refine JN rfl ?_|refine JO rfl ?_|refine JP rfl ?_))
    exact f_ret rfl rfl (bad (by unfold markOK; omega) S)
  (repeat (first|(with_reducible first|refine Ja ?_|refine Jb ?_|refine Jc ?_|refine Jd ?_|refine Je ?_|refine Jf ?_|refine Jg ?_|refine Jh ?_|refine Ji ?_|refine Jj ?_|refine Jk rfl ?_|refine Jl ?_|refine Jm ?_|refine Jn ?_|refine Jo ?_|refine Jp ?_|refine Jq ?_)|refine JA rfl ?_|refine JB rfl ?_|refine JC rfl ?_|refine JD rfl ?_|refine JE rfl ?_|refine JF rfl ?_|refine JG rfl ?_|refine JH rfl ?_|refine JI rfl ?_|refine J2 rfl ?_|refine J3 rfl ?_|refine J4 rfl ?_|refine J1 rfl ?_|refine J6 rfl ?_|refine J7 rfl ?_|refine JJ rfl ?_|refine JK rfl ?_|refine JQ rfl ?_|refine JL rfl rfl ?_|refine JM rfl rfl ?_|refine JN rfl ?_|refine JO rfl ?_|refine JP rfl ?_))
  refine e_brD rfl (fun h4 => ?_) (fun h4 => ?_)
  · (repeat (first|(with_reducible first|refine Ja ?_|refine Jb ?_|refine Jc ?_|refine Jd ?_|refine Je ?_|refine Jf ?_|refine Jg ?_|refine Jh ?_|refine Ji ?_|refine Jj ?_|refine Jk rfl ?_|refine Jl ?_|refine Jm ?_|refine Jn ?_|refine Jo ?_|refine Jp ?_|refine Jq ?_)|refine JA rfl ?_|refine JB rfl ?_|refine JC rfl ?_|refine JD rfl ?_|refine JE rfl ?_|refine JF rfl ?_|refine JG rfl ?_|refine JH rfl ?_|refine JI rfl ?_|refine J2 rfl ?_|refine J3 rfl ?_|refine J4 rfl ?_|refine J1 rfl ?_|refine J6 rfl ?_|refine J7 rfl ?_|refine JJ rfl ?_|refine JK rfl ?_|refine JQ rfl ?_|refine JL rfl rfl ?_|refine JM rfl rfl ?_|refine JN rfl ?_|refine JO rfl ?_|refine JP rfl ?_))
    exact f_ret rfl rfl (bad (by unfold markOK; omega) S)
  (repeat (first|(with_reducible first|refine Ja ?_|refine Jb ?_|refine Jc ?_|refine Jd ?_|refine Je ?_|refine Jf ?_|refine Jg ?_|refine Jh ?_|refine Ji ?_|refine Jj ?_|refine Jk rfl ?_|refine Jl ?_|refine Jm ?_|refine Jn ?_|refine Jo ?_|refine Jp ?_|refine Jq ?_)|refine JA rfl ?_|refine JB rfl ?_|refine JC rfl ?_|refine JD rfl ?_|refine JE rfl ?_|refine JF rfl ?_|refine JG rfl ?_|refine JH rfl ?_|refine JI rfl ?_|refine J2 rfl ?_|refine J3 rfl ?_|refine J4 rfl ?_|refine J1 rfl ?_|refine J6 rfl ?_|refine J7 rfl ?_|refine JJ rfl ?_|refine JK rfl ?_|refine JQ rfl ?_|refine JL rfl rfl ?_|refine JM rfl rfl ?_|refine JN rfl ?_|refine JO rfl ?_|refine JP rfl ?_))
  refine e_ld (S.cell 0 rfl rfl) ?_
  (repeat (first|(with_reducible first|refine Ja ?_|refine Jb ?_|refine Jc ?_|refine Jd ?_|refine Je ?_|refine Jf ?_|refine Jg ?_|refine Jh ?_|refine Ji ?_|refine Jj ?_|refine Jk rfl ?_|refine Jl ?_|refine Jm ?_|refine Jn ?_|refine Jo ?_|refine Jp ?_|refine Jq ?_)|refine JA rfl ?_|refine JB rfl ?_|refine JC rfl ?_|refine JD rfl ?_|refine JE rfl ?_|refine JF rfl ?_|refine JG rfl ?_|refine JH rfl ?_|refine JI rfl ?_|refine J2 rfl ?_|refine J3 rfl ?_|refine J4 rfl ?_|refine J1 rfl ?_|refine J6 rfl ?_|refine J7 rfl ?_|refine JJ rfl ?_|refine JK rfl ?_|refine JQ rfl ?_|refine JL rfl rfl ?_|refine JM rfl rfl ?_|refine JN rfl ?_|refine JO rfl ?_|refine JP rfl ?_))
  refine s_iteD rfl (fun h5 => ?_) (fun h5 => ?_)
  · (repeat (first|(with_reducible first|refine Ja ?_|refine Jb ?_|refine Jc ?_|refine Jd ?_|refine Je ?_|refine Jf ?_|refine Jg ?_|refine Jh ?_|refine Ji ?_|refine Jj ?_|refine Jk rfl ?_|refine Jl ?_|refine Jm ?_|refine Jn ?_|refine Jo ?_|refine Jp ?_|refine Jq ?_)|refine JA rfl ?_|refine JB rfl ?_|refine JC rfl ?_|refine JD rfl ?_|refine JE rfl ?_|refine JF rfl ?_|refine JG rfl ?_|refine JH rfl ?_|refine JI rfl ?_|refine J2 rfl ?_|refine J3 rfl ?_|refine J4 rfl ?_|refine J1 rfl ?_|refine J6 rfl ?_|refine J7 rfl ?_|refine JJ rfl ?_|refine JK rfl ?_|refine JQ rfl ?_|refine JL rfl rfl ?_|refine JM rfl rfl ?_|refine JN rfl ?_|refine JO rfl ?_|refine JP rfl ?_))
    exact f_ret rfl rfl (bad (by unfold markOK; omega) S)
  have hok : markOK s d n := by unfold markOK; omega
  have hm : 0 ≤ n.tmod 3 ∧ n.tmod 3 < 3 := by rw [Int.tmod_eq_emod_of_nonneg (by omega)]; omega
  (repeat (first|(with_reducible first|refine Ja ?_|refine Jb ?_|refine Jc ?_|refine Jd ?_|refine Je ?_|refine Jf ?_|refine Jg ?_|refine Jh ?_|refine Ji ?_|refine Jj ?_|refine Jk rfl ?_|refine Jl ?_|refine Jm ?_|refine Jn ?_|refine Jo ?_|refine Jp ?_|refine Jq ?_)|refine JA rfl ?_|refine JB rfl ?_|refine JC rfl ?_|refine JD rfl ?_|refine JE rfl ?_|refine JF rfl ?_|refine JG rfl ?_|refine JH rfl ?_|refine JI rfl ?_|refine J2 rfl ?_|refine J3 rfl ?_|refine J4 rfl ?_|refine J1 rfl ?_|refine J6 rfl ?_|refine J7 rfl ?_|refine JJ rfl ?_|refine JK rfl ?_|refine JQ rfl ?_|refine JL rfl rfl ?_|refine JM rfl rfl ?_|refine JN rfl ?_|refine JO rfl ?_|refine JP rfl ?_))
  refine e_ld (S.cell 0 rfl rfl) ?_
  refine e_sub (a := s.cfg.log) (b := 1) rfl rfl (by omega) (by omega) ?_
  (repeat (first|(with_reducible first|refine Ja ?_|refine Jb ?_|refine Jc ?_|refine Jd ?_|refine Je ?_|refine Jf ?_|refine Jg ?_|refine Jh ?_|refine Ji ?_|refine Jj ?_|refine Jk rfl ?_|refine Jl ?_|refine Jm ?_|refine Jn ?_|refine Jo ?_|refine Jp ?_|refine Jq ?_)|refine JA rfl ?_|refine JB rfl ?_|refine JC rfl ?_|refine JD rfl ?_|refine JE rfl ?_|refine JF rfl ?_|refine JG rfl ?_|refine JH rfl ?_|refine JI rfl ?_|refine J2 rfl ?_|refine J3 rfl ?_|refine J4 rfl ?_|refine J1 rfl ?_|refine J6 rfl ?_|refine J7 rfl ?_|refine JJ rfl ?_|refine JK rfl ?_|refine JQ rfl ?_|refine JL rfl rfl ?_|refine JM rfl rfl ?_|refine JN rfl ?_|refine JO rfl ?_|refine JP rfl ?_))
  refine e_arv rfl rfl (ar_remI n 3 (by omega)) ?_
  refine e_sub (a := s.cfg.log - 1) (b := n.tmod 3) rfl rfl (by omega) (by omega) ?_
  (repeat (first|(with_reducible first|refine Ja ?_|refine Jb ?_|refine Jc ?_|refine Jd ?_|refine Je ?_|refine Jf ?_|refine Jg ?_|refine Jh ?_|refine Ji ?_|refine Jj ?_|refine Jk rfl ?_|refine Jl ?_|refine Jm ?_|refine Jn ?_|refine Jo ?_|refine Jp ?_|refine Jq ?_)|refine JA rfl ?_|refine JB rfl ?_|refine JC rfl ?_|refine JD rfl ?_|refine JE rfl ?_|refine JF rfl ?_|refine JG rfl ?_|refine JH rfl ?_|refine JI rfl ?_|refine J2 rfl ?_|refine J3 rfl ?_|refine J4 rfl ?_|refine J1 rfl ?_|refine J6 rfl ?_|refine J7 rfl ?_|refine JJ rfl ?_|refine JK rfl ?_|refine JQ rfl ?_|refine JL rfl rfl ?_|refine JM rfl rfl ?_|refine JN rfl ?_|refine JO rfl ?_|refine JP rfl ?_))
  refine e_nw S fun b8 w S => ?_
  refine e_st (vs := (markP s d n).v) S 0 rfl rfl rfl rfl (by simp [Pl.v, Value.flat]) (by simp) fun w S => ?_
  replace S : Dn.Sep w ([(b8, .cells ⟨(markP s d n).v⟩ 46), (b7, .cells ⟨s.cfg.v⟩ 53)] ++ s.L) F := S
  (repeat (first|(with_reducible first|refine Ja ?_|refine Jb ?_|refine Jc ?_|refine Jd ?_|refine Je ?_|refine Jf ?_|refine Jg ?_|refine Jh ?_|refine Ji ?_|refine Jj ?_|refine Jk rfl ?_|refine Jl ?_|refine Jm ?_|refine Jn ?_|refine Jo ?_|refine Jp ?_|refine Jq ?_)|refine JA rfl ?_|refine JB rfl ?_|refine JC rfl ?_|refine JD rfl ?_|refine JE rfl ?_|refine JF rfl ?_|refine JG rfl ?_|refine JH rfl ?_|refine JI rfl ?_|refine J2 rfl ?_|refine J3 rfl ?_|refine J4 rfl ?_|refine J1 rfl ?_|refine J6 rfl ?_|refine J7 rfl ?_|refine JJ rfl ?_|refine JK rfl ?_|refine JQ rfl ?_|refine JL rfl rfl ?_|refine JM rfl rfl ?_|refine JN rfl ?_|refine JO rfl ?_|refine JP rfl ?_))
  refine e_ld (v := .agg ⟨(markP s d n).v⟩) (S.row 0 rfl (by simp [Pl.v]) rfl) ?_
  (repeat (first|(with_reducible first|refine Ja ?_|refine Jb ?_|refine Jc ?_|refine Jd ?_|refine Je ?_|refine Jf ?_|refine Jg ?_|refine Jh ?_|refine Ji ?_|refine Jj ?_|refine Jk rfl ?_|refine Jl ?_|refine Jm ?_|refine Jn ?_|refine Jo ?_|refine Jp ?_|refine Jq ?_)|refine JA rfl ?_|refine JB rfl ?_|refine JC rfl ?_|refine JD rfl ?_|refine JE rfl ?_|refine JF rfl ?_|refine JG rfl ?_|refine JH rfl ?_|refine JI rfl ?_|refine J2 rfl ?_|refine J3 rfl ?_|refine J4 rfl ?_|refine J1 rfl ?_|refine J6 rfl ?_|refine J7 rfl ?_|refine JJ rfl ?_|refine JK rfl ?_|refine JQ rfl ?_|refine JL rfl rfl ?_|refine JM rfl rfl ?_|refine JN rfl ?_|refine JO rfl ?_|refine JP rfl ?_))
  have hp : (markP s d n).ok := by unfold markP plW Pl.ok; simp only; omega
  have hg : (⟨n, 0⟩ : Gn).ok := by unfold Gn.ok Gn.ok0; simp only; omega
  have hseal := sec_seal (markP s d n) ⟨n, 0⟩ []
  unfold sealV at hseal
  rw [if_pos ⟨hp, hg, by simp⟩] at hseal
  refine e_callP rfl hseal S fun w S => ?_
  (repeat (first|(with_reducible first|refine Ja ?_|refine Jb ?_|refine Jc ?_|refine Jd ?_|refine Je ?_|refine Jf ?_|refine Jg ?_|refine Jh ?_|refine Ji ?_|refine Jj ?_|refine Jk rfl ?_|refine Jl ?_|refine Jm ?_|refine Jn ?_|refine Jo ?_|refine Jp ?_|refine Jq ?_)|refine JA rfl ?_|refine JB rfl ?_|refine JC rfl ?_|refine JD rfl ?_|refine JE rfl ?_|refine JF rfl ?_|refine JG rfl ?_|refine JH rfl ?_|refine JI rfl ?_|refine J2 rfl ?_|refine J3 rfl ?_|refine J4 rfl ?_|refine J1 rfl ?_|refine J6 rfl ?_|refine J7 rfl ?_|refine JJ rfl ?_|refine JK rfl ?_|refine JQ rfl ?_|refine JL rfl rfl ?_|refine JM rfl rfl ?_|refine JN rfl ?_|refine JO rfl ?_|refine JP rfl ?_))
  refine e_ld (v := .agg ⟨(markP s d n).v⟩) (S.row 0 rfl (by simp [Pl.v]) rfl) ?_
  (repeat (first|(with_reducible first|refine Ja ?_|refine Jb ?_|refine Jc ?_|refine Jd ?_|refine Je ?_|refine Jf ?_|refine Jg ?_|refine Jh ?_|refine Ji ?_|refine Jj ?_|refine Jk rfl ?_|refine Jl ?_|refine Jm ?_|refine Jn ?_|refine Jo ?_|refine Jp ?_|refine Jq ?_)|refine JA rfl ?_|refine JB rfl ?_|refine JC rfl ?_|refine JD rfl ?_|refine JE rfl ?_|refine JF rfl ?_|refine JG rfl ?_|refine JH rfl ?_|refine JI rfl ?_|refine J2 rfl ?_|refine J3 rfl ?_|refine J4 rfl ?_|refine J1 rfl ?_|refine J6 rfl ?_|refine J7 rfl ?_|refine JJ rfl ?_|refine JK rfl ?_|refine JQ rfl ?_|refine JL rfl rfl ?_|refine JM rfl rfl ?_|refine JN rfl ?_|refine JO rfl ?_|refine JP rfl ?_))
  refine e_call (L2 := [_, _]) rfl (sh_write s (markP s d n) (sealS (markP s d n) ⟨n, 0⟩ []) hs) S ?_
  rintro _ _ w ⟨rfl, rfl⟩ S
  (repeat (first|(with_reducible first|refine Ja ?_|refine Jb ?_|refine Jc ?_|refine Jd ?_|refine Je ?_|refine Jf ?_|refine Jg ?_|refine Jh ?_|refine Ji ?_|refine Jj ?_|refine Jk rfl ?_|refine Jl ?_|refine Jm ?_|refine Jn ?_|refine Jo ?_|refine Jp ?_|refine Jq ?_)|refine JA rfl ?_|refine JB rfl ?_|refine JC rfl ?_|refine JD rfl ?_|refine JE rfl ?_|refine JF rfl ?_|refine JG rfl ?_|refine JH rfl ?_|refine JI rfl ?_|refine J2 rfl ?_|refine J3 rfl ?_|refine J4 rfl ?_|refine J1 rfl ?_|refine J6 rfl ?_|refine J7 rfl ?_|refine JJ rfl ?_|refine JK rfl ?_|refine JQ rfl ?_|refine JL rfl rfl ?_|refine JM rfl rfl ?_|refine JN rfl ?_|refine JO rfl ?_|refine JP rfl ?_))
  exact f_ret rfl rfl (hQ _ _ _ ⟨congrArg (Value.int .i64) (by unfold markW; rw [if_pos hok]), by unfold markW; rw [if_pos hok]⟩ (Sep.drop (L2 := [_, _]) S))

end Go.Proofs.Ytgendpinmmmfjaa
