/- The law WalRestarts holds of every input: the call returns true and leaves its arguments as they were. -/
import Derived.Test.YtgendpinmmmfjaaBaseB5
import Derived.Test.YtgendpinmmmfjaaRows
set_option linter.unusedVariables false
set_option linter.unusedSimpArgs false
/-
  The walk of WalSeparate.
-/
namespace Go.Proofs.Ytgendpinmmmfjaa
open Dn
attribute [local irreducible] Evs Ev EvT DSpec PSpec CallTo
set_option maxRecDepth 100000
set_option maxHeartbeats 4000000

theorem app_v {s : Sh} (h : s.ok) (d : Int) (t : Tl) (g : Gn) (r : Sec) : (appendW s d t g r).2.2.v = s.v := by
  simp only [Sh.v, (append_ok h d t g r).2.2]
theorem OwnT.fslI {ad : Option Addr} {n cap : Nat} {l : List Sec} {Lb L2 L1 : List (Nat × Obj)} {w : World} {F : Fr} (h : OwnT ad n cap l Lb) (S : Dn.Sep w (L2 ++ L1) F) (hs : ∀ x ∈ Lb, x ∈ L2) : FSl (F.add L2) ad (l.map strV) := OwnS.fsl h S hs
theorem OwnT.len {ad : Option Addr} {n cap : Nat} {l : List Sec} {Lb : List (Nat × Obj)} (h : OwnT ad n cap l Lb) : l.length = n := by
  have := OwnS.len h
  simpa using this

theorem law_separate (size : Int) (ad : Option Addr) (cap : Nat) (l : List Sec) (o : Sec) (hb : l.length < 4611686018427387904) (hr : ∀ r ∈ l, r.length < 4611686018427387904) (ho : o.length < 4611686018427387904) :
    DSpecF Try.prog 5 [.int .i64 size, .slice ad l.length cap, .string ⟨⟨o⟩⟩] [] (fun F => FSl F ad (l.map strV)) fun v _ => v = .bool true := by
  refine specF_of mix Try.func5 c5_eq rfl rfl fun w F Q hF S hQ => ?_
  (repeat (first|(with_reducible first|refine Ja ?_|refine Jb ?_|refine Jc ?_|refine Jd ?_|refine Je ?_|refine Jf ?_|refine Jg ?_|refine Jh ?_|refine Ji ?_|refine Jj ?_|refine Jk rfl ?_|refine Jl ?_|refine Jm ?_|refine Jn ?_|refine Jo ?_|refine Jp ?_|refine Jq ?_)|refine JA rfl ?_|refine JB rfl ?_|refine JC rfl ?_|refine JD rfl ?_|refine JE rfl ?_|refine JF rfl ?_|refine JG rfl ?_|refine JH rfl ?_|refine JI rfl ?_|refine J2 rfl ?_|refine J3 rfl ?_|refine J4 rfl ?_|refine J1 rfl ?_|refine J6 rfl ?_|refine J7 rfl ?_|refine JJ rfl ?_|refine JK rfl ?_|refine JQ rfl ?_|refine JL rfl rfl ?_|refine JM rfl rfl ?_|refine JN rfl ?_|refine JO rfl ?_|refine JP rfl ?_))
  refine e_brD rfl (fun h1 => ?_) (fun h1 => ?_)
  · (repeat (first|(with_reducible first|refine Ja ?_|refine Jb ?_|refine Jc ?_|refine Jd ?_|refine Je ?_|refine Jf ?_|refine Jg ?_|refine Jh ?_|refine Ji ?_|refine Jj ?_|refine Jk rfl ?_|refine Jl ?_|refine Jm ?_|refine Jn ?_|refine Jo ?_|refine Jp ?_|refine Jq ?_)|refine JA rfl ?_|refine JB rfl ?_|refine JC rfl ?_|refine JD rfl ?_|refine JE rfl ?_|refine JF rfl ?_|refine JG rfl ?_|refine JH rfl ?_|refine JI rfl ?_|refine J2 rfl ?_|refine J3 rfl ?_|refine J4 rfl ?_|refine J1 rfl ?_|refine J6 rfl ?_|refine J7 rfl ?_|refine JJ rfl ?_|refine JK rfl ?_|refine JQ rfl ?_|refine JL rfl rfl ?_|refine JM rfl rfl ?_|refine JN rfl ?_|refine JO rfl ?_|refine JP rfl ?_))
    refine e_callP rfl l_sanity S fun w S => ?_
    (repeat (first|(with_reducible first|refine Ja ?_|refine Jb ?_|refine Jc ?_|refine Jd ?_|refine Je ?_|refine Jf ?_|refine Jg ?_|refine Jh ?_|refine Ji ?_|refine Jj ?_|refine Jk rfl ?_|refine Jl ?_|refine Jm ?_|refine Jn ?_|refine Jo ?_|refine Jp ?_|refine Jq ?_)|refine JA rfl ?_|refine JB rfl ?_|refine JC rfl ?_|refine JD rfl ?_|refine JE rfl ?_|refine JF rfl ?_|refine JG rfl ?_|refine JH rfl ?_|refine JI rfl ?_|refine J2 rfl ?_|refine J3 rfl ?_|refine J4 rfl ?_|refine J1 rfl ?_|refine J6 rfl ?_|refine J7 rfl ?_|refine JJ rfl ?_|refine JK rfl ?_|refine JQ rfl ?_|refine JL rfl rfl ?_|refine JM rfl rfl ?_|refine JN rfl ?_|refine JO rfl ?_|refine JP rfl ?_))
    exact f_ret rfl rfl (hQ _ _ _ rfl S)
  (repeat (first|(with_reducible first|refine Ja ?_|refine Jb ?_|refine Jc ?_|refine Jd ?_|refine Je ?_|refine Jf ?_|refine Jg ?_|refine Jh ?_|refine Ji ?_|refine Jj ?_|refine Jk rfl ?_|refine Jl ?_|refine Jm ?_|refine Jn ?_|refine Jo ?_|refine Jp ?_|refine Jq ?_)|refine JA rfl ?_|refine JB rfl ?_|refine JC rfl ?_|refine JD rfl ?_|refine JE rfl ?_|refine JF rfl ?_|refine JG rfl ?_|refine JH rfl ?_|refine JI rfl ?_|refine J2 rfl ?_|refine J3 rfl ?_|refine J4 rfl ?_|refine J1 rfl ?_|refine J6 rfl ?_|refine J7 rfl ?_|refine JJ rfl ?_|refine JK rfl ?_|refine JQ rfl ?_|refine JL rfl rfl ?_|refine JM rfl rfl ?_|refine JN rfl ?_|refine JO rfl ?_|refine JP rfl ?_))
  refine e_brD rfl (fun h2 => ?_) (fun h2 => ?_)
  · (repeat (first|(with_reducible first|refine Ja ?_|refine Jb ?_|refine Jc ?_|refine Jd ?_|refine Je ?_|refine Jf ?_|refine Jg ?_|refine Jh ?_|refine Ji ?_|refine Jj ?_|refine Jk rfl ?_|refine Jl ?_|refine Jm ?_|refine Jn ?_|refine Jo ?_|refine Jp ?_|refine Jq ?_)|refine JA rfl ?_|refine JB rfl ?_|refine JC rfl ?_|refine JD rfl ?_|refine JE rfl ?_|refine JF rfl ?_|refine JG rfl ?_|refine JH rfl ?_|refine JI rfl ?_|refine J2 rfl ?_|refine J3 rfl ?_|refine J4 rfl ?_|refine J1 rfl ?_|refine J6 rfl ?_|refine J7 rfl ?_|refine JJ rfl ?_|refine JK rfl ?_|refine JQ rfl ?_|refine JL rfl rfl ?_|refine JM rfl rfl ?_|refine JN rfl ?_|refine JO rfl ?_|refine JP rfl ?_))
    refine e_callP rfl l_sanity S fun w S => ?_
    (repeat (first|(with_reducible first|refine Ja ?_|refine Jb ?_|refine Jc ?_|refine Jd ?_|refine Je ?_|refine Jf ?_|refine Jg ?_|refine Jh ?_|refine Ji ?_|refine Jj ?_|refine Jk rfl ?_|refine Jl ?_|refine Jm ?_|refine Jn ?_|refine Jo ?_|refine Jp ?_|refine Jq ?_)|refine JA rfl ?_|refine JB rfl ?_|refine JC rfl ?_|refine JD rfl ?_|refine JE rfl ?_|refine JF rfl ?_|refine JG rfl ?_|refine JH rfl ?_|refine JI rfl ?_|refine J2 rfl ?_|refine J3 rfl ?_|refine J4 rfl ?_|refine J1 rfl ?_|refine J6 rfl ?_|refine J7 rfl ?_|refine JJ rfl ?_|refine JK rfl ?_|refine JQ rfl ?_|refine JL rfl rfl ?_|refine JM rfl rfl ?_|refine JN rfl ?_|refine JO rfl ?_|refine JP rfl ?_))
    exact f_ret rfl rfl (hQ _ _ _ rfl S)
  (repeat (with_reducible first|refine Ja ?_|refine Jb ?_|refine Jc ?_|refine Jd ?_|refine Je ?_|refine Jf ?_|refine Jg ?_|refine Jh ?_|refine Ji ?_|refine Jj ?_|refine Jk rfl ?_|refine Jl ?_|refine Jm ?_|refine Jn ?_|refine Jo ?_|refine Jp ?_|refine Jq ?_))
  refine e_gdT rfl ?_
  refine e_mvL rfl ?_
  refine e_gdT rfl ?_
  refine e_p (v := .int .i64 ((l.length : Nat) : Int)) rfl ?_
  (repeat (first|(with_reducible first|refine Ja ?_|refine Jb ?_|refine Jc ?_|refine Jd ?_|refine Je ?_|refine Jf ?_|refine Jg ?_|refine Jh ?_|refine Ji ?_|refine Jj ?_|refine Jk rfl ?_|refine Jl ?_|refine Jm ?_|refine Jn ?_|refine Jo ?_|refine Jp ?_|refine Jq ?_)|refine JA rfl ?_|refine JB rfl ?_|refine JC rfl ?_|refine JD rfl ?_|refine JE rfl ?_|refine JF rfl ?_|refine JG rfl ?_|refine JH rfl ?_|refine JI rfl ?_|refine J2 rfl ?_|refine J3 rfl ?_|refine J4 rfl ?_|refine J1 rfl ?_|refine J6 rfl ?_|refine J7 rfl ?_|refine JJ rfl ?_|refine JK rfl ?_|refine JQ rfl ?_|refine JL rfl rfl ?_|refine JM rfl rfl ?_|refine JN rfl ?_|refine JO rfl ?_|refine JP rfl ?_))
  refine s_iteD rfl (fun h3 => ?_) (fun h3 => ?_)
  · (repeat (first|(with_reducible first|refine Ja ?_|refine Jb ?_|refine Jc ?_|refine Jd ?_|refine Je ?_|refine Jf ?_|refine Jg ?_|refine Jh ?_|refine Ji ?_|refine Jj ?_|refine Jk rfl ?_|refine Jl ?_|refine Jm ?_|refine Jn ?_|refine Jo ?_|refine Jp ?_|refine Jq ?_)|refine JA rfl ?_|refine JB rfl ?_|refine JC rfl ?_|refine JD rfl ?_|refine JE rfl ?_|refine JF rfl ?_|refine JG rfl ?_|refine JH rfl ?_|refine JI rfl ?_|refine J2 rfl ?_|refine J3 rfl ?_|refine J4 rfl ?_|refine J1 rfl ?_|refine J6 rfl ?_|refine J7 rfl ?_|refine JJ rfl ?_|refine JK rfl ?_|refine JQ rfl ?_|refine JL rfl rfl ?_|refine JM rfl rfl ?_|refine JN rfl ?_|refine JO rfl ?_|refine JP rfl ?_))
    refine e_callP rfl l_sanity S fun w S => ?_
    (repeat (first|(with_reducible first|refine Ja ?_|refine Jb ?_|refine Jc ?_|refine Jd ?_|refine Je ?_|refine Jf ?_|refine Jg ?_|refine Jh ?_|refine Ji ?_|refine Jj ?_|refine Jk rfl ?_|refine Jl ?_|refine Jm ?_|refine Jn ?_|refine Jo ?_|refine Jp ?_|refine Jq ?_)|refine JA rfl ?_|refine JB rfl ?_|refine JC rfl ?_|refine JD rfl ?_|refine JE rfl ?_|refine JF rfl ?_|refine JG rfl ?_|refine JH rfl ?_|refine JI rfl ?_|refine J2 rfl ?_|refine J3 rfl ?_|refine J4 rfl ?_|refine J1 rfl ?_|refine J6 rfl ?_|refine J7 rfl ?_|refine JJ rfl ?_|refine JK rfl ?_|refine JQ rfl ?_|refine JL rfl rfl ?_|refine JM rfl rfl ?_|refine JN rfl ?_|refine JO rfl ?_|refine JP rfl ?_))
    exact f_ret rfl rfl (hQ _ _ _ rfl S)
  have hl : l.length ≤ 40 := by omega
  (repeat (first|(with_reducible first|refine Ja ?_|refine Jb ?_|refine Jc ?_|refine Jd ?_|refine Je ?_|refine Jf ?_|refine Jg ?_|refine Jh ?_|refine Ji ?_|refine Jj ?_|refine Jk rfl ?_|refine Jl ?_|refine Jm ?_|refine Jn ?_|refine Jo ?_|refine Jp ?_|refine Jq ?_)|refine JA rfl ?_|refine JB rfl ?_|refine JC rfl ?_|refine JD rfl ?_|refine JE rfl ?_|refine JF rfl ?_|refine JG rfl ?_|refine JH rfl ?_|refine JI rfl ?_|refine J2 rfl ?_|refine J3 rfl ?_|refine J4 rfl ?_|refine J1 rfl ?_|refine J6 rfl ?_|refine J7 rfl ?_|refine JJ rfl ?_|refine JK rfl ?_|refine JQ rfl ?_|refine JL rfl rfl ?_|refine JM rfl rfl ?_|refine JN rfl ?_|refine JO rfl ?_|refine JP rfl ?_))
  refine e_callF (L2 := []) (L1 := []) rfl (l_log2 size ad cap l (by omega) (by omega) hl hr) S (by simpa using hF.add (L2 := []) S) ?_
  rintro _ _ w ⟨s, n, adt, capt, Lt, adi, capi, Li, hL, rfl, rfl, hOt, hOi⟩ S
  replace S : Dn.Sep w (s.L ++ (Lt ++ Li)) F := S
  replace S : Dn.Sep w ((Lt ++ Li) ++ s.L) F := S.perm List.perm_append_comm
  refine e_mvT rfl ?_
  refine e_p (v := s.v) rfl ?_
  refine e_p (v := .slice adt (n + 1) capt) rfl ?_
  refine e_p (v := .slice adi n capi) rfl ?_
  refine e_p (v := s.v) rfl ?_
  refine e_mvL rfl ?_
  refine e_mvL rfl ?_
  (repeat (first|(with_reducible first|refine Ja ?_|refine Jb ?_|refine Jc ?_|refine Jd ?_|refine Je ?_|refine Jf ?_|refine Jg ?_|refine Jh ?_|refine Ji ?_|refine Jj ?_|refine Jk rfl ?_|refine Jl ?_|refine Jm ?_|refine Jn ?_|refine Jo ?_|refine Jp ?_|refine Jq ?_)|refine JA rfl ?_|refine JB rfl ?_|refine JC rfl ?_|refine JD rfl ?_|refine JE rfl ?_|refine JF rfl ?_|refine JG rfl ?_|refine JH rfl ?_|refine JI rfl ?_|refine J2 rfl ?_|refine J3 rfl ?_|refine J4 rfl ?_|refine J1 rfl ?_|refine J6 rfl ?_|refine J7 rfl ?_|refine JJ rfl ?_|refine JK rfl ?_|refine JQ rfl ?_|refine JL rfl rfl ?_|refine JM rfl rfl ?_|refine JN rfl ?_|refine JO rfl ?_|refine JP rfl ?_))
  have hle := hL.le
  have hsep := separate hL (by show (2 : Int) ≤ 2; omega) o
  have hap := w_append s 1 zT ⟨1, 0⟩ o hL.on.std.ok ho
  have hv := app_v hL.on.std.ok 1 zT ⟨1, 0⟩ o
  have hok := (append_ok hL.on.std.ok 1 zT ⟨1, 0⟩ o).1
  obtain ⟨A, hA⟩ : ∃ A, appendW s 1 zT ⟨1, 0⟩ o = A := ⟨_, rfl⟩
  rw [hA] at hsep hap hv hok
  obtain ⟨At, Ae, s'⟩ := A
  simp only at hsep hap hv hok
  obtain ⟨more, t1, hs0, hs1, hcase⟩ : ∃ more t1, scanFull s' 0 zT = (l.take n, tailAt l n, 0) ∧ scanFull s' 1 zT = (more, t1, 0) ∧ ((Ae ≠ 0 ∧ more = []) ∨ (Ae = 0 ∧ more = [o])) := by
    rcases hsep with ⟨k1, k2, t, k3⟩ | ⟨k1, k2, t, k3⟩
    · exact ⟨[], t, k2, k3, .inl ⟨k1, rfl⟩⟩
    · exact ⟨[o], t, k2, k3, .inr ⟨k1, rfl⟩⟩
  refine e_call (L2 := Lt ++ Li) rfl hap S ?_
  rintro _ _ w ⟨rfl, rfl⟩ S
  refine e_mvT rfl ?_
  refine e_p (v := .agg ⟨At.v⟩) rfl ?_
  refine e_p (v := .int .i64 Ae) rfl ?_
  refine e_nwE S (cs' := zT.v) rfl fun b10 w S => ?_
  refine e_st (vs := At.v) S 0 rfl rfl rfl rfl (by simp [Tl.v, Value.flat]) (by simp [zT, Tl.v]) fun w S => ?_
  replace S : Dn.Sep w ((Lt ++ Li) ++ s'.L) F := Sep.drop (L2 := [_]) S
  (repeat (first|(with_reducible first|refine Ja ?_|refine Jb ?_|refine Jc ?_|refine Jd ?_|refine Je ?_|refine Jf ?_|refine Jg ?_|refine Jh ?_|refine Ji ?_|refine Jj ?_|refine Jk rfl ?_|refine Jl ?_|refine Jm ?_|refine Jn ?_|refine Jo ?_|refine Jp ?_|refine Jq ?_)|refine JA rfl ?_|refine JB rfl ?_|refine JC rfl ?_|refine JD rfl ?_|refine JE rfl ?_|refine JF rfl ?_|refine JG rfl ?_|refine JH rfl ?_|refine JI rfl ?_|refine J2 rfl ?_|refine J3 rfl ?_|refine J4 rfl ?_|refine J1 rfl ?_|refine J6 rfl ?_|refine J7 rfl ?_|refine JJ rfl ?_|refine JK rfl ?_|refine JQ rfl ?_|refine JL rfl rfl ?_|refine JM rfl rfl ?_|refine JN rfl ?_|refine JO rfl ?_|refine JP rfl ?_))
  have hsc0 := w_scan s' 0 zT hok
  rw [hs0, hv] at hsc0
  have e1 : (l.take n).length = n := by simp; omega
  simp only [e1] at hsc0
  refine e_call (L2 := Lt ++ Li) rfl hsc0 S ?_
  rintro _ _ w ⟨ado, capo, Lo, rfl, rfl, hOo⟩ S
  refine e_mvT rfl ?_
  refine e_p (v := .slice ado n capo) rfl ?_
  refine e_p (v := .agg ⟨(tailAt l n).v⟩) rfl ?_
  refine e_p (v := .int .i64 0) rfl ?_
  refine e_nwE S (cs' := zT.v) rfl fun b13 w S => ?_
  refine e_mvL rfl ?_
  refine e_st (vs := (tailAt l n).v) S 0 rfl rfl rfl rfl (by simp [Tl.v, Value.flat]) (by simp [zT, Tl.v]) fun w S => ?_
  refine e_mvI rfl ?_
  replace S : Dn.Sep w ([(b13, .cells ⟨(tailAt l n).v⟩ 31)] ++ ((Lt ++ Li) ++ (s'.L ++ Lo))) F := S
  obtain ⟨XS, hXS⟩ : ∃ XS, [(b13, Obj.cells ⟨(tailAt l n).v⟩ 31)] ++ ((Lt ++ Li) ++ Lo) = XS := ⟨_, rfl⟩
  replace S : Dn.Sep w (XS ++ s'.L) F := by
    rw [← hXS, List.append_assoc, List.append_assoc]
    exact S.perm ((List.Perm.refl _).append ((List.Perm.refl _).append List.perm_append_comm))
  have hb13 : (b13, Obj.cells ⟨(tailAt l n).v⟩ 31) ∈ XS := by rw [← hXS]; simp
  have hLt : ∀ x ∈ Lt, x ∈ XS := by intro x hx; rw [← hXS]; simp [hx]
  have hLi : ∀ x ∈ Li, x ∈ XS := by intro x hx; rw [← hXS]; simp [hx]
  have hLo : ∀ x ∈ Lo, x ∈ XS := by intro x hx; rw [← hXS]; simp [hx]
  clear hXS
  (repeat (first|(with_reducible first|refine Ja ?_|refine Jb ?_|refine Jc ?_|refine Jd ?_|refine Je ?_|refine Jf ?_|refine Jg ?_|refine Jh ?_|refine Ji ?_|refine Jj ?_|refine Jk rfl ?_|refine Jl ?_|refine Jm ?_|refine Jn ?_|refine Jo ?_|refine Jp ?_|refine Jq ?_)|refine JA rfl ?_|refine JB rfl ?_|refine JC rfl ?_|refine JD rfl ?_|refine JE rfl ?_|refine JF rfl ?_|refine JG rfl ?_|refine JH rfl ?_|refine JI rfl ?_|refine J2 rfl ?_|refine J3 rfl ?_|refine J4 rfl ?_|refine J1 rfl ?_|refine J6 rfl ?_|refine J7 rfl ?_|refine JJ rfl ?_|refine JK rfl ?_|refine JQ rfl ?_|refine JL rfl rfl ?_|refine JM rfl rfl ?_|refine JN rfl ?_|refine JO rfl ?_|refine JP rfl ?_))
  have hsc1 := w_scan s' 1 zT hok
  rw [hs1, hv] at hsc1
  refine e_call (L2 := XS) rfl hsc1 S ?_
  rintro _ _ w ⟨adm, capm, Lm, rfl, rfl, hOm⟩ S
  refine e_mvT rfl ?_
  refine e_p (v := .slice adm more.length capm) rfl ?_
  refine e_p (v := .agg ⟨t1.v⟩) rfl ?_
  refine e_p (v := .int .i64 0) rfl ?_
  refine e_nwE S (cs' := zT.v) rfl fun b16 w S => ?_
  refine e_mvL rfl ?_
  refine e_st (vs := t1.v) S 0 rfl rfl rfl rfl (by simp [Tl.v, Value.flat]) (by simp [zT, Tl.v]) fun w S => ?_
  refine e_mvI rfl ?_
  replace S : Dn.Sep w (XS ++ (s'.L ++ Lm)) F := Sep.drop (L2 := [_]) S
  (repeat (with_reducible first|refine Ja ?_|refine Jb ?_|refine Jc ?_|refine Jd ?_|refine Je ?_|refine Jf ?_|refine Jg ?_|refine Jh ?_|refine Ji ?_|refine Jj ?_|refine Jk rfl ?_|refine Jl ?_|refine Jm ?_|refine Jn ?_|refine Jo ?_|refine Jp ?_|refine Jq ?_))
  refine s_opsd ?_
  replace S := S.drew
  refine e_callP rfl l_sanity S fun w S => ?_
  (repeat (first|(with_reducible first|refine Ja ?_|refine Jb ?_|refine Jc ?_|refine Jd ?_|refine Je ?_|refine Jf ?_|refine Jg ?_|refine Jh ?_|refine Ji ?_|refine Jj ?_|refine Jk rfl ?_|refine Jl ?_|refine Jm ?_|refine Jn ?_|refine Jo ?_|refine Jp ?_|refine Jq ?_)|refine JA rfl ?_|refine JB rfl ?_|refine JC rfl ?_|refine JD rfl ?_|refine JE rfl ?_|refine JF rfl ?_|refine JG rfl ?_|refine JH rfl ?_|refine JI rfl ?_|refine J2 rfl ?_|refine J3 rfl ?_|refine J4 rfl ?_|refine J1 rfl ?_|refine J6 rfl ?_|refine J7 rfl ?_|refine JJ rfl ?_|refine JK rfl ?_|refine JQ rfl ?_|refine JL rfl rfl ?_|refine JM rfl rfl ?_|refine JN rfl ?_|refine JO rfl ?_|refine JP rfl ?_))
  have hmem : ∀ {x}, x ∈ XS → x ∈ XS ++ (s'.L ++ Lm) := fun h => List.mem_append_left _ h
  refine e_ld (v := .agg ⟨(tailAt l n).v⟩) (rowM S (ty := 31) (fr := (0, 0)) (cs := (tailAt l n).v) (hmem hb13) (by simp [Tl.v]) rfl) ?_
  refine e_gdT rfl ?_
  refine e_mvL rfl ?_
  refine e_gdT rfl ?_
  refine e_mvL rfl ?_
  refine e_gdT rfl ?_
  refine e_p (v := .int .i64 ((n : Int) + 1)) rfl ?_
  refine e_gdT rfl ?_
  refine e_sub (a := (n : Int) + 1) (b := 1) rfl rfl (by omega) (by omega) ?_
  rcases hOt.own with ⟨_, hcp, _⟩ | ⟨bt, sp, lo, hi0, rfl, hsp, hfr0, eLt⟩
  · have := hOt.le; omega
  have htl : ((List.range (n + 1)).map (tailAt l)).length = n + 1 := by simp
  refine e_gdT rfl ?_
  refine e_ixa rfl rfl (by omega) (by omega) ?_
  rw [show 0 + ((n : Int) + 1 - 1).toNat * 4 = n * 4 by omega]
  refine e_gdT rfl ?_
  refine e_ld (v := .agg ⟨(tailAt l n).v⟩) (rowM S (ty := 31) (fr := (lo, hi0)) (cs := ((List.range (n + 1)).map (tailAt l)).flatMap Tl.v ++ sp) (hmem (hLt _ (by rw [eLt]; exact List.mem_singleton.2 rfl))) (by rw [List.length_append, tls_len, htl]; omega) (by rw [tls_at _ _ (by rw [htl]; omega)]; simp)) ?_
  refine e_gdT rfl ?_
  refine e_p (eqc_tl (p := tailAt l n) (q := tailAt l n) rfl rfl) ?_
  rw [decide_eq_true rfl]
  (repeat (with_reducible first|refine Ja ?_|refine Jb ?_|refine Jc ?_|refine Jd ?_|refine Je ?_|refine Jf ?_|refine Jg ?_|refine Jh ?_|refine Ji ?_|refine Jj ?_|refine Jk rfl ?_|refine Jl ?_|refine Jm ?_|refine Jn ?_|refine Jo ?_|refine Jp ?_|refine Jq ?_))
  refine e_pkTB rfl rfl ?_
  refine e_mvB rfl ?_
  refine e_gdT rfl ?_
  refine e_mvL rfl ?_
  refine e_gdT rfl ?_
  refine e_mvL rfl ?_
  refine e_gdT rfl ?_
  have hsame := l_same ado adi capo capi (l.take n) (l.take n) (by omega)
  rw [e1] at hsame
  refine e_callFN rfl hsame S ?_ ?_
  · have S' : Dn.Sep w ((XS ++ (s'.L ++ Lm)) ++ []) F := by simpa using S
    exact ⟨hOo.fsl S' (fun x hx => hmem (hLo x hx)), hOi.fsl S' (fun x hx => hmem (hLi x hx))⟩
  rintro _ _ w ⟨rfl, rfl⟩ S
  rw [decide_eq_true rfl]
  replace S : Dn.Sep w (XS ++ (s'.L ++ Lm)) F := by simpa using S
  rcases hcase with ⟨k1, rfl⟩ | ⟨rfl, rfl⟩
  · (repeat (with_reducible first|refine Ja ?_|refine Jb ?_|refine Jc ?_|refine Jd ?_|refine Je ?_|refine Jf ?_|refine Jg ?_|refine Jh ?_|refine Ji ?_|refine Jj ?_|refine Jk rfl ?_|refine Jl ?_|refine Jm ?_|refine Jn ?_|refine Jo ?_|refine Jp ?_|refine Jq ?_))
    refine e_pkTB rfl rfl ?_
    refine e_mvB rfl ?_
    refine e_gdT rfl ?_
    refine e_mvI rfl ?_
    refine e_gdT rfl ?_
    refine e_p (v := .bool true) rfl ?_
    refine e_pkTB rfl rfl ?_
    refine e_mvB rfl ?_
    refine e_gdT rfl ?_
    refine e_mvI rfl ?_
    refine e_gdT rfl ?_
    refine e_p (cmp_neqD rfl rfl) ?_
    rw [decide_eq_false k1]
    refine e_gdT rfl ?_
    refine e_mvB (b := true) rfl ?_
    refine e_gdT rfl ?_
    refine e_mvL rfl ?_
    refine e_gdT rfl ?_
    refine e_p (v := .int .i64 0) rfl ?_
    refine e_gdT rfl ?_
    refine e_p (v := .bool true) rfl ?_
    (repeat (first|(with_reducible first|refine Ja ?_|refine Jb ?_|refine Jc ?_|refine Jd ?_|refine Je ?_|refine Jf ?_|refine Jg ?_|refine Jh ?_|refine Ji ?_|refine Jj ?_|refine Jk rfl ?_|refine Jl ?_|refine Jm ?_|refine Jn ?_|refine Jo ?_|refine Jp ?_|refine Jq ?_)|refine JA rfl ?_|refine JB rfl ?_|refine JC rfl ?_|refine JD rfl ?_|refine JE rfl ?_|refine JF rfl ?_|refine JG rfl ?_|refine JH rfl ?_|refine JI rfl ?_|refine J2 rfl ?_|refine J3 rfl ?_|refine J4 rfl ?_|refine J1 rfl ?_|refine J6 rfl ?_|refine J7 rfl ?_|refine JJ rfl ?_|refine JK rfl ?_|refine JQ rfl ?_|refine JL rfl rfl ?_|refine JM rfl rfl ?_|refine JN rfl ?_|refine JO rfl ?_|refine JP rfl ?_))
    exact f_ret rfl rfl (hQ _ _ _ rfl S)
  · have hOm1 : OwnT adm 1 capm [o] Lm := hOm
    (repeat (first|(with_reducible first|refine Ja ?_|refine Jb ?_|refine Jc ?_|refine Jd ?_|refine Je ?_|refine Jf ?_|refine Jg ?_|refine Jh ?_|refine Ji ?_|refine Jj ?_|refine Jk rfl ?_|refine Jl ?_|refine Jm ?_|refine Jn ?_|refine Jo ?_|refine Jp ?_|refine Jq ?_)|refine JA rfl ?_|refine JB rfl ?_|refine JC rfl ?_|refine JD rfl ?_|refine JE rfl ?_|refine JF rfl ?_|refine JG rfl ?_|refine JH rfl ?_|refine JI rfl ?_|refine J2 rfl ?_|refine J3 rfl ?_|refine J4 rfl ?_|refine J1 rfl ?_|refine J6 rfl ?_|refine J7 rfl ?_|refine JJ rfl ?_|refine JK rfl ?_|refine JQ rfl ?_|refine JL rfl rfl ?_|refine JM rfl rfl ?_|refine JN rfl ?_|refine JO rfl ?_|refine JP rfl ?_))
    refine e_bsl (size := 1) (xs := [strV o]) S Try.underlying22 rfl rfl ⟨_, rfl⟩ (by omega) (by omega) (fun zs hz => (match zs, hz with | [u], _ => rfl)) fun bs w S => ?_
    have hO2 : OwnT (some ⟨bs, 0, none⟩) 1 1 [o] [(bs, .cells ⟨[strV o]⟩ 9)] := OwnS.row (xs := [o].map strV) rfl
    refine e_gdT rfl ?_
    refine e_callFN rfl (l_same adm (some ⟨bs, 0, none⟩) capm 1 [o] [o] (by simp)) S ?_ ?_
    · have S' : Dn.Sep w (((XS ++ (s'.L ++ Lm)) ++ [(bs, Obj.cells ⟨[strV o]⟩ 9)]) ++ []) F := by simpa using S
      exact ⟨hOm1.fslI S' (fun x hx => by simp [hx]), hO2.fslI S' (fun x hx => by simp at hx; simp [hx])⟩
    rintro _ _ w ⟨rfl, rfl⟩ S
    rw [decide_eq_true rfl]
    (repeat (first|(with_reducible first|refine Ja ?_|refine Jb ?_|refine Jc ?_|refine Jd ?_|refine Je ?_|refine Jf ?_|refine Jg ?_|refine Jh ?_|refine Ji ?_|refine Jj ?_|refine Jk rfl ?_|refine Jl ?_|refine Jm ?_|refine Jn ?_|refine Jo ?_|refine Jp ?_|refine Jq ?_)|refine JA rfl ?_|refine JB rfl ?_|refine JC rfl ?_|refine JD rfl ?_|refine JE rfl ?_|refine JF rfl ?_|refine JG rfl ?_|refine JH rfl ?_|refine JI rfl ?_|refine J2 rfl ?_|refine J3 rfl ?_|refine J4 rfl ?_|refine J1 rfl ?_|refine J6 rfl ?_|refine J7 rfl ?_|refine JJ rfl ?_|refine JK rfl ?_|refine JQ rfl ?_|refine JL rfl rfl ?_|refine JM rfl rfl ?_|refine JN rfl ?_|refine JO rfl ?_|refine JP rfl ?_))
    exact f_ret rfl rfl (hQ _ _ _ rfl S)

end Go.Proofs.Ytgendpinmmmfjaa

/-
  The walk of WalRestarts.
-/
namespace Go.Proofs.Ytgendpinmmmfjaa
open Dn
attribute [local irreducible] Evs Ev EvT DSpec PSpec CallTo
set_option maxRecDepth 100000
set_option maxHeartbeats 4000000

theorem swap3 {α : Type} (X Y Z : List α) : ((X ++ Y) ++ Z).Perm ((X ++ Z) ++ Y) := perm_tail X Y Z

theorem law_restarts (size : Int) (ad : Option Addr) (cap : Nat) (l : List Sec) (ad2 : Option Addr) (cap2 : Nat) (m : List Sec) (hb : l.length < 4611686018427387904) (hr : ∀ r ∈ l, r.length < 4611686018427387904) (hb2 : m.length < 4611686018427387904) (hr2 : ∀ r ∈ m, r.length < 4611686018427387904) :
    DSpecF Try.prog 4 [.int .i64 size, .slice ad l.length cap, .slice ad2 m.length cap2] [] (fun F => FSl F ad (l.map strV) ∧ FSl F ad2 (m.map strV)) fun v _ => v = .bool true := by
  refine specF_of mix Try.func4 c4_eq rfl rfl fun w F Q ⟨hF, hF2⟩ S hQ => ?_
  (repeat (first|(with_reducible first|refine Ja ?_|refine Jb ?_|refine Jc ?_|refine Jd ?_|refine Je ?_|refine Jf ?_|refine Jg ?_|refine Jh ?_|refine Ji ?_|refine Jj ?_|refine Jk rfl ?_|refine Jl ?_|refine Jm ?_|refine Jn ?_|refine Jo ?_|refine Jp ?_|refine Jq ?_)|refine JA rfl ?_|refine JB rfl ?_|refine JC rfl ?_|refine JD rfl ?_|refine JE rfl ?_|refine JF rfl ?_|refine JG rfl ?_|refine JH rfl ?_|refine JI rfl ?_|refine J2 rfl ?_|refine J3 rfl ?_|refine J4 rfl ?_|refine J1 rfl ?_|refine J6 rfl ?_|refine J7 rfl ?_|refine JJ rfl ?_|refine JK rfl ?_|refine JQ rfl ?_|refine JL rfl rfl ?_|refine JM rfl rfl ?_|refine JN rfl ?_|refine JO rfl ?_|refine JP rfl ?_))
  refine e_brD rfl (fun h1 => ?_) (fun h1 => ?_)
  · (repeat (first|(with_reducible first|refine Ja ?_|refine Jb ?_|refine Jc ?_|refine Jd ?_|refine Je ?_|refine Jf ?_|refine Jg ?_|refine Jh ?_|refine Ji ?_|refine Jj ?_|refine Jk rfl ?_|refine Jl ?_|refine Jm ?_|refine Jn ?_|refine Jo ?_|refine Jp ?_|refine Jq ?_)|refine JA rfl ?_|refine JB rfl ?_|refine JC rfl ?_|refine JD rfl ?_|refine JE rfl ?_|refine JF rfl ?_|refine JG rfl ?_|refine JH rfl ?_|refine JI rfl ?_|refine J2 rfl ?_|refine J3 rfl ?_|refine J4 rfl ?_|refine J1 rfl ?_|refine J6 rfl ?_|refine J7 rfl ?_|refine JJ rfl ?_|refine JK rfl ?_|refine JQ rfl ?_|refine JL rfl rfl ?_|refine JM rfl rfl ?_|refine JN rfl ?_|refine JO rfl ?_|refine JP rfl ?_))
    refine e_callP rfl l_sanity S fun w S => ?_
    (repeat (first|(with_reducible first|refine Ja ?_|refine Jb ?_|refine Jc ?_|refine Jd ?_|refine Je ?_|refine Jf ?_|refine Jg ?_|refine Jh ?_|refine Ji ?_|refine Jj ?_|refine Jk rfl ?_|refine Jl ?_|refine Jm ?_|refine Jn ?_|refine Jo ?_|refine Jp ?_|refine Jq ?_)|refine JA rfl ?_|refine JB rfl ?_|refine JC rfl ?_|refine JD rfl ?_|refine JE rfl ?_|refine JF rfl ?_|refine JG rfl ?_|refine JH rfl ?_|refine JI rfl ?_|refine J2 rfl ?_|refine J3 rfl ?_|refine J4 rfl ?_|refine J1 rfl ?_|refine J6 rfl ?_|refine J7 rfl ?_|refine JJ rfl ?_|refine JK rfl ?_|refine JQ rfl ?_|refine JL rfl rfl ?_|refine JM rfl rfl ?_|refine JN rfl ?_|refine JO rfl ?_|refine JP rfl ?_))
    exact f_ret rfl rfl (hQ _ _ _ rfl S)
  (repeat (first|(with_reducible first|refine Ja ?_|refine Jb ?_|refine Jc ?_|refine Jd ?_|refine Je ?_|refine Jf ?_|refine Jg ?_|refine Jh ?_|refine Ji ?_|refine Jj ?_|refine Jk rfl ?_|refine Jl ?_|refine Jm ?_|refine Jn ?_|refine Jo ?_|refine Jp ?_|refine Jq ?_)|refine JA rfl ?_|refine JB rfl ?_|refine JC rfl ?_|refine JD rfl ?_|refine JE rfl ?_|refine JF rfl ?_|refine JG rfl ?_|refine JH rfl ?_|refine JI rfl ?_|refine J2 rfl ?_|refine J3 rfl ?_|refine J4 rfl ?_|refine J1 rfl ?_|refine J6 rfl ?_|refine J7 rfl ?_|refine JJ rfl ?_|refine JK rfl ?_|refine JQ rfl ?_|refine JL rfl rfl ?_|refine JM rfl rfl ?_|refine JN rfl ?_|refine JO rfl ?_|refine JP rfl ?_))
  refine e_brD rfl (fun h2 => ?_) (fun h2 => ?_)
  · (repeat (first|(with_reducible first|refine Ja ?_|refine Jb ?_|refine Jc ?_|refine Jd ?_|refine Je ?_|refine Jf ?_|refine Jg ?_|refine Jh ?_|refine Ji ?_|refine Jj ?_|refine Jk rfl ?_|refine Jl ?_|refine Jm ?_|refine Jn ?_|refine Jo ?_|refine Jp ?_|refine Jq ?_)|refine JA rfl ?_|refine JB rfl ?_|refine JC rfl ?_|refine JD rfl ?_|refine JE rfl ?_|refine JF rfl ?_|refine JG rfl ?_|refine JH rfl ?_|refine JI rfl ?_|refine J2 rfl ?_|refine J3 rfl ?_|refine J4 rfl ?_|refine J1 rfl ?_|refine J6 rfl ?_|refine J7 rfl ?_|refine JJ rfl ?_|refine JK rfl ?_|refine JQ rfl ?_|refine JL rfl rfl ?_|refine JM rfl rfl ?_|refine JN rfl ?_|refine JO rfl ?_|refine JP rfl ?_))
    refine e_callP rfl l_sanity S fun w S => ?_
    (repeat (first|(with_reducible first|refine Ja ?_|refine Jb ?_|refine Jc ?_|refine Jd ?_|refine Je ?_|refine Jf ?_|refine Jg ?_|refine Jh ?_|refine Ji ?_|refine Jj ?_|refine Jk rfl ?_|refine Jl ?_|refine Jm ?_|refine Jn ?_|refine Jo ?_|refine Jp ?_|refine Jq ?_)|refine JA rfl ?_|refine JB rfl ?_|refine JC rfl ?_|refine JD rfl ?_|refine JE rfl ?_|refine JF rfl ?_|refine JG rfl ?_|refine JH rfl ?_|refine JI rfl ?_|refine J2 rfl ?_|refine J3 rfl ?_|refine J4 rfl ?_|refine J1 rfl ?_|refine J6 rfl ?_|refine J7 rfl ?_|refine JJ rfl ?_|refine JK rfl ?_|refine JQ rfl ?_|refine JL rfl rfl ?_|refine JM rfl rfl ?_|refine JN rfl ?_|refine JO rfl ?_|refine JP rfl ?_))
    exact f_ret rfl rfl (hQ _ _ _ rfl S)
  (repeat (with_reducible first|refine Ja ?_|refine Jb ?_|refine Jc ?_|refine Jd ?_|refine Je ?_|refine Jf ?_|refine Jg ?_|refine Jh ?_|refine Ji ?_|refine Jj ?_|refine Jk rfl ?_|refine Jl ?_|refine Jm ?_|refine Jn ?_|refine Jo ?_|refine Jp ?_|refine Jq ?_))
  refine e_gdT rfl ?_
  refine e_mvL rfl ?_
  refine e_gdT rfl ?_
  refine e_p (v := .int .i64 ((l.length : Nat) : Int)) rfl ?_
  (repeat (first|(with_reducible first|refine Ja ?_|refine Jb ?_|refine Jc ?_|refine Jd ?_|refine Je ?_|refine Jf ?_|refine Jg ?_|refine Jh ?_|refine Ji ?_|refine Jj ?_|refine Jk rfl ?_|refine Jl ?_|refine Jm ?_|refine Jn ?_|refine Jo ?_|refine Jp ?_|refine Jq ?_)|refine JA rfl ?_|refine JB rfl ?_|refine JC rfl ?_|refine JD rfl ?_|refine JE rfl ?_|refine JF rfl ?_|refine JG rfl ?_|refine JH rfl ?_|refine JI rfl ?_|refine J2 rfl ?_|refine J3 rfl ?_|refine J4 rfl ?_|refine J1 rfl ?_|refine J6 rfl ?_|refine J7 rfl ?_|refine JJ rfl ?_|refine JK rfl ?_|refine JQ rfl ?_|refine JL rfl rfl ?_|refine JM rfl rfl ?_|refine JN rfl ?_|refine JO rfl ?_|refine JP rfl ?_))
  refine e_brD rfl (fun h3 => ?_) (fun h3 => ?_)
  · (repeat (first|(with_reducible first|refine Ja ?_|refine Jb ?_|refine Jc ?_|refine Jd ?_|refine Je ?_|refine Jf ?_|refine Jg ?_|refine Jh ?_|refine Ji ?_|refine Jj ?_|refine Jk rfl ?_|refine Jl ?_|refine Jm ?_|refine Jn ?_|refine Jo ?_|refine Jp ?_|refine Jq ?_)|refine JA rfl ?_|refine JB rfl ?_|refine JC rfl ?_|refine JD rfl ?_|refine JE rfl ?_|refine JF rfl ?_|refine JG rfl ?_|refine JH rfl ?_|refine JI rfl ?_|refine J2 rfl ?_|refine J3 rfl ?_|refine J4 rfl ?_|refine J1 rfl ?_|refine J6 rfl ?_|refine J7 rfl ?_|refine JJ rfl ?_|refine JK rfl ?_|refine JQ rfl ?_|refine JL rfl rfl ?_|refine JM rfl rfl ?_|refine JN rfl ?_|refine JO rfl ?_|refine JP rfl ?_))
    refine e_callP rfl l_sanity S fun w S => ?_
    (repeat (first|(with_reducible first|refine Ja ?_|refine Jb ?_|refine Jc ?_|refine Jd ?_|refine Je ?_|refine Jf ?_|refine Jg ?_|refine Jh ?_|refine Ji ?_|refine Jj ?_|refine Jk rfl ?_|refine Jl ?_|refine Jm ?_|refine Jn ?_|refine Jo ?_|refine Jp ?_|refine Jq ?_)|refine JA rfl ?_|refine JB rfl ?_|refine JC rfl ?_|refine JD rfl ?_|refine JE rfl ?_|refine JF rfl ?_|refine JG rfl ?_|refine JH rfl ?_|refine JI rfl ?_|refine J2 rfl ?_|refine J3 rfl ?_|refine J4 rfl ?_|refine J1 rfl ?_|refine J6 rfl ?_|refine J7 rfl ?_|refine JJ rfl ?_|refine JK rfl ?_|refine JQ rfl ?_|refine JL rfl rfl ?_|refine JM rfl rfl ?_|refine JN rfl ?_|refine JO rfl ?_|refine JP rfl ?_))
    exact f_ret rfl rfl (hQ _ _ _ rfl S)
  (repeat (with_reducible first|refine Ja ?_|refine Jb ?_|refine Jc ?_|refine Jd ?_|refine Je ?_|refine Jf ?_|refine Jg ?_|refine Jh ?_|refine Ji ?_|refine Jj ?_|refine Jk rfl ?_|refine Jl ?_|refine Jm ?_|refine Jn ?_|refine Jo ?_|refine Jp ?_|refine Jq ?_))
  refine e_gdT rfl ?_
  refine e_mvL rfl ?_
  refine e_gdT rfl ?_
  refine e_p (v := .int .i64 ((m.length : Nat) : Int)) rfl ?_
  (repeat (first|(with_reducible first|refine Ja ?_|refine Jb ?_|refine Jc ?_|refine Jd ?_|refine Je ?_|refine Jf ?_|refine Jg ?_|refine Jh ?_|refine Ji ?_|refine Jj ?_|refine Jk rfl ?_|refine Jl ?_|refine Jm ?_|refine Jn ?_|refine Jo ?_|refine Jp ?_|refine Jq ?_)|refine JA rfl ?_|refine JB rfl ?_|refine JC rfl ?_|refine JD rfl ?_|refine JE rfl ?_|refine JF rfl ?_|refine JG rfl ?_|refine JH rfl ?_|refine JI rfl ?_|refine J2 rfl ?_|refine J3 rfl ?_|refine J4 rfl ?_|refine J1 rfl ?_|refine J6 rfl ?_|refine J7 rfl ?_|refine JJ rfl ?_|refine JK rfl ?_|refine JQ rfl ?_|refine JL rfl rfl ?_|refine JM rfl rfl ?_|refine JN rfl ?_|refine JO rfl ?_|refine JP rfl ?_))
  refine s_iteD rfl (fun h4 => ?_) (fun h4 => ?_)
  · (repeat (first|(with_reducible first|refine Ja ?_|refine Jb ?_|refine Jc ?_|refine Jd ?_|refine Je ?_|refine Jf ?_|refine Jg ?_|refine Jh ?_|refine Ji ?_|refine Jj ?_|refine Jk rfl ?_|refine Jl ?_|refine Jm ?_|refine Jn ?_|refine Jo ?_|refine Jp ?_|refine Jq ?_)|refine JA rfl ?_|refine JB rfl ?_|refine JC rfl ?_|refine JD rfl ?_|refine JE rfl ?_|refine JF rfl ?_|refine JG rfl ?_|refine JH rfl ?_|refine JI rfl ?_|refine J2 rfl ?_|refine J3 rfl ?_|refine J4 rfl ?_|refine J1 rfl ?_|refine J6 rfl ?_|refine J7 rfl ?_|refine JJ rfl ?_|refine JK rfl ?_|refine JQ rfl ?_|refine JL rfl rfl ?_|refine JM rfl rfl ?_|refine JN rfl ?_|refine JO rfl ?_|refine JP rfl ?_))
    refine e_callP rfl l_sanity S fun w S => ?_
    (repeat (first|(with_reducible first|refine Ja ?_|refine Jb ?_|refine Jc ?_|refine Jd ?_|refine Je ?_|refine Jf ?_|refine Jg ?_|refine Jh ?_|refine Ji ?_|refine Jj ?_|refine Jk rfl ?_|refine Jl ?_|refine Jm ?_|refine Jn ?_|refine Jo ?_|refine Jp ?_|refine Jq ?_)|refine JA rfl ?_|refine JB rfl ?_|refine JC rfl ?_|refine JD rfl ?_|refine JE rfl ?_|refine JF rfl ?_|refine JG rfl ?_|refine JH rfl ?_|refine JI rfl ?_|refine J2 rfl ?_|refine J3 rfl ?_|refine J4 rfl ?_|refine J1 rfl ?_|refine J6 rfl ?_|refine J7 rfl ?_|refine JJ rfl ?_|refine JK rfl ?_|refine JQ rfl ?_|refine JL rfl rfl ?_|refine JM rfl rfl ?_|refine JN rfl ?_|refine JO rfl ?_|refine JP rfl ?_))
    exact f_ret rfl rfl (hQ _ _ _ rfl S)
  have hl : l.length ≤ 40 := by omega
  have hm : m.length ≤ 40 := by omega
  (repeat (first|(with_reducible first|refine Ja ?_|refine Jb ?_|refine Jc ?_|refine Jd ?_|refine Je ?_|refine Jf ?_|refine Jg ?_|refine Jh ?_|refine Ji ?_|refine Jj ?_|refine Jk rfl ?_|refine Jl ?_|refine Jm ?_|refine Jn ?_|refine Jo ?_|refine Jp ?_|refine Jq ?_)|refine JA rfl ?_|refine JB rfl ?_|refine JC rfl ?_|refine JD rfl ?_|refine JE rfl ?_|refine JF rfl ?_|refine JG rfl ?_|refine JH rfl ?_|refine JI rfl ?_|refine J2 rfl ?_|refine J3 rfl ?_|refine J4 rfl ?_|refine J1 rfl ?_|refine J6 rfl ?_|refine J7 rfl ?_|refine JJ rfl ?_|refine JK rfl ?_|refine JQ rfl ?_|refine JL rfl rfl ?_|refine JM rfl rfl ?_|refine JN rfl ?_|refine JO rfl ?_|refine JP rfl ?_))
  refine e_callF (L2 := []) (L1 := []) rfl (l_log2 size ad cap l (by omega) (by omega) hl hr) S (by simpa using hF.add (L2 := []) S) ?_
  rintro _ _ w ⟨s1, n, adt, capt, Lt, adi, capi, Li, hL, rfl, rfl, hOt, hOi⟩ S
  replace S : Dn.Sep w (s1.L ++ (Lt ++ Li)) F := S
  refine e_mvT rfl ?_
  refine e_p (v := s1.v) rfl ?_
  refine e_p (v := .slice adt (n + 1) capt) rfl ?_
  refine e_p (v := .slice adi n capi) rfl ?_
  refine e_p (v := s1.v) rfl ?_
  refine e_mvL rfl ?_
  refine e_mvL rfl ?_
  (repeat (first|(with_reducible first|refine Ja ?_|refine Jb ?_|refine Jc ?_|refine Jd ?_|refine Je ?_|refine Jf ?_|refine Jg ?_|refine Jh ?_|refine Ji ?_|refine Jj ?_|refine Jk rfl ?_|refine Jl ?_|refine Jm ?_|refine Jn ?_|refine Jo ?_|refine Jp ?_|refine Jq ?_)|refine JA rfl ?_|refine JB rfl ?_|refine JC rfl ?_|refine JD rfl ?_|refine JE rfl ?_|refine JF rfl ?_|refine JG rfl ?_|refine JH rfl ?_|refine JI rfl ?_|refine J2 rfl ?_|refine J3 rfl ?_|refine J4 rfl ?_|refine J1 rfl ?_|refine J6 rfl ?_|refine J7 rfl ?_|refine JJ rfl ?_|refine JK rfl ?_|refine JQ rfl ?_|refine JL rfl rfl ?_|refine JM rfl rfl ?_|refine JN rfl ?_|refine JO rfl ?_|refine JP rfl ?_))
  have hle := hL.le
  have hdk : (2 : Int) ≤ (lawCfg size).disks := by show (2 : Int) ≤ 2; omega
  rcases hOt.own with ⟨_, hcp, _⟩ | ⟨bt, sp, lo, hi0, rfl, hsp, hfr0, eLt⟩
  · have := hOt.le; omega
  have htl : ((List.range (n + 1)).map (tailAt l)).length = n + 1 := by simp
  refine e_sub (a := (n : Int) + 1) (b := 1) rfl rfl (by omega) (by omega) ?_
  refine e_ixa rfl rfl (by omega) (by omega) ?_
  rw [show 0 + ((n : Int) + 1 - 1).toNat * 4 = n * 4 by omega]
  refine e_ld (v := .agg ⟨(tailAt l n).v⟩) (rowM S (ty := 31) (fr := (lo, hi0)) (cs := ((List.range (n + 1)).map (tailAt l)).flatMap Tl.v ++ sp) (by rw [eLt]; simp) (by rw [List.length_append, tls_len, htl]; omega) (by rw [tls_at _ _ (by rw [htl]; omega)]; simp)) ?_
  obtain ⟨Y, hY⟩ : ∃ Y, Lt ++ Li = Y := ⟨_, rfl⟩
  rw [hY] at S
  clear hY
  replace S : Dn.Sep w (Y ++ s1.L) F := S.perm List.perm_append_comm
  refine e_nwE S (cs' := zT.v) rfl fun b10 w S => ?_
  refine e_st (vs := (tailAt l n).v) S 0 rfl rfl rfl rfl (by simp [Tl.v, Value.flat]) (by simp [zT, Tl.v]) fun w S => ?_
  (repeat (first|(with_reducible first|refine Ja ?_|refine Jb ?_|refine Jc ?_|refine Jd ?_|refine Je ?_|refine Jf ?_|refine Jg ?_|refine Jh ?_|refine Ji ?_|refine Jj ?_|refine Jk rfl ?_|refine Jl ?_|refine Jm ?_|refine Jn ?_|refine Jo ?_|refine Jp ?_|refine Jq ?_)|refine JA rfl ?_|refine JB rfl ?_|refine JC rfl ?_|refine JD rfl ?_|refine JE rfl ?_|refine JF rfl ?_|refine JG rfl ?_|refine JH rfl ?_|refine JI rfl ?_|refine J2 rfl ?_|refine J3 rfl ?_|refine J4 rfl ?_|refine J1 rfl ?_|refine J6 rfl ?_|refine J7 rfl ?_|refine JJ rfl ?_|refine JK rfl ?_|refine JQ rfl ?_|refine JL rfl rfl ?_|refine JM rfl rfl ?_|refine JN rfl ?_|refine JO rfl ?_|refine JP rfl ?_))
  refine e_st (vs := [.int .i64 0]) S 0 rfl rfl rfl rfl (by simp [Value.flat]) (by simp [putAt, Tl.v]) fun w S => ?_
  replace S : Dn.Sep w ((b10, .cells ⟨(from0 l n).v⟩ 31) :: (Y ++ s1.L)) F := S
  (repeat (first|(with_reducible first|refine Ja ?_|refine Jb ?_|refine Jc ?_|refine Jd ?_|refine Je ?_|refine Jf ?_|refine Jg ?_|refine Jh ?_|refine Ji ?_|refine Jj ?_|refine Jk rfl ?_|refine Jl ?_|refine Jm ?_|refine Jn ?_|refine Jo ?_|refine Jp ?_|refine Jq ?_)|refine JA rfl ?_|refine JB rfl ?_|refine JC rfl ?_|refine JD rfl ?_|refine JE rfl ?_|refine JF rfl ?_|refine JG rfl ?_|refine JH rfl ?_|refine JI rfl ?_|refine J2 rfl ?_|refine J3 rfl ?_|refine J4 rfl ?_|refine J1 rfl ?_|refine J6 rfl ?_|refine J7 rfl ?_|refine JJ rfl ?_|refine JK rfl ?_|refine JQ rfl ?_|refine JL rfl rfl ?_|refine JM rfl rfl ?_|refine JN rfl ?_|refine JO rfl ?_|refine JP rfl ?_))
  refine e_ld (v := .agg ⟨(from0 l n).v⟩) (S.row 0 rfl (by simp [Tl.v]) rfl) ?_
  refine e_nwE S (cs' := zT.v) rfl fun b11 w S => ?_
  refine e_st (vs := (from0 l n).v) S 0 rfl rfl rfl rfl (by simp [Tl.v, Value.flat]) (by simp [zT, Tl.v]) fun w S => ?_
  replace S : Dn.Sep w ((b11, .cells ⟨(tail2 l n m 0).v⟩ 31) :: (b10, .cells ⟨(from0 l n).v⟩ 31) :: (Y ++ s1.L)) F := S
  replace S : Dn.Sep w ((((b11, .cells ⟨(tail2 l n m 0).v⟩ 31) :: (b10, .cells ⟨(from0 l n).v⟩ 31) :: Y) ++ []) ++ s1.L) F := by simpa using S
  (repeat (with_reducible first|refine Ja ?_|refine Jb ?_|refine Jc ?_|refine Jd ?_|refine Je ?_|refine Jf ?_|refine Jg ?_|refine Jh ?_|refine Ji ?_|refine Jj ?_|refine Jk rfl ?_|refine Jl ?_|refine Jm ?_|refine Jn ?_|refine Jo ?_|refine Jp ?_|refine Jq ?_))
  refine e_mvL rfl ?_
  (repeat (with_reducible first|refine Jc ?_|refine Jd ?_|refine Je ?_|refine Jf ?_|refine Jg ?_|refine Jh ?_|refine Ji ?_|refine Jj ?_|refine Jk rfl ?_|refine Jl ?_|refine Jm ?_|refine Jn ?_|refine Jp ?_|refine Jq ?_))
  -- the loop
  refine s_cut (σ := Nat × Sh × Option Addr × Nat × List (Nat × Obj)) (fun q => [(7, s1.v), (10, .pointer (some ⟨b10, 0, none⟩)), (11, .pointer (some ⟨b11, 0, none⟩)), (12, .slice q.2.2.1 q.1 q.2.2.2.1)])
    (fun q w => Again q.2.1 s1 (lawCfg size) l n m q.1 ∧ q.2.1.v = s1.v ∧ OwnT q.2.2.1 q.1 q.2.2.2.1 (m.take q.1) q.2.2.2.2 ∧ Dn.Sep w ((((b11, .cells ⟨(tail2 l n m q.1).v⟩ 31) :: (b10, .cells ⟨(from0 l n).v⟩ 31) :: Y) ++ q.2.2.2.2) ++ q.2.1.L) F) ?_ ?_
  · (repeat (first|(with_reducible first|refine Ja ?_|refine Jb ?_|refine Jc ?_|refine Jd ?_|refine Je ?_|refine Jf ?_|refine Jg ?_|refine Jh ?_|refine Ji ?_|refine Jj ?_|refine Jk rfl ?_|refine Jl ?_|refine Jm ?_|refine Jn ?_|refine Jo ?_|refine Jp ?_|refine Jq ?_)|refine JA rfl ?_|refine JB rfl ?_|refine JC rfl ?_|refine JD rfl ?_|refine JE rfl ?_|refine JF rfl ?_|refine JG rfl ?_|refine JH rfl ?_|refine JI rfl ?_|refine J2 rfl ?_|refine J3 rfl ?_|refine J4 rfl ?_|refine J1 rfl ?_|refine J6 rfl ?_|refine J7 rfl ?_|refine JJ rfl ?_|refine JK rfl ?_|refine JQ rfl ?_|refine JL rfl rfl ?_|refine JM rfl rfl ?_|refine JN rfl ?_|refine JO rfl ?_|refine JP rfl ?_))
    refine s_loop (σ := Nat × Sh × Option Addr × Nat × List (Nat × Obj)) (fun q => [(13, .int .i64 (q.1 : Int)), (2, .slice ad2 m.length cap2), (7, s1.v), (10, .pointer (some ⟨b10, 0, none⟩)), (11, .pointer (some ⟨b11, 0, none⟩)), (12, .slice q.2.2.1 q.1 q.2.2.2.1)])
      (fun q w => Again q.2.1 s1 (lawCfg size) l n m q.1 ∧ q.2.1.v = s1.v ∧ OwnT q.2.2.1 q.1 q.2.2.2.1 (m.take q.1) q.2.2.2.2 ∧ Dn.Sep w ((((b11, .cells ⟨(tail2 l n m q.1).v⟩ 31) :: (b10, .cells ⟨(from0 l n).v⟩ 31) :: Y) ++ q.2.2.2.2) ++ q.2.1.L) F)
      (fun q => m.length - q.1) (0, s1, none, 0, []) ⟨rfl, rfl, rfl, rfl, rfl, rfl, trivial⟩ rfl ⟨again_zero hL m, rfl, OwnS.nil, S⟩ ?_
    rintro gg ⟨i, s, adq, capq, Lq⟩ w ⟨hA, hv, hO, S⟩
    simp only [setL] at hA hv hO S ⊢
    (repeat (with_reducible first|refine Ja ?_|refine Jb ?_|refine Jc ?_|refine Jd ?_|refine Je ?_|refine Jf ?_|refine Jg ?_|refine Jh ?_|refine Ji ?_|refine Jj ?_|refine Jk rfl ?_|refine Jl ?_|refine Jm ?_|refine Jn ?_|refine Jo ?_|refine Jp ?_|refine Jq ?_))
    refine e_mvI rfl ?_
    refine e_mvL rfl ?_
    refine e_p (v := .int .i64 ((m.length : Nat) : Int)) rfl ?_
    (repeat (first|(with_reducible first|refine Ja ?_|refine Jb ?_|refine Jc ?_|refine Jd ?_|refine Je ?_|refine Jf ?_|refine Jg ?_|refine Jh ?_|refine Ji ?_|refine Jj ?_|refine Jk rfl ?_|refine Jl ?_|refine Jm ?_|refine Jn ?_|refine Jo ?_|refine Jp ?_|refine Jq ?_)|refine JA rfl ?_|refine JB rfl ?_|refine JC rfl ?_|refine JD rfl ?_|refine JE rfl ?_|refine JF rfl ?_|refine JG rfl ?_|refine JH rfl ?_|refine JI rfl ?_|refine J2 rfl ?_|refine J3 rfl ?_|refine J4 rfl ?_|refine J1 rfl ?_|refine J6 rfl ?_|refine J7 rfl ?_|refine JJ rfl ?_|refine JK rfl ?_|refine JQ rfl ?_|refine JL rfl rfl ?_|refine JM rfl rfl ?_|refine JN rfl ?_|refine JO rfl ?_|refine JP rfl ?_))
    refine s_iteD rfl (fun h => ?_) (fun h => ?_)
    rotate_left
    · (repeat (first|(with_reducible first|refine Ja ?_|refine Jb ?_|refine Jc ?_|refine Jd ?_|refine Je ?_|refine Jf ?_|refine Jg ?_|refine Jh ?_|refine Ji ?_|refine Jj ?_|refine Jk rfl ?_|refine Jl ?_|refine Jm ?_|refine Jn ?_|refine Jo ?_|refine Jp ?_|refine Jq ?_)|refine JA rfl ?_|refine JB rfl ?_|refine JC rfl ?_|refine JD rfl ?_|refine JE rfl ?_|refine JF rfl ?_|refine JG rfl ?_|refine JH rfl ?_|refine JI rfl ?_|refine J2 rfl ?_|refine J3 rfl ?_|refine J4 rfl ?_|refine J1 rfl ?_|refine J6 rfl ?_|refine J7 rfl ?_|refine JJ rfl ?_|refine JK rfl ?_|refine JQ rfl ?_|refine JL rfl rfl ?_|refine JM rfl rfl ?_|refine JN rfl ?_|refine JO rfl ?_|refine JP rfl ?_))
      exact ⟨rfl, (i, s, adq, capq, Lq), ⟨rfl, rfl, rfl, rfl, trivial⟩, hA, hv, hO, S⟩
    have hi : i < m.length := by omega
    have hstep := again_step hle hA (by omega) (by omega) hi
    have hap := w_append s 0 (tail2 l n m i) ⟨2, (i : Int)⟩ m[i] hA.on.std.ok (hr2 _ (List.getElem_mem hi))
    have hv' := app_v hA.on.std.ok 0 (tail2 l n m i) ⟨2, (i : Int)⟩ m[i]
    obtain ⟨A, hAA⟩ : ∃ A, appendW s 0 (tail2 l n m i) ⟨2, (i : Int)⟩ m[i] = A := ⟨_, rfl⟩
    rw [hAA] at hstep hap hv'
    rw [hv] at hap
    obtain ⟨ba, off, rfl, hcell⟩ := hF2 i _ (strV_get hi)
    (repeat (with_reducible first|refine Jc ?_|refine Jd ?_|refine Je ?_|refine Jf ?_|refine Jg ?_|refine Jh ?_|refine Ji ?_|refine Jj ?_|refine Jk rfl ?_|refine Jl ?_|refine Jm ?_|refine Jn ?_|refine Jp ?_|refine Jq ?_))
    refine s_seq ?_
    (repeat (with_reducible first|refine Jc ?_|refine Jd ?_|refine Je ?_|refine Jf ?_|refine Jg ?_|refine Jh ?_|refine Ji ?_|refine Jj ?_|refine Jk rfl ?_|refine Jl ?_|refine Jm ?_|refine Jn ?_|refine Jp ?_|refine Jq ?_))
    refine s_cut (σ := Nat) (fun b14 => [(14, .pointer (some ⟨b14, 0, none⟩)), (15, .int .i64 A.2.1), (13, .int .i64 (i : Int)), (2, .slice (some ⟨ba, off, none⟩) m.length cap2), (7, s1.v), (10, .pointer (some ⟨b10, 0, none⟩)), (11, .pointer (some ⟨b11, 0, none⟩)), (12, .slice adq i capq)])
      (fun b14 w => Dn.Sep w ((b14, .cells ⟨A.1.v⟩ 31) :: ((((b11, .cells ⟨(tail2 l n m i).v⟩ 31) :: (b10, .cells ⟨(from0 l n).v⟩ 31) :: Y) ++ Lq) ++ A.2.2.L)) F) ?_ ?_
    · (repeat (with_reducible first|refine Ja ?_|refine Jb ?_|refine Jc ?_|refine Jd ?_|refine Je ?_|refine Jf ?_|refine Jg ?_|refine Jh ?_|refine Ji ?_|refine Jj ?_|refine Jk rfl ?_|refine Jl ?_|refine Jm ?_|refine Jn ?_|refine Jo ?_|refine Jp ?_|refine Jq ?_))
      replace S := S.drew
      repeat' first
        | (with_reducible refine t_alt ?_ ?_)
        | (refine e_ld (v := .agg ⟨(tail2 l n m i).v⟩) (S.row 0 rfl (by simp [Tl.v]) rfl) ?_)
        | (refine e_mvL rfl ?_)
        | (refine e_ixa rfl rfl (by omega) (by omega) ?_
           rw [show off + (i : Int).toNat * 1 = off + i by omega]
           refine e_nil (t_ins ?_)
           refine e_ld (v := strV m[i]) (S.fc hcell) ?_)
        | (refine e_call (L2 := _ ++ Lq) rfl hap S ?_
           rintro _ _ w ⟨rfl, rfl⟩ S)
        | (refine e_call (L2 := (_ :: _) ++ Lq) rfl hap S ?_
           rintro _ _ w ⟨rfl, rfl⟩ S)
        | (refine e_nwE S (cs' := zT.v) rfl fun b14 w S => ?_)
        | (refine e_st (vs := A.1.v) S 0 rfl rfl rfl rfl (by simp [Tl.v, Value.flat]) (by simp [zT, Tl.v]) fun w S => ?_)
        | (refine e_p (v := .agg ⟨A.1.v⟩) rfl ?_)
        | (refine e_p (v := .int .i64 A.2.1) rfl ?_)
        | (first|(with_reducible first|refine Ja ?_|refine Jb ?_|refine Jc ?_|refine Jd ?_|refine Je ?_|refine Jf ?_|refine Jg ?_|refine Jh ?_|refine Ji ?_|refine Jj ?_|refine Jk rfl ?_|refine Jl ?_|refine Jm ?_|refine Jn ?_|refine Jo ?_|refine Jp ?_|refine Jq ?_)|refine JA rfl ?_|refine JB rfl ?_|refine JC rfl ?_|refine JD rfl ?_|refine JE rfl ?_|refine JF rfl ?_|refine JG rfl ?_|refine JH rfl ?_|refine JI rfl ?_|refine J2 rfl ?_|refine J3 rfl ?_|refine J4 rfl ?_|refine J1 rfl ?_|refine J6 rfl ?_|refine J7 rfl ?_|refine JJ rfl ?_|refine JK rfl ?_|refine JQ rfl ?_|refine JL rfl rfl ?_|refine JM rfl rfl ?_|refine JN rfl ?_|refine JO rfl ?_|refine JP rfl ?_)
      all_goals exact ⟨rfl, _, ⟨rfl, rfl, rfl, rfl, rfl, rfl, rfl, rfl, trivial⟩, S⟩
    rintro gg2 b14 w S
    simp only [setL]
    (repeat (with_reducible first|refine Ja ?_|refine Jb ?_|refine Jc ?_|refine Jd ?_|refine Je ?_|refine Jf ?_|refine Jg ?_|refine Jh ?_|refine Ji ?_|refine Jj ?_|refine Jk rfl ?_|refine Jl ?_|refine Jm ?_|refine Jn ?_|refine Jo ?_|refine Jp ?_|refine Jq ?_))
    refine e_mvI rfl ?_
    refine e_p (cmp_neqD rfl rfl) ?_
    (repeat (with_reducible first|refine Ja ?_|refine Jb ?_|refine Jc ?_|refine Jd ?_|refine Je ?_|refine Jf ?_|refine Jg ?_|refine Jh ?_|refine Ji ?_|refine Jj ?_|refine Jk rfl ?_|refine Jl ?_|refine Jm ?_|refine Jn ?_|refine Jo ?_|refine Jp ?_|refine Jq ?_))
    rcases hstep with ⟨k1, k2⟩ | ⟨k1, k2, k3⟩
    · refine s_iteN rfl (fun _ => ?_) (fun he => absurd he k1)
      (repeat (first|(with_reducible first|refine Ja ?_|refine Jb ?_|refine Jc ?_|refine Jd ?_|refine Je ?_|refine Jf ?_|refine Jg ?_|refine Jh ?_|refine Ji ?_|refine Jj ?_|refine Jk rfl ?_|refine Jl ?_|refine Jm ?_|refine Jn ?_|refine Jo ?_|refine Jp ?_|refine Jq ?_)|refine JA rfl ?_|refine JB rfl ?_|refine JC rfl ?_|refine JD rfl ?_|refine JE rfl ?_|refine JF rfl ?_|refine JG rfl ?_|refine JH rfl ?_|refine JI rfl ?_|refine J2 rfl ?_|refine J3 rfl ?_|refine J4 rfl ?_|refine J1 rfl ?_|refine J6 rfl ?_|refine J7 rfl ?_|refine JJ rfl ?_|refine JK rfl ?_|refine JQ rfl ?_|refine JL rfl rfl ?_|refine JM rfl rfl ?_|refine JN rfl ?_|refine JO rfl ?_|refine JP rfl ?_))
      rw [k2] at S
      exact ⟨rfl, (i, s, adq, capq, Lq), ⟨rfl, rfl, rfl, rfl, trivial⟩, hA, hv, hO, Sep.drop (L2 := [_]) S⟩
    · refine s_iteN rfl (fun he => absurd k1 he) (fun _ => ?_)
      (repeat (first|(with_reducible first|refine Ja ?_|refine Jb ?_|refine Jc ?_|refine Jd ?_|refine Je ?_|refine Jf ?_|refine Jg ?_|refine Jh ?_|refine Ji ?_|refine Jj ?_|refine Jk rfl ?_|refine Jl ?_|refine Jm ?_|refine Jn ?_|refine Jo ?_|refine Jp ?_|refine Jq ?_)|refine JA rfl ?_|refine JB rfl ?_|refine JC rfl ?_|refine JD rfl ?_|refine JE rfl ?_|refine JF rfl ?_|refine JG rfl ?_|refine JH rfl ?_|refine JI rfl ?_|refine J2 rfl ?_|refine J3 rfl ?_|refine J4 rfl ?_|refine J1 rfl ?_|refine J6 rfl ?_|refine J7 rfl ?_|refine JJ rfl ?_|refine JK rfl ?_|refine JQ rfl ?_|refine JL rfl rfl ?_|refine JM rfl rfl ?_|refine JN rfl ?_|refine JO rfl ?_|refine JP rfl ?_))
      refine e_ld (v := .agg ⟨A.1.v⟩) (S.row 0 rfl (by simp [Tl.v]) rfl) ?_
      refine e_st (vs := A.1.v) S 1 rfl rfl rfl rfl (by simp [Tl.v, Value.flat]) (by simp [Tl.v]) fun w S => ?_
      replace S : Dn.Sep w ((((b11, .cells ⟨A.1.v⟩ 31) :: (b10, .cells ⟨(from0 l n).v⟩ 31) :: Y) ++ Lq) ++ A.2.2.L) F := Sep.drop (L2 := [_]) S
      rw [k2] at S
      (repeat (with_reducible first|refine Ja ?_|refine Jb ?_|refine Jc ?_|refine Jd ?_|refine Je ?_|refine Jf ?_|refine Jg ?_|refine Jh ?_|refine Ji ?_|refine Jj ?_|refine Jk rfl ?_|refine Jl ?_|refine Jm ?_|refine Jn ?_|refine Jo ?_|refine Jp ?_|refine Jq ?_))
      refine e_mvL rfl ?_
      refine e_mvL rfl ?_
      refine e_mvI rfl ?_
      refine e_ixa rfl rfl (by omega) (by omega) ?_
      rw [show off + (i : Int).toNat * 1 = off + i by omega]
      refine e_ld (v := strV m[i]) (S.fc hcell) ?_
      refine e_bsl (size := 1) (xs := [strV m[i]]) S Try.underlying22 rfl rfl ⟨_, rfl⟩ (by omega) (by omega) (fun zs hz => (match zs, hz with | [u], _ => rfl)) fun bs w S => ?_
      obtain ⟨XX, hXX⟩ : ∃ XX, ((b11, Obj.cells ⟨(tail2 l n m (i + 1)).v⟩ 31) :: (b10, .cells ⟨(from0 l n).v⟩ 31) :: Y) = XX := ⟨_, rfl⟩
      rw [hXX] at S
      replace S : Dn.Sep w (([(bs, .cells ⟨[strV m[i]]⟩ 9)] ++ (XX ++ A.2.2.L)) ++ Lq) F := by
        have S9 : Dn.Sep w ([(bs, .cells ⟨[strV m[i]]⟩ 9)] ++ ((XX ++ A.2.2.L) ++ Lq)) F := S.perm (List.Perm.trans List.perm_append_comm ((List.Perm.refl _).append (swap3 XX Lq A.2.2.L)))
        exact S9
      refine e_app (size := 1) (k := 1) (ys := [strV m[i]]) (z := .string ⟨#[]⟩) S hO rfl (src_row Try.underlying22 (rowOf_at S (ty := 9) (fr := (0, 0)) (cs := [strV m[i]]) (by simp) (by simp) rfl) (by simp [strV, Value.flat])) Try.underlying22 rfl rfl rfl rfl (by show (i + 1) * 16 ≤ _; omega) (by omega) fun adq' capq' Lq' w hO' S => ?_
      replace S : Dn.Sep w ((XX ++ Lq') ++ A.2.2.L) F := by
        have S9 : Dn.Sep w ([(bs, .cells ⟨[strV m[i]]⟩ 9)] ++ ((XX ++ A.2.2.L) ++ Lq')) F := S
        exact (Sep.drop S9).perm (swap3 XX A.2.2.L Lq')
      (repeat (with_reducible first|refine Ja ?_|refine Jb ?_|refine Jc ?_|refine Jd ?_|refine Je ?_|refine Jf ?_|refine Jg ?_|refine Jh ?_|refine Ji ?_|refine Jj ?_|refine Jk rfl ?_|refine Jl ?_|refine Jm ?_|refine Jn ?_|refine Jo ?_|refine Jp ?_|refine Jq ?_))
      refine e_mvL rfl ?_
      (repeat (first|(with_reducible first|refine Ja ?_|refine Jb ?_|refine Jc ?_|refine Jd ?_|refine Je ?_|refine Jf ?_|refine Jg ?_|refine Jh ?_|refine Ji ?_|refine Jj ?_|refine Jk rfl ?_|refine Jl ?_|refine Jm ?_|refine Jn ?_|refine Jo ?_|refine Jp ?_|refine Jq ?_)|refine JA rfl ?_|refine JB rfl ?_|refine JC rfl ?_|refine JD rfl ?_|refine JE rfl ?_|refine JF rfl ?_|refine JG rfl ?_|refine JH rfl ?_|refine JI rfl ?_|refine J2 rfl ?_|refine J3 rfl ?_|refine J4 rfl ?_|refine J1 rfl ?_|refine J6 rfl ?_|refine J7 rfl ?_|refine JJ rfl ?_|refine JK rfl ?_|refine JQ rfl ?_|refine JL rfl rfl ?_|refine JM rfl rfl ?_|refine JN rfl ?_|refine JO rfl ?_|refine JP rfl ?_))
      refine e_add (a := (i : Int)) (b := 1) rfl rfl (by omega) (by omega) ?_
      (repeat (first|(with_reducible first|refine Ja ?_|refine Jb ?_|refine Jc ?_|refine Jd ?_|refine Je ?_|refine Jf ?_|refine Jg ?_|refine Jh ?_|refine Ji ?_|refine Jj ?_|refine Jk rfl ?_|refine Jl ?_|refine Jm ?_|refine Jn ?_|refine Jo ?_|refine Jp ?_|refine Jq ?_)|refine JA rfl ?_|refine JB rfl ?_|refine JC rfl ?_|refine JD rfl ?_|refine JE rfl ?_|refine JF rfl ?_|refine JG rfl ?_|refine JH rfl ?_|refine JI rfl ?_|refine J2 rfl ?_|refine J3 rfl ?_|refine J4 rfl ?_|refine J1 rfl ?_|refine J6 rfl ?_|refine J7 rfl ?_|refine JJ rfl ?_|refine JK rfl ?_|refine JQ rfl ?_|refine JL rfl rfl ?_|refine JM rfl rfl ?_|refine JN rfl ?_|refine JO rfl ?_|refine JP rfl ?_))
      refine ⟨rfl, (i + 1, A.2.2, adq', capq', Lq'), ⟨rfl, rfl, rfl, rfl, rfl, rfl, trivial⟩, ⟨k3, hv'.trans hv, ?_, ?_⟩, by simp only; omega⟩
      · simp only [List.take_succ_eq_append_getElem hi, OwnT, List.map_append]; exact hO'
      · rw [← hXX] at S; exact S
  rintro gg ⟨i, s, adq, capq, Lq⟩ w ⟨hA, hv, hO, S⟩
  simp only [setL] at hA hv hO S ⊢
  have hil := hA.le
  have hsc := w_scan s 0 (from0 l n) hA.on.std.ok
  rw [again_scan hL hdk hA (by omega) (by omega), hv] at hsc
  have elen : (m.take i).length = i := by simp; omega
  simp only [elen] at hsc
  (repeat (first|(with_reducible first|refine Ja ?_|refine Jb ?_|refine Jc ?_|refine Jd ?_|refine Je ?_|refine Jf ?_|refine Jg ?_|refine Jh ?_|refine Ji ?_|refine Jj ?_|refine Jk rfl ?_|refine Jl ?_|refine Jm ?_|refine Jn ?_|refine Jo ?_|refine Jp ?_|refine Jq ?_)|refine JA rfl ?_|refine JB rfl ?_|refine JC rfl ?_|refine JD rfl ?_|refine JE rfl ?_|refine JF rfl ?_|refine JG rfl ?_|refine JH rfl ?_|refine JI rfl ?_|refine J2 rfl ?_|refine J3 rfl ?_|refine J4 rfl ?_|refine J1 rfl ?_|refine J6 rfl ?_|refine J7 rfl ?_|refine JJ rfl ?_|refine JK rfl ?_|refine JQ rfl ?_|refine JL rfl rfl ?_|refine JM rfl rfl ?_|refine JN rfl ?_|refine JO rfl ?_|refine JP rfl ?_))
  refine e_ld (v := .agg ⟨(from0 l n).v⟩) (S.row 1 rfl (by simp [Tl.v]) rfl) ?_
  refine e_call (L2 := _ ++ Lq) rfl hsc S ?_
  rintro _ _ w ⟨ado, capo, Lo, rfl, rfl, hOo⟩ S
  refine e_mvT rfl ?_
  refine e_p (v := .slice ado i capo) rfl ?_
  refine e_p (v := .agg ⟨(tail2 l n m i).v⟩) rfl ?_
  refine e_p (v := .int .i64 0) rfl ?_
  refine e_nwE S (cs' := zT.v) rfl fun b17 w S => ?_
  refine e_mvL rfl ?_
  refine e_st (vs := (tail2 l n m i).v) S 0 rfl rfl rfl rfl (by simp [Tl.v, Value.flat]) (by simp [zT, Tl.v]) fun w S => ?_
  refine e_mvI rfl ?_
  replace S : Dn.Sep w ((b17, .cells ⟨(tail2 l n m i).v⟩ 31) :: ((((b11, .cells ⟨(tail2 l n m i).v⟩ 31) :: (b10, .cells ⟨(from0 l n).v⟩ 31) :: Y) ++ Lq) ++ (s.L ++ Lo))) F := S
  (repeat (first|(with_reducible first|refine Ja ?_|refine Jb ?_|refine Jc ?_|refine Jd ?_|refine Je ?_|refine Jf ?_|refine Jg ?_|refine Jh ?_|refine Ji ?_|refine Jj ?_|refine Jk rfl ?_|refine Jl ?_|refine Jm ?_|refine Jn ?_|refine Jo ?_|refine Jp ?_|refine Jq ?_)|refine JA rfl ?_|refine JB rfl ?_|refine JC rfl ?_|refine JD rfl ?_|refine JE rfl ?_|refine JF rfl ?_|refine JG rfl ?_|refine JH rfl ?_|refine JI rfl ?_|refine J2 rfl ?_|refine J3 rfl ?_|refine J4 rfl ?_|refine J1 rfl ?_|refine J6 rfl ?_|refine J7 rfl ?_|refine JJ rfl ?_|refine JK rfl ?_|refine JQ rfl ?_|refine JL rfl rfl ?_|refine JM rfl rfl ?_|refine JN rfl ?_|refine JO rfl ?_|refine JP rfl ?_))
  refine e_callP rfl l_sanity S fun w S => ?_
  (repeat (first|(with_reducible first|refine Ja ?_|refine Jb ?_|refine Jc ?_|refine Jd ?_|refine Je ?_|refine Jf ?_|refine Jg ?_|refine Jh ?_|refine Ji ?_|refine Jj ?_|refine Jk rfl ?_|refine Jl ?_|refine Jm ?_|refine Jn ?_|refine Jo ?_|refine Jp ?_|refine Jq ?_)|refine JA rfl ?_|refine JB rfl ?_|refine JC rfl ?_|refine JD rfl ?_|refine JE rfl ?_|refine JF rfl ?_|refine JG rfl ?_|refine JH rfl ?_|refine JI rfl ?_|refine J2 rfl ?_|refine J3 rfl ?_|refine J4 rfl ?_|refine J1 rfl ?_|refine J6 rfl ?_|refine J7 rfl ?_|refine JJ rfl ?_|refine JK rfl ?_|refine JQ rfl ?_|refine JL rfl rfl ?_|refine JM rfl rfl ?_|refine JN rfl ?_|refine JO rfl ?_|refine JP rfl ?_))
  refine e_ld (v := .agg ⟨(tail2 l n m i).v⟩) (S.row 0 rfl (by simp [Tl.v]) rfl) ?_
  refine e_gdT rfl ?_
  refine e_ld (v := .agg ⟨(tail2 l n m i).v⟩) (S.row 1 rfl (by simp [Tl.v]) rfl) ?_
  refine e_gdT rfl ?_
  refine e_p (eqc_tl (p := tail2 l n m i) (q := tail2 l n m i) rfl rfl) ?_
  rw [decide_eq_true rfl]
  (repeat (with_reducible first|refine Ja ?_|refine Jb ?_|refine Jc ?_|refine Jd ?_|refine Je ?_|refine Jf ?_|refine Jg ?_|refine Jh ?_|refine Ji ?_|refine Jj ?_|refine Jk rfl ?_|refine Jl ?_|refine Jm ?_|refine Jn ?_|refine Jo ?_|refine Jp ?_|refine Jq ?_))
  refine e_pkTB rfl rfl ?_
  refine e_mvB rfl ?_
  refine e_gdT rfl ?_
  refine e_mvL rfl ?_
  refine e_gdT rfl ?_
  refine e_mvL rfl ?_
  refine e_gdT rfl ?_
  have hsame := l_same ado adq capo capq (m.take i) (m.take i) (by omega)
  rw [elen] at hsame
  refine e_callFN rfl hsame S ?_ ?_
  · obtain ⟨ZZ, hZZ⟩ : ∃ ZZ, ((b17, Obj.cells ⟨(tail2 l n m i).v⟩ 31) :: ((((b11, .cells ⟨(tail2 l n m i).v⟩ 31) :: (b10, .cells ⟨(from0 l n).v⟩ 31) :: Y) ++ Lq) ++ (s.L ++ Lo))) = ZZ := ⟨_, rfl⟩
    have m1 : ∀ x ∈ Lo, x ∈ ZZ := by intro x hx; rw [← hZZ]; simp [hx]
    have m2 : ∀ x ∈ Lq, x ∈ ZZ := by intro x hx; rw [← hZZ]; simp [hx]
    rw [hZZ] at S ⊢
    have S' : Dn.Sep w (ZZ ++ []) F := by simpa using S
    exact ⟨OwnT.fslI hOo S' m1, hO.fslI S' m2⟩
  rintro _ _ w ⟨rfl, rfl⟩ S
  rw [decide_eq_true rfl]
  (repeat (first|(with_reducible first|refine Ja ?_|refine Jb ?_|refine Jc ?_|refine Jd ?_|refine Je ?_|refine Jf ?_|refine Jg ?_|refine Jh ?_|refine Ji ?_|refine Jj ?_|refine Jk rfl ?_|refine Jl ?_|refine Jm ?_|refine Jn ?_|refine Jo ?_|refine Jp ?_|refine Jq ?_)|refine JA rfl ?_|refine JB rfl ?_|refine JC rfl ?_|refine JD rfl ?_|refine JE rfl ?_|refine JF rfl ?_|refine JG rfl ?_|refine JH rfl ?_|refine JI rfl ?_|refine J2 rfl ?_|refine J3 rfl ?_|refine J4 rfl ?_|refine J1 rfl ?_|refine J6 rfl ?_|refine J7 rfl ?_|refine JJ rfl ?_|refine JK rfl ?_|refine JQ rfl ?_|refine JL rfl rfl ?_|refine JM rfl rfl ?_|refine JN rfl ?_|refine JO rfl ?_|refine JP rfl ?_))
  exact f_ret rfl rfl (hQ _ _ _ rfl S)

end Go.Proofs.Ytgendpinmmmfjaa

/- The law WalRestarts holds of every input: the call returns true and leaves its arguments as they were. -/
namespace Go.Proofs.Ytgendpinmmmfjaa.walRestarts
open Go.ChangeShapes Go.WideShapes Go.ChangeAt Go.RowKit
open Go.ChangeMaps (open_string shut_string)
set_option maxRecDepth 100000
theorem own : ownKnob Try.prog.godebug = none := by kernel_rfl
theorem laidOut : laidOutB Try.prog = true := by kernel_rfl
theorem lifted (os : Os) (started : os.Started) (H : Type) (enc : TypeId × Value → H) :
    ReturnsInHanded {} Try.checked os 4 .any (Rows.walRestartsSpec.pre6 enc Try.prog Try.f4 Rows.walRestartsRow.domain false) (Rows.walRestartsSpec.post enc Try.prog Try.f4 false true false false) := by
  refine returnsInHanded_of_change_sized (C := Try.checked) own started (by kernel_rfl) Try.func4
    (ChangeSpec.witness6 (enc := enc) (C := Try.checked) false ⟨#[], #[.int .i64 0, .slice none 0 0, .slice none 0 0], []⟩ 8 (by kernel_rfl) (by kernel_rfl) (by kernel_rfl) (by kernel_rfl)) ?_
  intro W base args ds gs before hval0 hW hcnd hsz0 _
  have hsz : (DataW.weightsEach Try.prog (Try.f4.params.toList ++ Rows.walRestartsSpec.plain.varTypes Try.prog) (ds ++ gs)).all (· ≤ reachBytes) = true := hsz0
  have hval : ∀ (j : Nat) t v, Try.f4.params[j]? = some t → args[j]? = some v → Value.okWide Try.prog W .any base t v := hval0
  have hW' := hW
  obtain ⟨p, q, hA0, hV, rfl, hfz, hnd⟩ := hW
  have hA : DataW.TrodAll enc Try.prog W 0 (fun _ => true) true Try.f4.params.toList args.toList ds p := hA0
  rw [Try.params4] at hA hval hsz
  obtain ⟨v0, vs0, d0, ds0, p0, q0, hargs, rfl, rfl, h0, r0⟩ := trodAll_cons hA
  obtain ⟨v1, vs1, d1, ds1, p1, q1, rfl, rfl, rfl, h1, r1⟩ := trodAll_cons r0
  obtain ⟨v2, vs2, d2, ds2, p2, q2, rfl, rfl, rfl, h2, r2⟩ := trodAll_cons r1
  obtain ⟨rfl, rfl, rfl⟩ := trodAll_nil r2
  obtain rfl : args = #[v0, v1, v2] := by cases args; simp_all
  obtain ⟨rfl, rfl⟩ := trodVars_none hV
  obtain ⟨a0, rfl, rfl, rfl, w0⟩ := open_int Try.underlying3 (hval 0 3 v0 rfl rfl) h0
  obtain ⟨a1, len1, cap1, rfl⟩ := okWide_slice Try.underlying22 (hval 1 22 v1 rfl rfl)
  have k1 := h1
  have lt1 : ∀ x ∈ p1, x.block < W.heap.size := by obtain ⟨m, hm⟩ := k1; exact DataW.trod_lt m _ _ _ hm
  obtain ⟨l1, rfl, y1, z1, F1⟩ := Dn.open_strsF Try.underlying22 Try.underlying9 (by kernel_rfl) (by kernel_rfl) h1 hsz (j := 1) rfl rfl
  obtain ⟨a2, len2, cap2, rfl⟩ := okWide_slice Try.underlying22 (hval 2 22 v2 rfl rfl)
  have k2 := h2
  have lt2 : ∀ x ∈ p2, x.block < W.heap.size := by obtain ⟨m, hm⟩ := k2; exact DataW.trod_lt m _ _ _ hm
  obtain ⟨l2, rfl, y2, z2, F2⟩ := Dn.open_strsF Try.underlying22 Try.underlying9 (by kernel_rfl) (by kernel_rfl) h2 hsz (j := 2) rfl rfl
  clear hA0 hval0 hsz0 hsz
  refine Calls.mono (Dn.calls_of (W := W) (law_restarts a0 a1 cap1 l1 a2 cap2 l2 (by omega) (fun r hr => by have := z1 r hr; omega) (by omega) (fun r hr => by have := z2 r hr; omega)) ⟨F1, F2⟩) fun e W' ⟨he, bel⟩ => ?_
  subst he
  exact ⟨_, rfl, _, _, _, [], _, [], hW', trodAll_mk1 (shut_bool Try.underlying4 _), (trodAll_cons_mk (shut_int Try.underlying3 w0) (trodAll_cons_mk (Below.trod laidOut (by kernel_rfl) (of_decide_eq_true (by kernel_rfl)) k1 bel lt1) (trodAll_cons_mk (Below.trod laidOut (by kernel_rfl) (of_decide_eq_true (by kernel_rfl)) k2 bel lt2) trodAll_mk0))), rfl, bel.frame _, fun h => by cases h⟩
theorem over : Rows.walRestartsRow.holds Try.pinned (OpenSpec.ofChange Rows.walRestartsSpec) :=
  OpenClaim.holds_of_wide 4 Try.f4 rfl rfl rfl rfl rfl rfl rfl ⟨rfl, rfl, rfl, rfl, rfl⟩ rfl rfl rfl rfl rfl (by kernel_rfl) Try.func4 (by kernel_rfl)
    (of_decide_eq_true (by kernel_rfl)) (by unfold Func.isWrapper; first | (rw [if_pos (by decide +kernel)]; kernel_rfl) | (rw [if_neg (by decide +kernel)]; exact ⟨rfl, rfl⟩))
    (fun os started H enc _ => lifted os started H enc)
theorem proved : Rows.WalRestartsSaid := over
end Go.Proofs.Ytgendpinmmmfjaa.walRestarts
namespace Go.Proofs.Ytgendpinmmmfjaa
/-- The row, under a short name, for the claim. -/
theorem walRestarts_holds : Rows.WalRestartsSaid := walRestarts.proved
#print axioms walRestarts_holds
end Go.Proofs.Ytgendpinmmmfjaa
