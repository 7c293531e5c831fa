/- The law WalSeparate holds of every input: the call returns true and leaves its arguments as they were. -/
import Derived.Test.YtgendpinmmmfjaaBaseB5
import Derived.Test.YtgendpinmmmfjaaRows
set_option linter.unusedVariables false
set_option linter.unusedSimpArgs false
/-
  The walk of WalSeparate.
-/
namespace Go.Proofs.Ytgendpinmmmfjaa
open Dn
attribute [local irreducible] Evs Ev EvT DSpec PSpec CallTo
set_option maxRecDepth 100000
set_option maxHeartbeats 4000000

theorem app_v {s : Sh} (h : s.ok) (d : Int) (t : Tl) (g : Gn) (r : Sec) : (appendW s d t g r).2.2.v = s.v := by
  simp only [Sh.v, (append_ok h d t g r).2.2]
theorem OwnT.fslI {ad : Option Addr} {n cap : Nat} {l : List Sec} {Lb L2 L1 : List (Nat × Obj)} {w : World} {F : Fr} (h : OwnT ad n cap l Lb) (S : Dn.Sep w (L2 ++ L1) F) (hs : ∀ x ∈ Lb, x ∈ L2) : FSl (F.add L2) ad (l.map strV) := OwnS.fsl h S hs
theorem OwnT.len {ad : Option Addr} {n cap : Nat} {l : List Sec} {Lb : List (Nat × Obj)} (h : OwnT ad n cap l Lb) : l.length = n := by
  have := OwnS.len h
  simpa using this

theorem law_separate (size : Int) (ad : Option Addr) (cap : Nat) (l : List Sec) (o : Sec) (hb : l.length < 4611686018427387904) (hr : ∀ r ∈ l, r.length < 4611686018427387904) (ho : o.length < 4611686018427387904) :
    DSpecF Try.prog 5 [.int .i64 size, .slice ad l.length cap, .string ⟨⟨o⟩⟩] [] (fun F => FSl F ad (l.map strV)) fun v _ => v = .bool true := by
  refine specF_of mix Try.func5 c5_eq rfl rfl fun w F Q hF S hQ => ?_
  (repeat (first|(with_reducible first|refine Ja ?_|refine Jb ?_|refine Jc ?_|refine Jd ?_|refine Je ?_|refine Jf ?_|refine Jg ?_|refine Jh ?_|refine Ji ?_|refine Jj ?_|refine Jk rfl ?_|refine Jl ?_|refine Jm ?_|refine Jn ?_|refine Jo ?_|refine Jp ?_|refine Jq ?_)|refine JA rfl ?_|refine JB rfl ?_|refine JC rfl ?_|refine JD rfl ?_|refine JE rfl ?_|refine JF rfl ?_|refine JG rfl ?_|refine JH rfl ?_|refine JI rfl ?_|refine J2 rfl ?_|refine J3 rfl ?_|refine J4 rfl ?_|refine J1 rfl ?_|refine J6 rfl ?_|refine J7 rfl ?_|refine JJ rfl ?_|refine JK rfl ?_|refine JQ rfl ?_|refine JL rfl rfl ?_|refine JM rfl rfl ?_|refine JN rfl ?_|refine JO rfl ?_|refine JP rfl ?_))
  refine e_brD rfl (fun h1 => ?_) (fun h1 => ?_)
  · (repeat (first|(with_reducible first|refine Ja ?_|refine Jb ?_|refine Jc ?_|refine Jd ?_|refine Je ?_|refine Jf ?_|refine Jg ?_|refine Jh ?_|refine Ji ?_|refine Jj ?_|refine Jk rfl ?_|refine Jl ?_|refine Jm ?_|refine Jn ?_|refine Jo ?_|refine Jp ?_|refine Jq ?_)|refine JA rfl ?_|refine JB rfl ?_|refine JC rfl ?_|refine JD rfl ?_|refine JE rfl ?_|refine JF rfl ?_|refine JG rfl ?_|refine JH rfl ?_|refine JI rfl ?_|refine J2 rfl ?_|refine J3 rfl ?_|refine J4 rfl ?_|refine J1 rfl ?_|refine J6 rfl ?_|refine J7 rfl ?_|refine JJ rfl ?_|refine JK rfl ?_|refine JQ rfl ?_|refine JL rfl rfl ?_|refine JM rfl rfl ?_|refine JN rfl ?_|refine JO rfl ?_|refine JP rfl ?_))
    refine e_callP rfl l_sanity S fun w S => ?_
    (repeat (first|(with_reducible first|refine Ja ?_|refine Jb ?_|refine Jc ?_|refine Jd ?_|refine Je ?_|refine Jf ?_|refine Jg ?_|refine Jh ?_|refine Ji ?_|refine Jj ?_|refine Jk rfl ?_|refine Jl ?_|refine Jm ?_|refine Jn ?_|refine Jo ?_|refine Jp ?_|refine Jq ?_)|refine JA rfl ?_|refine JB rfl ?_|refine JC rfl ?_|refine JD rfl ?_|refine JE rfl ?_|refine JF rfl ?_|refine JG rfl ?_|refine JH rfl ?_|refine JI rfl ?_|refine J2 rfl ?_|refine J3 rfl ?_|refine J4 rfl ?_|refine J1 rfl ?_|refine J6 rfl ?_|refine J7 rfl ?_|refine JJ rfl ?_|refine JK rfl ?_|refine JQ rfl ?_|refine JL rfl rfl ?_|refine JM rfl rfl ?_|refine JN rfl ?_|refine JO rfl ?_|refine JP rfl ?_))
    exact f_ret rfl rfl (hQ _ _ _ rfl S)
  (repeat (first|(with_reducible first|refine Ja ?_|refine Jb ?_|refine Jc ?_|refine Jd ?_|refine Je ?_|refine Jf ?_|refine Jg ?_|refine Jh ?_|refine Ji ?_|refine Jj ?_|refine Jk rfl ?_|refine Jl ?_|refine Jm ?_|refine Jn ?_|refine Jo ?_|refine Jp ?_|refine Jq ?_)|refine JA rfl ?_|refine JB rfl ?_|refine JC rfl ?_|refine JD rfl ?_|refine JE rfl ?_|refine JF rfl ?_|refine JG rfl ?_|refine JH rfl ?_|refine JI rfl ?_|refine J2 rfl ?_|refine J3 rfl ?_|refine J4 rfl ?_|refine J1 rfl ?_|refine J6 rfl ?_|refine J7 rfl ?_|refine JJ rfl ?_|refine JK rfl ?_|refine JQ rfl ?_|refine JL rfl rfl ?_|refine JM rfl rfl ?_|refine JN rfl ?_|refine JO rfl ?_|refine JP rfl ?_))
  refine e_brD rfl (fun h2 => ?_) (fun h2 => ?_)
  · (repeat (first|(with_reducible first|refine Ja ?_|refine Jb ?_|refine Jc ?_|refine Jd ?_|refine Je ?_|refine Jf ?_|refine Jg ?_|refine Jh ?_|refine Ji ?_|refine Jj ?_|refine Jk rfl ?_|refine Jl ?_|refine Jm ?_|refine Jn ?_|refine Jo ?_|refine Jp ?_|refine Jq ?_)|refine JA rfl ?_|refine JB rfl ?_|refine JC rfl ?_|refine JD rfl ?_|refine JE rfl ?_|refine JF rfl ?_|refine JG rfl ?_|refine JH rfl ?_|refine JI rfl ?_|refine J2 rfl ?_|refine J3 rfl ?_|refine J4 rfl ?_|refine J1 rfl ?_|refine J6 rfl ?_|refine J7 rfl ?_|refine JJ rfl ?_|refine JK rfl ?_|refine JQ rfl ?_|refine JL rfl rfl ?_|refine JM rfl rfl ?_|refine JN rfl ?_|refine JO rfl ?_|refine JP rfl ?_))
    refine e_callP rfl l_sanity S fun w S => ?_
    (repeat (first|(with_reducible first|refine Ja ?_|refine Jb ?_|refine Jc ?_|refine Jd ?_|refine Je ?_|refine Jf ?_|refine Jg ?_|refine Jh ?_|refine Ji ?_|refine Jj ?_|refine Jk rfl ?_|refine Jl ?_|refine Jm ?_|refine Jn ?_|refine Jo ?_|refine Jp ?_|refine Jq ?_)|refine JA rfl ?_|refine JB rfl ?_|refine JC rfl ?_|refine JD rfl ?_|refine JE rfl ?_|refine JF rfl ?_|refine JG rfl ?_|refine JH rfl ?_|refine JI rfl ?_|refine J2 rfl ?_|refine J3 rfl ?_|refine J4 rfl ?_|refine J1 rfl ?_|refine J6 rfl ?_|refine J7 rfl ?_|refine JJ rfl ?_|refine JK rfl ?_|refine JQ rfl ?_|refine JL rfl rfl ?_|refine JM rfl rfl ?_|refine JN rfl ?_|refine JO rfl ?_|refine JP rfl ?_))
    exact f_ret rfl rfl (hQ _ _ _ rfl S)
  (repeat (with_reducible first|refine Ja ?_|refine Jb ?_|refine Jc ?_|refine Jd ?_|refine Je ?_|refine Jf ?_|refine Jg ?_|refine Jh ?_|refine Ji ?_|refine Jj ?_|refine Jk rfl ?_|refine Jl ?_|refine Jm ?_|refine Jn ?_|refine Jo ?_|refine Jp ?_|refine Jq ?_))
  refine e_gdT rfl ?_
  refine e_mvL rfl ?_
  refine e_gdT rfl ?_
  refine e_p (v := .int .i64 ((l.length : Nat) : Int)) rfl ?_
  (repeat (first|(with_reducible first|refine Ja ?_|refine Jb ?_|refine Jc ?_|refine Jd ?_|refine Je ?_|refine Jf ?_|refine Jg ?_|refine Jh ?_|refine Ji ?_|refine Jj ?_|refine Jk rfl ?_|refine Jl ?_|refine Jm ?_|refine Jn ?_|refine Jo ?_|refine Jp ?_|refine Jq ?_)|refine JA rfl ?_|refine JB rfl ?_|refine JC rfl ?_|refine JD rfl ?_|refine JE rfl ?_|refine JF rfl ?_|refine JG rfl ?_|refine JH rfl ?_|refine JI rfl ?_|refine J2 rfl ?_|refine J3 rfl ?_|refine J4 rfl ?_|refine J1 rfl ?_|refine J6 rfl ?_|refine J7 rfl ?_|refine JJ rfl ?_|refine JK rfl ?_|refine JQ rfl ?_|refine JL rfl rfl ?_|refine JM rfl rfl ?_|refine JN rfl ?_|refine JO rfl ?_|refine JP rfl ?_))
  refine s_iteD rfl (fun h3 => ?_) (fun h3 => ?_)
  · (repeat (first|(with_reducible first|refine Ja ?_|refine Jb ?_|refine Jc ?_|refine Jd ?_|refine Je ?_|refine Jf ?_|refine Jg ?_|refine Jh ?_|refine Ji ?_|refine Jj ?_|refine Jk rfl ?_|refine Jl ?_|refine Jm ?_|refine Jn ?_|refine Jo ?_|refine Jp ?_|refine Jq ?_)|refine JA rfl ?_|refine JB rfl ?_|refine JC rfl ?_|refine JD rfl ?_|refine JE rfl ?_|refine JF rfl ?_|refine JG rfl ?_|refine JH rfl ?_|refine JI rfl ?_|refine J2 rfl ?_|refine J3 rfl ?_|refine J4 rfl ?_|refine J1 rfl ?_|refine J6 rfl ?_|refine J7 rfl ?_|refine JJ rfl ?_|refine JK rfl ?_|refine JQ rfl ?_|refine JL rfl rfl ?_|refine JM rfl rfl ?_|refine JN rfl ?_|refine JO rfl ?_|refine JP rfl ?_))
    refine e_callP rfl l_sanity S fun w S => ?_
    (repeat (first|(with_reducible first|refine Ja ?_|refine Jb ?_|refine Jc ?_|refine Jd ?_|refine Je ?_|refine Jf ?_|refine Jg ?_|refine Jh ?_|refine Ji ?_|refine Jj ?_|refine Jk rfl ?_|refine Jl ?_|refine Jm ?_|refine Jn ?_|refine Jo ?_|refine Jp ?_|refine Jq ?_)|refine JA rfl ?_|refine JB rfl ?_|refine JC rfl ?_|refine JD rfl ?_|refine JE rfl ?_|refine JF rfl ?_|refine JG rfl ?_|refine JH rfl ?_|refine JI rfl ?_|refine J2 rfl ?_|refine J3 rfl ?_|refine J4 rfl ?_|refine J1 rfl ?_|refine J6 rfl ?_|refine J7 rfl ?_|refine JJ rfl ?_|refine JK rfl ?_|refine JQ rfl ?_|refine JL rfl rfl ?_|refine JM rfl rfl ?_|refine JN rfl ?_|refine JO rfl ?_|refine JP rfl ?_))
    exact f_ret rfl rfl (hQ _ _ _ rfl S)
  have hl : l.length ≤ 40 := by omega
  (repeat (first|(with_reducible first|refine Ja ?_|refine Jb ?_|refine Jc ?_|refine Jd ?_|refine Je ?_|refine Jf ?_|refine Jg ?_|refine Jh ?_|refine Ji ?_|refine Jj ?_|refine Jk rfl ?_|refine Jl ?_|refine Jm ?_|refine Jn ?_|refine Jo ?_|refine Jp ?_|refine Jq ?_)|refine JA rfl ?_|refine JB rfl ?_|refine JC rfl ?_|refine JD rfl ?_|refine JE rfl ?_|refine JF rfl ?_|refine JG rfl ?_|refine JH rfl ?_|refine JI rfl ?_|refine J2 rfl ?_|refine J3 rfl ?_|refine J4 rfl ?_|refine J1 rfl ?_|refine J6 rfl ?_|refine J7 rfl ?_|refine JJ rfl ?_|refine JK rfl ?_|refine JQ rfl ?_|refine JL rfl rfl ?_|refine JM rfl rfl ?_|refine JN rfl ?_|refine JO rfl ?_|refine JP rfl ?_))
  refine e_callF (L2 := []) (L1 := []) rfl (l_log2 size ad cap l (by omega) (by omega) hl hr) S (by simpa using hF.add (L2 := []) S) ?_
  rintro _ _ w ⟨s, n, adt, capt, Lt, adi, capi, Li, hL, rfl, rfl, hOt, hOi⟩ S
  replace S : Dn.Sep w (s.L ++ (Lt ++ Li)) F := S
  replace S : Dn.Sep w ((Lt ++ Li) ++ s.L) F := S.perm List.perm_append_comm
  refine e_mvT rfl ?_
  refine e_p (v := s.v) rfl ?_
  refine e_p (v := .slice adt (n + 1) capt) rfl ?_
  refine e_p (v := .slice adi n capi) rfl ?_
  refine e_p (v := s.v) rfl ?_
  refine e_mvL rfl ?_
  refine e_mvL rfl ?_
  (repeat (first|(with_reducible first|refine Ja ?_|refine Jb ?_|refine Jc ?_|refine Jd ?_|refine Je ?_|refine Jf ?_|refine Jg ?_|refine Jh ?_|refine Ji ?_|refine Jj ?_|refine Jk rfl ?_|refine Jl ?_|refine Jm ?_|refine Jn ?_|refine Jo ?_|refine Jp ?_|refine Jq ?_)|refine JA rfl ?_|refine JB rfl ?_|refine JC rfl ?_|refine JD rfl ?_|refine JE rfl ?_|refine JF rfl ?_|refine JG rfl ?_|refine JH rfl ?_|refine JI rfl ?_|refine J2 rfl ?_|refine J3 rfl ?_|refine J4 rfl ?_|refine J1 rfl ?_|refine J6 rfl ?_|refine J7 rfl ?_|refine JJ rfl ?_|refine JK rfl ?_|refine JQ rfl ?_|refine JL rfl rfl ?_|refine JM rfl rfl ?_|refine JN rfl ?_|refine JO rfl ?_|refine JP rfl ?_))
  have hle := hL.le
  have hsep := separate hL (by show (2 : Int) ≤ 2; omega) o
  have hap := w_append s 1 zT ⟨1, 0⟩ o hL.on.std.ok ho
  have hv := app_v hL.on.std.ok 1 zT ⟨1, 0⟩ o
  have hok := (append_ok hL.on.std.ok 1 zT ⟨1, 0⟩ o).1
  obtain ⟨A, hA⟩ : ∃ A, appendW s 1 zT ⟨1, 0⟩ o = A := ⟨_, rfl⟩
  rw [hA] at hsep hap hv hok
  obtain ⟨At, Ae, s'⟩ := A
  simp only at hsep hap hv hok
  obtain ⟨more, t1, hs0, hs1, hcase⟩ : ∃ more t1, scanFull s' 0 zT = (l.take n, tailAt l n, 0) ∧ scanFull s' 1 zT = (more, t1, 0) ∧ ((Ae ≠ 0 ∧ more = []) ∨ (Ae = 0 ∧ more = [o])) := by
    rcases hsep with ⟨k1, k2, t, k3⟩ | ⟨k1, k2, t, k3⟩
    · exact ⟨[], t, k2, k3, .inl ⟨k1, rfl⟩⟩
    · exact ⟨[o], t, k2, k3, .inr ⟨k1, rfl⟩⟩
  refine e_call (L2 := Lt ++ Li) rfl hap S ?_
  rintro _ _ w ⟨rfl, rfl⟩ S
  refine e_mvT rfl ?_
  refine e_p (v := .agg ⟨At.v⟩) rfl ?_
  refine e_p (v := .int .i64 Ae) rfl ?_
  refine e_nwE S (cs' := zT.v) rfl fun b10 w S => ?_
  refine e_st (vs := At.v) S 0 rfl rfl rfl rfl (by simp [Tl.v, Value.flat]) (by simp [zT, Tl.v]) fun w S => ?_
  replace S : Dn.Sep w ((Lt ++ Li) ++ s'.L) F := Sep.drop (L2 := [_]) S
  (repeat (first|(with_reducible first|refine Ja ?_|refine Jb ?_|refine Jc ?_|refine Jd ?_|refine Je ?_|refine Jf ?_|refine Jg ?_|refine Jh ?_|refine Ji ?_|refine Jj ?_|refine Jk rfl ?_|refine Jl ?_|refine Jm ?_|refine Jn ?_|refine Jo ?_|refine Jp ?_|refine Jq ?_)|refine JA rfl ?_|refine JB rfl ?_|refine JC rfl ?_|refine JD rfl ?_|refine JE rfl ?_|refine JF rfl ?_|refine JG rfl ?_|refine JH rfl ?_|refine JI rfl ?_|refine J2 rfl ?_|refine J3 rfl ?_|refine J4 rfl ?_|refine J1 rfl ?_|refine J6 rfl ?_|refine J7 rfl ?_|refine JJ rfl ?_|refine JK rfl ?_|refine JQ rfl ?_|refine JL rfl rfl ?_|refine JM rfl rfl ?_|refine JN rfl ?_|refine JO rfl ?_|refine JP rfl ?_))
  have hsc0 := w_scan s' 0 zT hok
  rw [hs0, hv] at hsc0
  have e1 : (l.take n).length = n := by simp; omega
  simp only [e1] at hsc0
  refine e_call (L2 := Lt ++ Li) rfl hsc0 S ?_
  rintro _ _ w ⟨ado, capo, Lo, rfl, rfl, hOo⟩ S
  refine e_mvT rfl ?_
  refine e_p (v := .slice ado n capo) rfl ?_
  refine e_p (v := .agg ⟨(tailAt l n).v⟩) rfl ?_
  refine e_p (v := .int .i64 0) rfl ?_
  refine e_nwE S (cs' := zT.v) rfl fun b13 w S => ?_
  refine e_mvL rfl ?_
  refine e_st (vs := (tailAt l n).v) S 0 rfl rfl rfl rfl (by simp [Tl.v, Value.flat]) (by simp [zT, Tl.v]) fun w S => ?_
  refine e_mvI rfl ?_
  replace S : Dn.Sep w ([(b13, .cells ⟨(tailAt l n).v⟩ 31)] ++ ((Lt ++ Li) ++ (s'.L ++ Lo))) F := S
  obtain ⟨XS, hXS⟩ : ∃ XS, [(b13, Obj.cells ⟨(tailAt l n).v⟩ 31)] ++ ((Lt ++ Li) ++ Lo) = XS := ⟨_, rfl⟩
  replace S : Dn.Sep w (XS ++ s'.L) F := by
    rw [← hXS, List.append_assoc, List.append_assoc]
    exact S.perm ((List.Perm.refl _).append ((List.Perm.refl _).append List.perm_append_comm))
  have hb13 : (b13, Obj.cells ⟨(tailAt l n).v⟩ 31) ∈ XS := by rw [← hXS]; simp
  have hLt : ∀ x ∈ Lt, x ∈ XS := by intro x hx; rw [← hXS]; simp [hx]
  have hLi : ∀ x ∈ Li, x ∈ XS := by intro x hx; rw [← hXS]; simp [hx]
  have hLo : ∀ x ∈ Lo, x ∈ XS := by intro x hx; rw [← hXS]; simp [hx]
  clear hXS
  (repeat (first|(with_reducible first|refine Ja ?_|refine Jb ?_|refine Jc ?_|refine Jd ?_|refine Je ?_|refine Jf ?_|refine Jg ?_|refine Jh ?_|refine Ji ?_|refine Jj ?_|refine Jk rfl ?_|refine Jl ?_|refine Jm ?_|refine Jn ?_|refine Jo ?_|refine Jp ?_|refine Jq ?_)|refine JA rfl ?_|refine JB rfl ?_|refine JC rfl ?_|refine JD rfl ?_|refine JE rfl ?_|refine JF rfl ?_|refine JG rfl ?_|refine JH rfl ?_|refine JI rfl ?_|refine J2 rfl ?_|refine J3 rfl ?_|refine J4 rfl ?_|refine J1 rfl ?_|refine J6 rfl ?_|refine J7 rfl ?_|refine JJ rfl ?_|refine JK rfl ?_|refine JQ rfl ?_|refine JL rfl rfl ?_|refine JM rfl rfl ?_|refine JN rfl ?_|refine JO rfl ?_|refine JP rfl ?_))
  have hsc1 := w_scan s' 1 zT hok
  rw [hs1, hv] at hsc1
  refine e_call (L2 := XS) rfl hsc1 S ?_
  rintro _ _ w ⟨adm, capm, Lm, rfl, rfl, hOm⟩ S
  refine e_mvT rfl ?_
  refine e_p (v := .slice adm more.length capm) rfl ?_
  refine e_p (v := .agg ⟨t1.v⟩) rfl ?_
  refine e_p (v := .int .i64 0) rfl ?_
  refine e_nwE S (cs' := zT.v) rfl fun b16 w S => ?_
  refine e_mvL rfl ?_
  refine e_st (vs := t1.v) S 0 rfl rfl rfl rfl (by simp [Tl.v, Value.flat]) (by simp [zT, Tl.v]) fun w S => ?_
  refine e_mvI rfl ?_
  replace S : Dn.Sep w (XS ++ (s'.L ++ Lm)) F := Sep.drop (L2 := [_]) S
  (repeat (with_reducible first|refine Ja ?_|refine Jb ?_|refine Jc ?_|refine Jd ?_|refine Je ?_|refine Jf ?_|refine Jg ?_|refine Jh ?_|refine Ji ?_|refine Jj ?_|refine Jk rfl ?_|refine Jl ?_|refine Jm ?_|refine Jn ?_|refine Jo ?_|refine Jp ?_|refine Jq ?_))
  refine s_opsd ?_
  replace S := S.drew
  refine e_callP rfl l_sanity S fun w S => ?_
  (repeat (first|(with_reducible first|refine Ja ?_|refine Jb ?_|refine Jc ?_|refine Jd ?_|refine Je ?_|refine Jf ?_|refine Jg ?_|refine Jh ?_|refine Ji ?_|refine Jj ?_|refine Jk rfl ?_|refine Jl ?_|refine Jm ?_|refine Jn ?_|refine Jo ?_|refine Jp ?_|refine Jq ?_)|refine JA rfl ?_|refine JB rfl ?_|refine JC rfl ?_|refine JD rfl ?_|refine JE rfl ?_|refine JF rfl ?_|refine JG rfl ?_|refine JH rfl ?_|refine JI rfl ?_|refine J2 rfl ?_|refine J3 rfl ?_|refine J4 rfl ?_|refine J1 rfl ?_|refine J6 rfl ?_|refine J7 rfl ?_|refine JJ rfl ?_|refine JK rfl ?_|refine JQ rfl ?_|refine JL rfl rfl ?_|refine JM rfl rfl ?_|refine JN rfl ?_|refine JO rfl ?_|refine JP rfl ?_))
  have hmem : ∀ {x}, x ∈ XS → x ∈ XS ++ (s'.L ++ Lm) := fun h => List.mem_append_left _ h
  refine e_ld (v := .agg ⟨(tailAt l n).v⟩) (rowM S (ty := 31) (fr := (0, 0)) (cs := (tailAt l n).v) (hmem hb13) (by simp [Tl.v]) rfl) ?_
  refine e_gdT rfl ?_
  refine e_mvL rfl ?_
  refine e_gdT rfl ?_
  refine e_mvL rfl ?_
  refine e_gdT rfl ?_
  refine e_p (v := .int .i64 ((n : Int) + 1)) rfl ?_
  refine e_gdT rfl ?_
  refine e_sub (a := (n : Int) + 1) (b := 1) rfl rfl (by omega) (by omega) ?_
  rcases hOt.own with ⟨_, hcp, _⟩ | ⟨bt, sp, lo, hi0, rfl, hsp, hfr0, eLt⟩
  · have := hOt.le; omega
  have htl : ((List.range (n + 1)).map (tailAt l)).length = n + 1 := by simp
  refine e_gdT rfl ?_
  refine e_ixa rfl rfl (by omega) (by omega) ?_
  rw [show 0 + ((n : Int) + 1 - 1).toNat * 4 = n * 4 by omega]
  refine e_gdT rfl ?_
  refine e_ld (v := .agg ⟨(tailAt l n).v⟩) (rowM S (ty := 31) (fr := (lo, hi0)) (cs := ((List.range (n + 1)).map (tailAt l)).flatMap Tl.v ++ sp) (hmem (hLt _ (by rw [eLt]; exact List.mem_singleton.2 rfl))) (by rw [List.length_append, tls_len, htl]; omega) (by rw [tls_at _ _ (by rw [htl]; omega)]; simp)) ?_
  refine e_gdT rfl ?_
  refine e_p (eqc_tl (p := tailAt l n) (q := tailAt l n) rfl rfl) ?_
  rw [decide_eq_true rfl]
  (repeat (with_reducible first|refine Ja ?_|refine Jb ?_|refine Jc ?_|refine Jd ?_|refine Je ?_|refine Jf ?_|refine Jg ?_|refine Jh ?_|refine Ji ?_|refine Jj ?_|refine Jk rfl ?_|refine Jl ?_|refine Jm ?_|refine Jn ?_|refine Jo ?_|refine Jp ?_|refine Jq ?_))
  refine e_pkTB rfl rfl ?_
  refine e_mvB rfl ?_
  refine e_gdT rfl ?_
  refine e_mvL rfl ?_
  refine e_gdT rfl ?_
  refine e_mvL rfl ?_
  refine e_gdT rfl ?_
  have hsame := l_same ado adi capo capi (l.take n) (l.take n) (by omega)
  rw [e1] at hsame
  refine e_callFN rfl hsame S ?_ ?_
  · have S' : Dn.Sep w ((XS ++ (s'.L ++ Lm)) ++ []) F := by simpa using S
    exact ⟨hOo.fsl S' (fun x hx => hmem (hLo x hx)), hOi.fsl S' (fun x hx => hmem (hLi x hx))⟩
  rintro _ _ w ⟨rfl, rfl⟩ S
  rw [decide_eq_true rfl]
  replace S : Dn.Sep w (XS ++ (s'.L ++ Lm)) F := by simpa using S
  rcases hcase with ⟨k1, rfl⟩ | ⟨rfl, rfl⟩
  · (repeat (with_reducible first|refine Ja ?_|refine Jb ?_|refine Jc ?_|refine Jd ?_|refine Je ?_|refine Jf ?_|refine Jg ?_|refine Jh ?_|refine Ji ?_|refine Jj ?_|refine Jk rfl ?_|refine Jl ?_|refine Jm ?_|refine Jn ?_|refine Jo ?_|refine Jp ?_|refine Jq ?_))
    refine e_pkTB rfl rfl ?_
    refine e_mvB rfl ?_
    refine e_gdT rfl ?_
    refine e_mvI rfl ?_
    refine e_gdT rfl ?_
    refine e_p (v := .bool true) rfl ?_
    refine e_pkTB rfl rfl ?_
    refine e_mvB rfl ?_
    refine e_gdT rfl ?_
    refine e_mvI rfl ?_
    refine e_gdT rfl ?_
    refine e_p (cmp_neqD rfl rfl) ?_
    rw [decide_eq_false k1]
    refine e_gdT rfl ?_
    refine e_mvB (b := true) rfl ?_
    refine e_gdT rfl ?_
    refine e_mvL rfl ?_
    refine e_gdT rfl ?_
    refine e_p (v := .int .i64 0) rfl ?_
    refine e_gdT rfl ?_
    refine e_p (v := .bool true) rfl ?_
    (repeat (first|(with_reducible first|refine Ja ?_|refine Jb ?_|refine Jc ?_|refine Jd ?_|refine Je ?_|refine Jf ?_|refine Jg ?_|refine Jh ?_|refine Ji ?_|refine Jj ?_|refine Jk rfl ?_|refine Jl ?_|refine Jm ?_|refine Jn ?_|refine Jo ?_|refine Jp ?_|refine Jq ?_)|refine JA rfl ?_|refine JB rfl ?_|refine JC rfl ?_|refine JD rfl ?_|refine JE rfl ?_|refine JF rfl ?_|refine JG rfl ?_|refine JH rfl ?_|refine JI rfl ?_|refine J2 rfl ?_|refine J3 rfl ?_|refine J4 rfl ?_|refine J1 rfl ?_|refine J6 rfl ?_|refine J7 rfl ?_|refine JJ rfl ?_|refine JK rfl ?_|refine JQ rfl ?_|refine JL rfl rfl ?_|refine JM rfl rfl ?_|refine JN rfl ?_|refine JO rfl ?_|refine JP rfl ?_))
    exact f_ret rfl rfl (hQ _ _ _ rfl S)
  · have hOm1 : OwnT adm 1 capm [o] Lm := hOm
    (repeat (first|(with_reducible first|refine Ja ?_|refine Jb ?_|refine Jc ?_|refine Jd ?_|refine Je ?_|refine Jf ?_|refine Jg ?_|refine Jh ?_|refine Ji ?_|refine Jj ?_|refine Jk rfl ?_|refine Jl ?_|refine Jm ?_|refine Jn ?_|refine Jo ?_|refine Jp ?_|refine Jq ?_)|refine JA rfl ?_|refine JB rfl ?_|refine JC rfl ?_|refine JD rfl ?_|refine JE rfl ?_|refine JF rfl ?_|refine JG rfl ?_|refine JH rfl ?_|refine JI rfl ?_|refine J2 rfl ?_|refine J3 rfl ?_|refine J4 rfl ?_|refine J1 rfl ?_|refine J6 rfl ?_|refine J7 rfl ?_|refine JJ rfl ?_|refine JK rfl ?_|refine JQ rfl ?_|refine JL rfl rfl ?_|refine JM rfl rfl ?_|refine JN rfl ?_|refine JO rfl ?_|refine JP rfl ?_))
    refine e_bsl (size := 1) (xs := [strV o]) S Try.underlying22 rfl rfl ⟨_, rfl⟩ (by omega) (by omega) (fun zs hz => (match zs, hz with | [u], _ => rfl)) fun bs w S => ?_
    have hO2 : OwnT (some ⟨bs, 0, none⟩) 1 1 [o] [(bs, .cells ⟨[strV o]⟩ 9)] := OwnS.row (xs := [o].map strV) rfl
    refine e_gdT rfl ?_
    refine e_callFN rfl (l_same adm (some ⟨bs, 0, none⟩) capm 1 [o] [o] (by simp)) S ?_ ?_
    · have S' : Dn.Sep w (((XS ++ (s'.L ++ Lm)) ++ [(bs, Obj.cells ⟨[strV o]⟩ 9)]) ++ []) F := by simpa using S
      exact ⟨hOm1.fslI S' (fun x hx => by simp [hx]), hO2.fslI S' (fun x hx => by simp at hx; simp [hx])⟩
    rintro _ _ w ⟨rfl, rfl⟩ S
    rw [decide_eq_true rfl]
    (repeat (first|(with_reducible first|refine Ja ?_|refine Jb ?_|refine Jc ?_|refine Jd ?_|refine Je ?_|refine Jf ?_|refine Jg ?_|refine Jh ?_|refine Ji ?_|refine Jj ?_|refine Jk rfl ?_|refine Jl ?_|refine Jm ?_|refine Jn ?_|refine Jo ?_|refine Jp ?_|refine Jq ?_)|refine JA rfl ?_|refine JB rfl ?_|refine JC rfl ?_|refine JD rfl ?_|refine JE rfl ?_|refine JF rfl ?_|refine JG rfl ?_|refine JH rfl ?_|refine JI rfl ?_|refine J2 rfl ?_|refine J3 rfl ?_|refine J4 rfl ?_|refine J1 rfl ?_|refine J6 rfl ?_|refine J7 rfl ?_|refine JJ rfl ?_|refine JK rfl ?_|refine JQ rfl ?_|refine JL rfl rfl ?_|refine JM rfl rfl ?_|refine JN rfl ?_|refine JO rfl ?_|refine JP rfl ?_))
    exact f_ret rfl rfl (hQ _ _ _ rfl S)

end Go.Proofs.Ytgendpinmmmfjaa

/- The law WalSeparate holds of every input: the call returns true and leaves its arguments as they were. -/
namespace Go.Proofs.Ytgendpinmmmfjaa.walSeparate
open Go.ChangeShapes Go.WideShapes Go.ChangeAt Go.RowKit
open Go.ChangeMaps (open_string shut_string)
set_option maxRecDepth 100000
theorem own : ownKnob Try.prog.godebug = none := by kernel_rfl
theorem laidOut : laidOutB Try.prog = true := by kernel_rfl
theorem lifted (os : Os) (started : os.Started) (H : Type) (enc : TypeId × Value → H) :
    ReturnsInHanded {} Try.checked os 5 .any (Rows.walSeparateSpec.pre6 enc Try.prog Try.f5 Rows.walSeparateRow.domain false) (Rows.walSeparateSpec.post enc Try.prog Try.f5 false true false false) := by
  refine returnsInHanded_of_change_sized (C := Try.checked) own started (by kernel_rfl) Try.func5
    (ChangeSpec.witness6 (enc := enc) (C := Try.checked) false ⟨#[], #[.int .i64 0, .slice none 0 0, .string ByteArray.empty], []⟩ 8 (by kernel_rfl) (by kernel_rfl) (by kernel_rfl) (by kernel_rfl)) ?_
  intro W base args ds gs before hval0 hW hcnd hsz0 _
  have hsz : (DataW.weightsEach Try.prog (Try.f5.params.toList ++ Rows.walSeparateSpec.plain.varTypes Try.prog) (ds ++ gs)).all (· ≤ reachBytes) = true := hsz0
  have hval : ∀ (j : Nat) t v, Try.f5.params[j]? = some t → args[j]? = some v → Value.okWide Try.prog W .any base t v := hval0
  have hW' := hW
  obtain ⟨p, q, hA0, hV, rfl, hfz, hnd⟩ := hW
  have hA : DataW.TrodAll enc Try.prog W 0 (fun _ => true) true Try.f5.params.toList args.toList ds p := hA0
  rw [Try.params5] at hA hval hsz
  obtain ⟨v0, vs0, d0, ds0, p0, q0, hargs, rfl, rfl, h0, r0⟩ := trodAll_cons hA
  obtain ⟨v1, vs1, d1, ds1, p1, q1, rfl, rfl, rfl, h1, r1⟩ := trodAll_cons r0
  obtain ⟨v2, vs2, d2, ds2, p2, q2, rfl, rfl, rfl, h2, r2⟩ := trodAll_cons r1
  obtain ⟨rfl, rfl, rfl⟩ := trodAll_nil r2
  obtain rfl : args = #[v0, v1, v2] := by cases args; simp_all
  obtain ⟨rfl, rfl⟩ := trodVars_none hV
  obtain ⟨a0, rfl, rfl, rfl, w0⟩ := open_int Try.underlying3 (hval 0 3 v0 rfl rfl) h0
  obtain ⟨a1, len1, cap1, rfl⟩ := okWide_slice Try.underlying22 (hval 1 22 v1 rfl rfl)
  have k1 := h1
  have lt1 : ∀ x ∈ p1, x.block < W.heap.size := by obtain ⟨m, hm⟩ := k1; exact DataW.trod_lt m _ _ _ hm
  obtain ⟨l1, rfl, y1, z1, F1⟩ := Dn.open_strsF Try.underlying22 Try.underlying9 (by kernel_rfl) (by kernel_rfl) h1 hsz (j := 1) rfl rfl
  obtain ⟨a2, rfl, rfl, rfl, y2⟩ := open_string Try.underlying9 (hval 2 9 v2 rfl rfl) h2
  have w2 : a2.size ≤ 140737488351232 := by
    have z := sized_string hsz (j := 2) (t := 9) rfl rfl
    rw [Array.length_toList] at z
    exact z
  clear hA0 hval0 hsz0 hsz
  refine Calls.mono (Dn.calls_of (W := W) (law_separate a0 a1 cap1 l1 a2.data.toList (by omega) (fun r hr => by have := z1 r hr; omega) (by have e : a2.data.toList.length = a2.size := rfl; omega)) F1) fun e W' ⟨he, bel⟩ => ?_
  subst he
  exact ⟨_, rfl, _, _, _, [], _, [], hW', trodAll_mk1 (shut_bool Try.underlying4 _), (trodAll_cons_mk (shut_int Try.underlying3 w0) (trodAll_cons_mk (Below.trod laidOut (by kernel_rfl) (of_decide_eq_true (by kernel_rfl)) k1 bel lt1) (trodAll_cons_mk (shut_string Try.underlying9 y2) trodAll_mk0))), rfl, bel.frame _, fun h => by cases h⟩
theorem over : Rows.walSeparateRow.holds Try.pinned (OpenSpec.ofChange Rows.walSeparateSpec) :=
  OpenClaim.holds_of_wide 5 Try.f5 rfl rfl rfl rfl rfl rfl rfl ⟨rfl, rfl, rfl, rfl, rfl⟩ rfl rfl rfl rfl rfl (by kernel_rfl) Try.func5 (by kernel_rfl)
    (of_decide_eq_true (by kernel_rfl)) (by unfold Func.isWrapper; first | (rw [if_pos (by decide +kernel)]; kernel_rfl) | (rw [if_neg (by decide +kernel)]; exact ⟨rfl, rfl⟩))
    (fun os started H enc _ => lifted os started H enc)
theorem proved : Rows.WalSeparateSaid := over
end Go.Proofs.Ytgendpinmmmfjaa.walSeparate
namespace Go.Proofs.Ytgendpinmmmfjaa
/-- The row, under a short name, for the claim. -/
theorem walSeparate_holds : Rows.WalSeparateSaid := walSeparate.proved
#print axioms walSeparate_holds
end Go.Proofs.Ytgendpinmmmfjaa
