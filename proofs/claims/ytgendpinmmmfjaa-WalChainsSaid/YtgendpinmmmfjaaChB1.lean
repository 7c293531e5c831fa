/- The law WalChains holds of every input: the call returns true and leaves its arguments as they were. -/
import Derived.Test.YtgendpinmmmfjaaBaseB5
import Derived.Test.YtgendpinmmmfjaaRows
set_option linter.unusedVariables false
set_option linter.unusedSimpArgs false
/-
  The walk of WalSeparate.
-/
namespace Go.Proofs.Ytgendpinmmmfjaa
open Dn
attribute [local irreducible] Evs Ev EvT DSpec PSpec CallTo
set_option maxRecDepth 100000
set_option maxHeartbeats 4000000

theorem app_v {s : Sh} (h : s.ok) (d : Int) (t : Tl) (g : Gn) (r : Sec) : (appendW s d t g r).2.2.v = s.v := by
  simp only [Sh.v, (append_ok h d t g r).2.2]
theorem OwnT.fslI {ad : Option Addr} {n cap : Nat} {l : List Sec} {Lb L2 L1 : List (Nat × Obj)} {w : World} {F : Fr} (h : OwnT ad n cap l Lb) (S : Dn.Sep w (L2 ++ L1) F) (hs : ∀ x ∈ Lb, x ∈ L2) : FSl (F.add L2) ad (l.map strV) := OwnS.fsl h S hs
theorem OwnT.len {ad : Option Addr} {n cap : Nat} {l : List Sec} {Lb : List (Nat × Obj)} (h : OwnT ad n cap l Lb) : l.length = n := by
  have := OwnS.len h
  simpa using this

theorem law_separate (size : Int) (ad : Option Addr) (cap : Nat) (l : List Sec) (o : Sec) (hb : l.length < 4611686018427387904) (hr : ∀ r ∈ l, r.length < 4611686018427387904) (ho : o.length < 4611686018427387904) :
    DSpecF Try.prog 5 [.int .i64 size, .slice ad l.length cap, .string ⟨⟨o⟩⟩] [] (fun F => FSl F ad (l.map strV)) fun v _ => v = .bool true := by
  refine specF_of mix Try.func5 c5_eq rfl rfl fun w F Q hF S hQ => ?_
  (repeat (first|(with_reducible first|refine Ja ?_|refine Jb ?_|refine Jc ?_|refine Jd ?_|refine Je ?_|refine Jf ?_|refine Jg ?_|refine Jh ?_|refine Ji ?_|refine Jj ?_|refine Jk rfl ?_|refine Jl ?_|refine Jm ?_|refine Jn ?_|refine Jo ?_|refine Jp ?_|refine Jq ?_)|refine JA rfl ?_|refine JB rfl ?_|refine JC rfl ?_|refine JD rfl ?_|refine JE rfl ?_|refine JF rfl ?_|refine JG rfl ?_|refine JH rfl ?_|refine JI rfl ?_|refine J2 rfl ?_|refine J3 rfl ?_|refine J4 rfl ?_|refine J1 rfl ?_|refine J6 rfl ?_|refine J7 rfl ?_|refine JJ rfl ?_|refine JK rfl ?_|refine JQ rfl ?_|refine JL rfl rfl ?_|refine JM rfl rfl ?_|refine JN rfl ?_|refine JO rfl ?_|refine JP rfl ?_))
  refine e_brD rfl (fun h1 => ?_) (fun h1 => ?_)
  · (repeat (first|(with_reducible first|refine Ja ?_|refine Jb ?_|refine Jc ?_|refine Jd ?_|refine Je ?_|refine Jf ?_|refine Jg ?_|refine Jh ?_|refine Ji ?_|refine Jj ?_|refine Jk rfl ?_|refine Jl ?_|refine Jm ?_|refine Jn ?_|refine Jo ?_|refine Jp ?_|refine Jq ?_)|refine JA rfl ?_|refine JB rfl ?_|refine JC rfl ?_|refine JD rfl ?_|refine JE rfl ?_|refine JF rfl ?_|refine JG rfl ?_|refine JH rfl ?_|refine JI rfl ?_|refine J2 rfl ?_|refine J3 rfl ?_|refine J4 rfl ?_|refine J1 rfl ?_|refine J6 rfl ?_|refine J7 rfl ?_|refine JJ rfl ?_|refine JK rfl ?_|refine JQ rfl ?_|refine JL rfl rfl ?_|refine JM rfl rfl ?_|refine JN rfl ?_|refine JO rfl ?_|refine JP rfl ?_))
    refine e_callP rfl l_sanity S fun w S => ?_
    (repeat (first|(with_reducible first|refine Ja ?_|refine Jb ?_|refine Jc ?_|refine Jd ?_|refine Je ?_|refine Jf ?_|refine Jg ?_|refine Jh ?_|refine Ji ?_|refine Jj ?_|refine Jk rfl ?_|refine Jl ?_|refine Jm ?_|refine Jn ?_|refine Jo ?_|refine Jp ?_|refine Jq ?_)|refine JA rfl ?_|refine JB rfl ?_|refine JC rfl ?_|refine JD rfl ?_|refine JE rfl ?_|refine JF rfl ?_|refine JG rfl ?_|refine JH rfl ?_|refine JI rfl ?_|refine J2 rfl ?_|refine J3 rfl ?_|refine J4 rfl ?_|refine J1 rfl ?_|refine J6 rfl ?_|refine J7 rfl ?_|refine JJ rfl ?_|refine JK rfl ?_|refine JQ rfl ?_|refine JL rfl rfl ?_|refine JM rfl rfl ?_|refine JN rfl ?_|refine JO rfl ?_|refine JP rfl ?_))
    exact f_ret rfl rfl (hQ _ _ _ rfl S)
  (repeat (first|(with_reducible first|refine Ja ?_|refine Jb ?_|refine Jc ?_|refine Jd ?_|refine Je ?_|refine Jf ?_|refine Jg ?_|refine Jh ?_|refine Ji ?_|refine Jj ?_|refine Jk rfl ?_|refine Jl ?_|refine Jm ?_|refine Jn ?_|refine Jo ?_|refine Jp ?_|refine Jq ?_)|refine JA rfl ?_|refine JB rfl ?_|refine JC rfl ?_|refine JD rfl ?_|refine JE rfl ?_|refine JF rfl ?_|refine JG rfl ?_|refine JH rfl ?_|refine JI rfl ?_|refine J2 rfl ?_|refine J3 rfl ?_|refine J4 rfl ?_|refine J1 rfl ?_|refine J6 rfl ?_|refine J7 rfl ?_|refine JJ rfl ?_|refine JK rfl ?_|refine JQ rfl ?_|refine JL rfl rfl ?_|refine JM rfl rfl ?_|refine JN rfl ?_|refine JO rfl ?_|refine JP rfl ?_))
  refine e_brD rfl (fun h2 => ?_) (fun h2 => ?_)
  · (repeat (first|(with_reducible first|refine Ja ?_|refine Jb ?_|refine Jc ?_|refine Jd ?_|refine Je ?_|refine Jf ?_|refine Jg ?_|refine Jh ?_|refine Ji ?_|refine Jj ?_|refine Jk rfl ?_|refine Jl ?_|refine Jm ?_|refine Jn ?_|refine Jo ?_|refine Jp ?_|refine Jq ?_)|refine JA rfl ?_|refine JB rfl ?_|refine JC rfl ?_|refine JD rfl ?_|refine JE rfl ?_|refine JF rfl ?_|refine JG rfl ?_|refine JH rfl ?_|refine JI rfl ?_|refine J2 rfl ?_|refine J3 rfl ?_|refine J4 rfl ?_|refine J1 rfl ?_|refine J6 rfl ?_|refine J7 rfl ?_|refine JJ rfl ?_|refine JK rfl ?_|refine JQ rfl ?_|refine JL rfl rfl ?_|refine JM rfl rfl ?_|refine JN rfl ?_|refine JO rfl ?_|refine JP rfl ?_))
    refine e_callP rfl l_sanity S fun w S => ?_
    (repeat (first|(with_reducible first|refine Ja ?_|refine Jb ?_|refine Jc ?_|refine Jd ?_|refine Je ?_|refine Jf ?_|refine Jg ?_|refine Jh ?_|refine Ji ?_|refine Jj ?_|refine Jk rfl ?_|refine Jl ?_|refine Jm ?_|refine Jn ?_|refine Jo ?_|refine Jp ?_|refine Jq ?_)|refine JA rfl ?_|refine JB rfl ?_|refine JC rfl ?_|refine JD rfl ?_|refine JE rfl ?_|refine JF rfl ?_|refine JG rfl ?_|refine JH rfl ?_|refine JI rfl ?_|refine J2 rfl ?_|refine J3 rfl ?_|refine J4 rfl ?_|refine J1 rfl ?_|refine J6 rfl ?_|refine J7 rfl ?_|refine JJ rfl ?_|refine JK rfl ?_|refine JQ rfl ?_|refine JL rfl rfl ?_|refine JM rfl rfl ?_|refine JN rfl ?_|refine JO rfl ?_|refine JP rfl ?_))
    exact f_ret rfl rfl (hQ _ _ _ rfl S)
  (repeat (with_reducible first|refine Ja ?_|refine Jb ?_|refine Jc ?_|refine Jd ?_|refine Je ?_|refine Jf ?_|refine Jg ?_|refine Jh ?_|refine Ji ?_|refine Jj ?_|refine Jk rfl ?_|refine Jl ?_|refine Jm ?_|refine Jn ?_|refine Jo ?_|refine Jp ?_|refine Jq ?_))
  refine e_gdT rfl ?_
  refine e_mvL rfl ?_
  refine e_gdT rfl ?_
  refine e_p (v := .int .i64 ((l.length : Nat) : Int)) rfl ?_
  (repeat (first|(with_reducible first|refine Ja ?_|refine Jb ?_|refine Jc ?_|refine Jd ?_|refine Je ?_|refine Jf ?_|refine Jg ?_|refine Jh ?_|refine Ji ?_|refine Jj ?_|refine Jk rfl ?_|refine Jl ?_|refine Jm ?_|refine Jn ?_|refine Jo ?_|refine Jp ?_|refine Jq ?_)|refine JA rfl ?_|refine JB rfl ?_|refine JC rfl ?_|refine JD rfl ?_|refine JE rfl ?_|refine JF rfl ?_|refine JG rfl ?_|refine JH rfl ?_|refine JI rfl ?_|refine J2 rfl ?_|refine J3 rfl ?_|refine J4 rfl ?_|refine J1 rfl ?_|refine J6 rfl ?_|refine J7 rfl ?_|refine JJ rfl ?_|refine JK rfl ?_|refine JQ rfl ?_|refine JL rfl rfl ?_|refine JM rfl rfl ?_|refine JN rfl ?_|refine JO rfl ?_|refine JP rfl ?_))
  refine s_iteD rfl (fun h3 => ?_) (fun h3 => ?_)
  · (repeat (first|(with_reducible first|refine Ja ?_|refine Jb ?_|refine Jc ?_|refine Jd ?_|refine Je ?_|refine Jf ?_|refine Jg ?_|refine Jh ?_|refine Ji ?_|refine Jj ?_|refine Jk rfl ?_|refine Jl ?_|refine Jm ?_|refine Jn ?_|refine Jo ?_|refine Jp ?_|refine Jq ?_)|refine JA rfl ?_|refine JB rfl ?_|refine JC rfl ?_|refine JD rfl ?_|refine JE rfl ?_|refine JF rfl ?_|refine JG rfl ?_|refine JH rfl ?_|refine JI rfl ?_|refine J2 rfl ?_|refine J3 rfl ?_|refine J4 rfl ?_|refine J1 rfl ?_|refine J6 rfl ?_|refine J7 rfl ?_|refine JJ rfl ?_|refine JK rfl ?_|refine JQ rfl ?_|refine JL rfl rfl ?_|refine JM rfl rfl ?_|refine JN rfl ?_|refine JO rfl ?_|refine JP rfl ?_))
    refine e_callP rfl l_sanity S fun w S => ?_
    (repeat (first|(with_reducible first|refine Ja ?_|refine Jb ?_|refine Jc ?_|refine Jd ?_|refine Je ?_|refine Jf ?_|refine Jg ?_|refine Jh ?_|refine Ji ?_|refine Jj ?_|refine Jk rfl ?_|refine Jl ?_|refine Jm ?_|refine Jn ?_|refine Jo ?_|refine Jp ?_|refine Jq ?_)|refine JA rfl ?_|refine JB rfl ?_|refine JC rfl ?_|refine JD rfl ?_|refine JE rfl ?_|refine JF rfl ?_|refine JG rfl ?_|refine JH rfl ?_|refine JI rfl ?_|refine J2 rfl ?_|refine J3 rfl ?_|refine J4 rfl ?_|refine J1 rfl ?_|refine J6 rfl ?_|refine J7 rfl ?_|refine JJ rfl ?_|refine JK rfl ?_|refine JQ rfl ?_|refine JL rfl rfl ?_|refine JM rfl rfl ?_|refine JN rfl ?_|refine JO rfl ?_|refine JP rfl ?_))
    exact f_ret rfl rfl (hQ _ _ _ rfl S)
  have hl : l.length ≤ 40 := by omega
  (repeat (first|(with_reducible first|refine Ja ?_|refine Jb ?_|refine Jc ?_|refine Jd ?_|refine Je ?_|refine Jf ?_|refine Jg ?_|refine Jh ?_|refine Ji ?_|refine Jj ?_|refine Jk rfl ?_|refine Jl ?_|refine Jm ?_|refine Jn ?_|refine Jo ?_|refine Jp ?_|refine Jq ?_)|refine JA rfl ?_|refine JB rfl ?_|refine JC rfl ?_|refine JD rfl ?_|refine JE rfl ?_|refine JF rfl ?_|refine JG rfl ?_|refine JH rfl ?_|refine JI rfl ?_|refine J2 rfl ?_|refine J3 rfl ?_|refine J4 rfl ?_|refine J1 rfl ?_|refine J6 rfl ?_|refine J7 rfl ?_|refine JJ rfl ?_|refine JK rfl ?_|refine JQ rfl ?_|refine JL rfl rfl ?_|refine JM rfl rfl ?_|refine JN rfl ?_|refine JO rfl ?_|refine JP rfl ?_))
  refine e_callF (L2 := []) (L1 := []) rfl (l_log2 size ad cap l (by omega) (by omega) hl hr) S (by simpa using hF.add (L2 := []) S) ?_
  rintro _ _ w ⟨s, n, adt, capt, Lt, adi, capi, Li, hL, rfl, rfl, hOt, hOi⟩ S
  replace S : Dn.Sep w (s.L ++ (Lt ++ Li)) F := S
  replace S : Dn.Sep w ((Lt ++ Li) ++ s.L) F := S.perm List.perm_append_comm
  refine e_mvT rfl ?_
  refine e_p (v := s.v) rfl ?_
  refine e_p (v := .slice adt (n + 1) capt) rfl ?_
  refine e_p (v := .slice adi n capi) rfl ?_
  refine e_p (v := s.v) rfl ?_
  refine e_mvL rfl ?_
  refine e_mvL rfl ?_
  (repeat (first|(with_reducible first|refine Ja ?_|refine Jb ?_|refine Jc ?_|refine Jd ?_|refine Je ?_|refine Jf ?_|refine Jg ?_|refine Jh ?_|refine Ji ?_|refine Jj ?_|refine Jk rfl ?_|refine Jl ?_|refine Jm ?_|refine Jn ?_|refine Jo ?_|refine Jp ?_|refine Jq ?_)|refine JA rfl ?_|refine JB rfl ?_|refine JC rfl ?_|refine JD rfl ?_|refine JE rfl ?_|refine JF rfl ?_|refine JG rfl ?_|refine JH rfl ?_|refine JI rfl ?_|refine J2 rfl ?_|refine J3 rfl ?_|refine J4 rfl ?_|refine J1 rfl ?_|refine J6 rfl ?_|refine J7 rfl ?_|refine JJ rfl ?_|refine JK rfl ?_|refine JQ rfl ?_|refine JL rfl rfl ?_|refine JM rfl rfl ?_|refine JN rfl ?_|refine JO rfl ?_|refine JP rfl ?_))
  have hle := hL.le
  have hsep := separate hL (by show (2 : Int) ≤ 2; omega) o
  have hap := w_append s 1 zT ⟨1, 0⟩ o hL.on.std.ok ho
  have hv := app_v hL.on.std.ok 1 zT ⟨1, 0⟩ o
  have hok := (append_ok hL.on.std.ok 1 zT ⟨1, 0⟩ o).1
  obtain ⟨A, hA⟩ : ∃ A, appendW s 1 zT ⟨1, 0⟩ o = A := ⟨_, rfl⟩
  rw [hA] at hsep hap hv hok
  obtain ⟨At, Ae, s'⟩ := A
  simp only at hsep hap hv hok
  obtain ⟨more, t1, hs0, hs1, hcase⟩ : ∃ more t1, scanFull s' 0 zT = (l.take n, tailAt l n, 0) ∧ scanFull s' 1 zT = (more, t1, 0) ∧ ((Ae ≠ 0 ∧ more = []) ∨ (Ae = 0 ∧ more = [o])) := by
    rcases hsep with ⟨k1, k2, t, k3⟩ | ⟨k1, k2, t, k3⟩
    · exact ⟨[], t, k2, k3, .inl ⟨k1, rfl⟩⟩
    · exact ⟨[o], t, k2, k3, .inr ⟨k1, rfl⟩⟩
  refine e_call (L2 := Lt ++ Li) rfl hap S ?_
  rintro _ _ w ⟨rfl, rfl⟩ S
  refine e_mvT rfl ?_
  refine e_p (v := .agg ⟨At.v⟩) rfl ?_
  refine e_p (v := .int .i64 Ae) rfl ?_
  refine e_nwE S (cs' := zT.v) rfl fun b10 w S => ?_
  refine e_st (vs := At.v) S 0 rfl rfl rfl rfl (by simp [Tl.v, Value.flat]) (by simp [zT, Tl.v]) fun w S => ?_
  replace S : Dn.Sep w ((Lt ++ Li) ++ s'.L) F := Sep.drop (L2 := [_]) S
  (repeat (first|(with_reducible first|refine Ja ?_|refine Jb ?_|refine Jc ?_|refine Jd ?_|refine Je ?_|refine Jf ?_|refine Jg ?_|refine Jh ?_|refine Ji ?_|refine Jj ?_|refine Jk rfl ?_|refine Jl ?_|refine Jm ?_|refine Jn ?_|refine Jo ?_|refine Jp ?_|refine Jq ?_)|refine JA rfl ?_|refine JB rfl ?_|refine JC rfl ?_|refine JD rfl ?_|refine JE rfl ?_|refine JF rfl ?_|refine JG rfl ?_|refine JH rfl ?_|refine JI rfl ?_|refine J2 rfl ?_|refine J3 rfl ?_|refine J4 rfl ?_|refine J1 rfl ?_|refine J6 rfl ?_|refine J7 rfl ?_|refine JJ rfl ?_|refine JK rfl ?_|refine JQ rfl ?_|refine JL rfl rfl ?_|refine JM rfl rfl ?_|refine JN rfl ?_|refine JO rfl ?_|refine JP rfl ?_))
  have hsc0 := w_scan s' 0 zT hok
  rw [hs0, hv] at hsc0
  have e1 : (l.take n).length = n := by simp; omega
  simp only [e1] at hsc0
  refine e_call (L2 := Lt ++ Li) rfl hsc0 S ?_
  rintro _ _ w ⟨ado, capo, Lo, rfl, rfl, hOo⟩ S
  refine e_mvT rfl ?_
  refine e_p (v := .slice ado n capo) rfl ?_
  refine e_p (v := .agg ⟨(tailAt l n).v⟩) rfl ?_
  refine e_p (v := .int .i64 0) rfl ?_
  refine e_nwE S (cs' := zT.v) rfl fun b13 w S => ?_
  refine e_mvL rfl ?_
  refine e_st (vs := (tailAt l n).v) S 0 rfl rfl rfl rfl (by simp [Tl.v, Value.flat]) (by simp [zT, Tl.v]) fun w S => ?_
  refine e_mvI rfl ?_
  replace S : Dn.Sep w ([(b13, .cells ⟨(tailAt l n).v⟩ 31)] ++ ((Lt ++ Li) ++ (s'.L ++ Lo))) F := S
  obtain ⟨XS, hXS⟩ : ∃ XS, [(b13, Obj.cells ⟨(tailAt l n).v⟩ 31)] ++ ((Lt ++ Li) ++ Lo) = XS := ⟨_, rfl⟩
  replace S : Dn.Sep w (XS ++ s'.L) F := by
    rw [← hXS, List.append_assoc, List.append_assoc]
    exact S.perm ((List.Perm.refl _).append ((List.Perm.refl _).append List.perm_append_comm))
  have hb13 : (b13, Obj.cells ⟨(tailAt l n).v⟩ 31) ∈ XS := by rw [← hXS]; simp
  have hLt : ∀ x ∈ Lt, x ∈ XS := by intro x hx; rw [← hXS]; simp [hx]
  have hLi : ∀ x ∈ Li, x ∈ XS := by intro x hx; rw [← hXS]; simp [hx]
  have hLo : ∀ x ∈ Lo, x ∈ XS := by intro x hx; rw [← hXS]; simp [hx]
  clear hXS
  (repeat (first|(with_reducible first|refine Ja ?_|refine Jb ?_|refine Jc ?_|refine Jd ?_|refine Je ?_|refine Jf ?_|refine Jg ?_|refine Jh ?_|refine Ji ?_|refine Jj ?_|refine Jk rfl ?_|refine Jl ?_|refine Jm ?_|refine Jn ?_|refine Jo ?_|refine Jp ?_|refine Jq ?_)|refine JA rfl ?_|refine JB rfl ?_|refine JC rfl ?_|refine JD rfl ?_|refine JE rfl ?_|refine JF rfl ?_|refine JG rfl ?_|refine JH rfl ?_|refine JI rfl ?_|refine J2 rfl ?_|refine J3 rfl ?_|refine J4 rfl ?_|refine J1 rfl ?_|refine J6 rfl ?_|refine J7 rfl ?_|refine JJ rfl ?_|refine JK rfl ?_|refine JQ rfl ?_|refine JL rfl rfl ?_|refine JM rfl rfl ?_|refine JN rfl ?_|refine JO rfl ?_|refine JP rfl ?_))
  have hsc1 := w_scan s' 1 zT hok
  rw [hs1, hv] at hsc1
  refine e_call (L2 := XS) rfl hsc1 S ?_
  rintro _ _ w ⟨adm, capm, Lm, rfl, rfl, hOm⟩ S
  refine e_mvT rfl ?_
  refine e_p (v := .slice adm more.length capm) rfl ?_
  refine e_p (v := .agg ⟨t1.v⟩) rfl ?_
  refine e_p (v := .int .i64 0) rfl ?_
  refine e_nwE S (cs' := zT.v) rfl fun b16 w S => ?_
  refine e_mvL rfl ?_
  refine e_st (vs := t1.v) S 0 rfl rfl rfl rfl (by simp [Tl.v, Value.flat]) (by simp [zT, Tl.v]) fun w S => ?_
  refine e_mvI rfl ?_
  replace S : Dn.Sep w (XS ++ (s'.L ++ Lm)) F := Sep.drop (L2 := [_]) S
  (repeat (with_reducible first|refine Ja ?_|refine Jb ?_|refine Jc ?_|refine Jd ?_|refine Je ?_|refine Jf ?_|refine Jg ?_|refine Jh ?_|refine Ji ?_|refine Jj ?_|refine Jk rfl ?_|refine Jl ?_|refine Jm ?_|refine Jn ?_|refine Jo ?_|refine Jp ?_|refine Jq ?_))
  refine s_opsd ?_
  replace S := S.drew
  refine e_callP rfl l_sanity S fun w S => ?_
  (repeat (first|(with_reducible first|refine Ja ?_|refine Jb ?_|refine Jc ?_|refine Jd ?_|refine Je ?_|refine Jf ?_|refine Jg ?_|refine Jh ?_|refine Ji ?_|refine Jj ?_|refine Jk rfl ?_|refine Jl ?_|refine Jm ?_|refine Jn ?_|refine Jo ?_|refine Jp ?_|refine Jq ?_)|refine JA rfl ?_|refine JB rfl ?_|refine JC rfl ?_|refine JD rfl ?_|refine JE rfl ?_|refine JF rfl ?_|refine JG rfl ?_|refine JH rfl ?_|refine JI rfl ?_|refine J2 rfl ?_|refine J3 rfl ?_|refine J4 rfl ?_|refine J1 rfl ?_|refine J6 rfl ?_|refine J7 rfl ?_|refine JJ rfl ?_|refine JK rfl ?_|refine JQ rfl ?_|refine JL rfl rfl ?_|refine JM rfl rfl ?_|refine JN rfl ?_|refine JO rfl ?_|refine JP rfl ?_))
  have hmem : ∀ {x}, x ∈ XS → x ∈ XS ++ (s'.L ++ Lm) := fun h => List.mem_append_left _ h
  refine e_ld (v := .agg ⟨(tailAt l n).v⟩) (rowM S (ty := 31) (fr := (0, 0)) (cs := (tailAt l n).v) (hmem hb13) (by simp [Tl.v]) rfl) ?_
  refine e_gdT rfl ?_
  refine e_mvL rfl ?_
  refine e_gdT rfl ?_
  refine e_mvL rfl ?_
  refine e_gdT rfl ?_
  refine e_p (v := .int .i64 ((n : Int) + 1)) rfl ?_
  refine e_gdT rfl ?_
  refine e_sub (a := (n : Int) + 1) (b := 1) rfl rfl (by omega) (by omega) ?_
  rcases hOt.own with ⟨_, hcp, _⟩ | ⟨bt, sp, lo, hi0, rfl, hsp, hfr0, eLt⟩
  · have := hOt.le; omega
  have htl : ((List.range (n + 1)).map (tailAt l)).length = n + 1 := by simp
  refine e_gdT rfl ?_
  refine e_ixa rfl rfl (by omega) (by omega) ?_
  rw [show 0 + ((n : Int) + 1 - 1).toNat * 4 = n * 4 by omega]
  refine e_gdT rfl ?_
  refine e_ld (v := .agg ⟨(tailAt l n).v⟩) (rowM S (ty := 31) (fr := (lo, hi0)) (cs := ((List.range (n + 1)).map (tailAt l)).flatMap Tl.v ++ sp) (hmem (hLt _ (by rw [eLt]; exact List.mem_singleton.2 rfl))) (by rw [List.length_append, tls_len, htl]; omega) (by rw [tls_at _ _ (by rw [htl]; omega)]; simp)) ?_
  refine e_gdT rfl ?_
  refine e_p (eqc_tl (p := tailAt l n) (q := tailAt l n) rfl rfl) ?_
  rw [decide_eq_true rfl]
  (repeat (with_reducible first|refine Ja ?_|refine Jb ?_|refine Jc ?_|refine Jd ?_|refine Je ?_|refine Jf ?_|refine Jg ?_|refine Jh ?_|refine Ji ?_|refine Jj ?_|refine Jk rfl ?_|refine Jl ?_|refine Jm ?_|refine Jn ?_|refine Jo ?_|refine Jp ?_|refine Jq ?_))
  refine e_pkTB rfl rfl ?_
  refine e_mvB rfl ?_
  refine e_gdT rfl ?_
  refine e_mvL rfl ?_
  refine e_gdT rfl ?_
  refine e_mvL rfl ?_
  refine e_gdT rfl ?_
  have hsame := l_same ado adi capo capi (l.take n) (l.take n) (by omega)
  rw [e1] at hsame
  refine e_callFN rfl hsame S ?_ ?_
  · have S' : Dn.Sep w ((XS ++ (s'.L ++ Lm)) ++ []) F := by simpa using S
    exact ⟨hOo.fsl S' (fun x hx => hmem (hLo x hx)), hOi.fsl S' (fun x hx => hmem (hLi x hx))⟩
  rintro _ _ w ⟨rfl, rfl⟩ S
  rw [decide_eq_true rfl]
  replace S : Dn.Sep w (XS ++ (s'.L ++ Lm)) F := by simpa using S
  rcases hcase with ⟨k1, rfl⟩ | ⟨rfl, rfl⟩
  · (repeat (with_reducible first|refine Ja ?_|refine Jb ?_|refine Jc ?_|refine Jd ?_|refine Je ?_|refine Jf ?_|refine Jg ?_|refine Jh ?_|refine Ji ?_|refine Jj ?_|refine Jk rfl ?_|refine Jl ?_|refine Jm ?_|refine Jn ?_|refine Jo ?_|refine Jp ?_|refine Jq ?_))
    refine e_pkTB rfl rfl ?_
    refine e_mvB rfl ?_
    refine e_gdT rfl ?_
    refine e_mvI rfl ?_
    refine e_gdT rfl ?_
    refine e_p (v := .bool true) rfl ?_
    refine e_pkTB rfl rfl ?_
    refine e_mvB rfl ?_
    refine e_gdT rfl ?_
    refine e_mvI rfl ?_
    refine e_gdT rfl ?_
    refine e_p (cmp_neqD rfl rfl) ?_
    rw [decide_eq_false k1]
    refine e_gdT rfl ?_
    refine e_mvB (b := true) rfl ?_
    refine e_gdT rfl ?_
    refine e_mvL rfl ?_
    refine e_gdT rfl ?_
    refine e_p (v := .int .i64 0) rfl ?_
    refine e_gdT rfl ?_
    refine e_p (v := .bool true) rfl ?_
    (repeat (first|(with_reducible first|refine Ja ?_|refine Jb ?_|refine Jc ?_|refine Jd ?_|refine Je ?_|refine Jf ?_|refine Jg ?_|refine Jh ?_|refine Ji ?_|refine Jj ?_|refine Jk rfl ?_|refine Jl ?_|refine Jm ?_|refine Jn ?_|refine Jo ?_|refine Jp ?_|refine Jq ?_)|refine JA rfl ?_|refine JB rfl ?_|refine JC rfl ?_|refine JD rfl ?_|refine JE rfl ?_|refine JF rfl ?_|refine JG rfl ?_|refine JH rfl ?_|refine JI rfl ?_|refine J2 rfl ?_|refine J3 rfl ?_|refine J4 rfl ?_|refine J1 rfl ?_|refine J6 rfl ?_|refine J7 rfl ?_|refine JJ rfl ?_|refine JK rfl ?_|refine JQ rfl ?_|refine JL rfl rfl ?_|refine JM rfl rfl ?_|refine JN rfl ?_|refine JO rfl ?_|refine JP rfl ?_))
    exact f_ret rfl rfl (hQ _ _ _ rfl S)
  · have hOm1 : OwnT adm 1 capm [o] Lm := hOm
    (repeat (first|(with_reducible first|refine Ja ?_|refine Jb ?_|refine Jc ?_|refine Jd ?_|refine Je ?_|refine Jf ?_|refine Jg ?_|refine Jh ?_|refine Ji ?_|refine Jj ?_|refine Jk rfl ?_|refine Jl ?_|refine Jm ?_|refine Jn ?_|refine Jo ?_|refine Jp ?_|refine Jq ?_)|refine JA rfl ?_|refine JB rfl ?_|refine JC rfl ?_|refine JD rfl ?_|refine JE rfl ?_|refine JF rfl ?_|refine JG rfl ?_|refine JH rfl ?_|refine JI rfl ?_|refine J2 rfl ?_|refine J3 rfl ?_|refine J4 rfl ?_|refine J1 rfl ?_|refine J6 rfl ?_|refine J7 rfl ?_|refine JJ rfl ?_|refine JK rfl ?_|refine JQ rfl ?_|refine JL rfl rfl ?_|refine JM rfl rfl ?_|refine JN rfl ?_|refine JO rfl ?_|refine JP rfl ?_))
    refine e_bsl (size := 1) (xs := [strV o]) S Try.underlying22 rfl rfl ⟨_, rfl⟩ (by omega) (by omega) (fun zs hz => (match zs, hz with | [u], _ => rfl)) fun bs w S => ?_
    have hO2 : OwnT (some ⟨bs, 0, none⟩) 1 1 [o] [(bs, .cells ⟨[strV o]⟩ 9)] := OwnS.row (xs := [o].map strV) rfl
    refine e_gdT rfl ?_
    refine e_callFN rfl (l_same adm (some ⟨bs, 0, none⟩) capm 1 [o] [o] (by simp)) S ?_ ?_
    · have S' : Dn.Sep w (((XS ++ (s'.L ++ Lm)) ++ [(bs, Obj.cells ⟨[strV o]⟩ 9)]) ++ []) F := by simpa using S
      exact ⟨hOm1.fslI S' (fun x hx => by simp [hx]), hO2.fslI S' (fun x hx => by simp at hx; simp [hx])⟩
    rintro _ _ w ⟨rfl, rfl⟩ S
    rw [decide_eq_true rfl]
    (repeat (first|(with_reducible first|refine Ja ?_|refine Jb ?_|refine Jc ?_|refine Jd ?_|refine Je ?_|refine Jf ?_|refine Jg ?_|refine Jh ?_|refine Ji ?_|refine Jj ?_|refine Jk rfl ?_|refine Jl ?_|refine Jm ?_|refine Jn ?_|refine Jo ?_|refine Jp ?_|refine Jq ?_)|refine JA rfl ?_|refine JB rfl ?_|refine JC rfl ?_|refine JD rfl ?_|refine JE rfl ?_|refine JF rfl ?_|refine JG rfl ?_|refine JH rfl ?_|refine JI rfl ?_|refine J2 rfl ?_|refine J3 rfl ?_|refine J4 rfl ?_|refine J1 rfl ?_|refine J6 rfl ?_|refine J7 rfl ?_|refine JJ rfl ?_|refine JK rfl ?_|refine JQ rfl ?_|refine JL rfl rfl ?_|refine JM rfl rfl ?_|refine JN rfl ?_|refine JO rfl ?_|refine JP rfl ?_))
    exact f_ret rfl rfl (hQ _ _ _ rfl S)

end Go.Proofs.Ytgendpinmmmfjaa

/-
  The walk of WalRestarts.
-/
namespace Go.Proofs.Ytgendpinmmmfjaa
open Dn
attribute [local irreducible] Evs Ev EvT DSpec PSpec CallTo
set_option maxRecDepth 100000
set_option maxHeartbeats 4000000

theorem swap3 {α : Type} (X Y Z : List α) : ((X ++ Y) ++ Z).Perm ((X ++ Z) ++ Y) := perm_tail X Y Z

theorem law_restarts (size : Int) (ad : Option Addr) (cap : Nat) (l : List Sec) (ad2 : Option Addr) (cap2 : Nat) (m : List Sec) (hb : l.length < 4611686018427387904) (hr : ∀ r ∈ l, r.length < 4611686018427387904) (hb2 : m.length < 4611686018427387904) (hr2 : ∀ r ∈ m, r.length < 4611686018427387904) :
    DSpecF Try.prog 4 [.int .i64 size, .slice ad l.length cap, .slice ad2 m.length cap2] [] (fun F => FSl F ad (l.map strV) ∧ FSl F ad2 (m.map strV)) fun v _ => v = .bool true := by
  refine specF_of mix Try.func4 c4_eq rfl rfl fun w F Q ⟨hF, hF2⟩ S hQ => ?_
  (repeat (first|(with_reducible first|refine Ja ?_|refine Jb ?_|refine Jc ?_|refine Jd ?_|refine Je ?_|refine Jf ?_|refine Jg ?_|refine Jh ?_|refine Ji ?_|refine Jj ?_|refine Jk rfl ?_|refine Jl ?_|refine Jm ?_|refine Jn ?_|refine Jo ?_|refine Jp ?_|refine Jq ?_)|refine JA rfl ?_|refine JB rfl ?_|refine JC rfl ?_|refine JD rfl ?_|refine JE rfl ?_|refine JF rfl ?_|refine JG rfl ?_|refine JH rfl ?_|refine JI rfl ?_|refine J2 rfl ?_|refine J3 rfl ?_|refine J4 rfl ?_|refine J1 rfl ?_|refine J6 rfl ?_|refine J7 rfl ?_|refine JJ rfl ?_|refine JK rfl ?_|refine JQ rfl ?_|refine JL rfl rfl ?_|refine JM rfl rfl ?_|refine JN rfl ?_|refine JO rfl ?_|refine JP rfl ?_))
  refine e_brD rfl (fun h1 => ?_) (fun h1 => ?_)
  · (repeat (first|(with_reducible first|refine Ja ?_|refine Jb ?_|refine Jc ?_|refine Jd ?_|refine Je ?_|refine Jf ?_|refine Jg ?_|refine Jh ?_|refine Ji ?_|refine Jj ?_|refine Jk rfl ?_|refine Jl ?_|refine Jm ?_|refine Jn ?_|refine Jo ?_|refine Jp ?_|refine Jq ?_)|refine JA rfl ?_|refine JB rfl ?_|refine JC rfl ?_|refine JD rfl ?_|refine JE rfl ?_|refine JF rfl ?_|refine JG rfl ?_|refine JH rfl ?_|refine JI rfl ?_|refine J2 rfl ?_|refine J3 rfl ?_|refine J4 rfl ?_|refine J1 rfl ?_|refine J6 rfl ?_|refine J7 rfl ?_|refine JJ rfl ?_|refine JK rfl ?_|refine JQ rfl ?_|refine JL rfl rfl ?_|refine JM rfl rfl ?_|refine JN rfl ?_|refine JO rfl ?_|refine JP rfl ?_))
    refine e_callP rfl l_sanity S fun w S => ?_
    (repeat (first|(with_reducible first|refine Ja ?_|refine Jb ?_|refine Jc ?_|refine Jd ?_|refine Je ?_|refine Jf ?_|refine Jg ?_|refine Jh ?_|refine Ji ?_|refine Jj ?_|refine Jk rfl ?_|refine Jl ?_|refine Jm ?_|refine Jn ?_|refine Jo ?_|refine Jp ?_|refine Jq ?_)|refine JA rfl ?_|refine JB rfl ?_|refine JC rfl ?_|refine JD rfl ?_|refine JE rfl ?_|refine JF rfl ?_|refine JG rfl ?_|refine JH rfl ?_|refine JI rfl ?_|refine J2 rfl ?_|refine J3 rfl ?_|refine J4 rfl ?_|refine J1 rfl ?_|refine J6 rfl ?_|refine J7 rfl ?_|refine JJ rfl ?_|refine JK rfl ?_|refine JQ rfl ?_|refine JL rfl rfl ?_|refine JM rfl rfl ?_|refine JN rfl ?_|refine JO rfl ?_|refine JP rfl ?_))
    exact f_ret rfl rfl (hQ _ _ _ rfl S)
  (repeat (first|(with_reducible first|refine Ja ?_|refine Jb ?_|refine Jc ?_|refine Jd ?_|refine Je ?_|refine Jf ?_|refine Jg ?_|refine Jh ?_|refine Ji ?_|refine Jj ?_|refine Jk rfl ?_|refine Jl ?_|refine Jm ?_|refine Jn ?_|refine Jo ?_|refine Jp ?_|refine Jq ?_)|refine JA rfl ?_|refine JB rfl ?_|refine JC rfl ?_|refine JD rfl ?_|refine JE rfl ?_|refine JF rfl ?_|refine JG rfl ?_|refine JH rfl ?_|refine JI rfl ?_|refine J2 rfl ?_|refine J3 rfl ?_|refine J4 rfl ?_|refine J1 rfl ?_|refine J6 rfl ?_|refine J7 rfl ?_|refine JJ rfl ?_|refine JK rfl ?_|refine JQ rfl ?_|refine JL rfl rfl ?_|refine JM rfl rfl ?_|refine JN rfl ?_|refine JO rfl ?_|refine JP rfl ?_))
  refine e_brD rfl (fun h2 => ?_) (fun h2 => ?_)
  · (repeat (first|(with_reducible first|refine Ja ?_|refine Jb ?_|refine Jc ?_|refine Jd ?_|refine Je ?_|refine Jf ?_|refine Jg ?_|refine Jh ?_|refine Ji ?_|refine Jj ?_|refine Jk rfl ?_|refine Jl ?_|refine Jm ?_|refine Jn ?_|refine Jo ?_|refine Jp ?_|refine Jq ?_)|refine JA rfl ?_|refine JB rfl ?_|refine JC rfl ?_|refine JD rfl ?_|refine JE rfl ?_|refine JF rfl ?_|refine JG rfl ?_|refine JH rfl ?_|refine JI rfl ?_|refine J2 rfl ?_|refine J3 rfl ?_|refine J4 rfl ?_|refine J1 rfl ?_|refine J6 rfl ?_|refine J7 rfl ?_|refine JJ rfl ?_|refine JK rfl ?_|refine JQ rfl ?_|refine JL rfl rfl ?_|refine JM rfl rfl ?_|refine JN rfl ?_|refine JO rfl ?_|refine JP rfl ?_))
    refine e_callP rfl l_sanity S fun w S => ?_
    (repeat (first|(with_reducible first|refine Ja ?_|refine Jb ?_|refine Jc ?_|refine Jd ?_|refine Je ?_|refine Jf ?_|refine Jg ?_|refine Jh ?_|refine Ji ?_|refine Jj ?_|refine Jk rfl ?_|refine Jl ?_|refine Jm ?_|refine Jn ?_|refine Jo ?_|refine Jp ?_|refine Jq ?_)|refine JA rfl ?_|refine JB rfl ?_|refine JC rfl ?_|refine JD rfl ?_|refine JE rfl ?_|refine JF rfl ?_|refine JG rfl ?_|refine JH rfl ?_|refine JI rfl ?_|refine J2 rfl ?_|refine J3 rfl ?_|refine J4 rfl ?_|refine J1 rfl ?_|refine J6 rfl ?_|refine J7 rfl ?_|refine JJ rfl ?_|refine JK rfl ?_|refine JQ rfl ?_|refine JL rfl rfl ?_|refine JM rfl rfl ?_|refine JN rfl ?_|refine JO rfl ?_|refine JP rfl ?_))
    exact f_ret rfl rfl (hQ _ _ _ rfl S)
  (repeat (with_reducible first|refine Ja ?_|refine Jb ?_|refine Jc ?_|refine Jd ?_|refine Je ?_|refine Jf ?_|refine Jg ?_|refine Jh ?_|refine Ji ?_|refine Jj ?_|refine Jk rfl ?_|refine Jl ?_|refine Jm ?_|refine Jn ?_|refine Jo ?_|refine Jp ?_|refine Jq ?_))
  refine e_gdT rfl ?_
  refine e_mvL rfl ?_
  refine e_gdT rfl ?_
  refine e_p (v := .int .i64 ((l.length : Nat) : Int)) rfl ?_
  (repeat (first|(with_reducible first|refine Ja ?_|refine Jb ?_|refine Jc ?_|refine Jd ?_|refine Je ?_|refine Jf ?_|refine Jg ?_|refine Jh ?_|refine Ji ?_|refine Jj ?_|refine Jk rfl ?_|refine Jl ?_|refine Jm ?_|refine Jn ?_|refine Jo ?_|refine Jp ?_|refine Jq ?_)|refine JA rfl ?_|refine JB rfl ?_|refine JC rfl ?_|refine JD rfl ?_|refine JE rfl ?_|refine JF rfl ?_|refine JG rfl ?_|refine JH rfl ?_|refine JI rfl ?_|refine J2 rfl ?_|refine J3 rfl ?_|refine J4 rfl ?_|refine J1 rfl ?_|refine J6 rfl ?_|refine J7 rfl ?_|refine JJ rfl ?_|refine JK rfl ?_|refine JQ rfl ?_|refine JL rfl rfl ?_|refine JM rfl rfl ?_|refine JN rfl ?_|refine JO rfl ?_|refine JP rfl ?_))
  refine e_brD rfl (fun h3 => ?_) (fun h3 => ?_)
  · (repeat (first|(with_reducible first|refine Ja ?_|refine Jb ?_|refine Jc ?_|refine Jd ?_|refine Je ?_|refine Jf ?_|refine Jg ?_|refine Jh ?_|refine Ji ?_|refine Jj ?_|refine Jk rfl ?_|refine Jl ?_|refine Jm ?_|refine Jn ?_|refine Jo ?_|refine Jp ?_|refine Jq ?_)|refine JA rfl ?_|refine JB rfl ?_|refine JC rfl ?_|refine JD rfl ?_|refine JE rfl ?_|refine JF rfl ?_|refine JG rfl ?_|refine JH rfl ?_|refine JI rfl ?_|refine J2 rfl ?_|refine J3 rfl ?_|refine J4 rfl ?_|refine J1 rfl ?_|refine J6 rfl ?_|refine J7 rfl ?_|refine JJ rfl ?_|refine JK rfl ?_|refine JQ rfl ?_|refine JL rfl rfl ?_|refine JM rfl rfl ?_|refine JN rfl ?_|refine JO rfl ?_|refine JP rfl ?_))
    refine e_callP rfl l_sanity S fun w S => ?_
    (repeat (first|(with_reducible first|refine Ja ?_|refine Jb ?_|refine Jc ?_|refine Jd ?_|refine Je ?_|refine Jf ?_|refine Jg ?_|refine Jh ?_|refine Ji ?_|refine Jj ?_|refine Jk rfl ?_|refine Jl ?_|refine Jm ?_|refine Jn ?_|refine Jo ?_|refine Jp ?_|refine Jq ?_)|refine JA rfl ?_|refine JB rfl ?_|refine JC rfl ?_|refine JD rfl ?_|refine JE rfl ?_|refine JF rfl ?_|refine JG rfl ?_|refine JH rfl ?_|refine JI rfl ?_|refine J2 rfl ?_|refine J3 rfl ?_|refine J4 rfl ?_|refine J1 rfl ?_|refine J6 rfl ?_|refine J7 rfl ?_|refine JJ rfl ?_|refine JK rfl ?_|refine JQ rfl ?_|refine JL rfl rfl ?_|refine JM rfl rfl ?_|refine JN rfl ?_|refine JO rfl ?_|refine JP rfl ?_))
    exact f_ret rfl rfl (hQ _ _ _ rfl S)
  (repeat (with_reducible first|refine Ja ?_|refine Jb ?_|refine Jc ?_|refine Jd ?_|refine Je ?_|refine Jf ?_|refine Jg ?_|refine Jh ?_|refine Ji ?_|refine Jj ?_|refine Jk rfl ?_|refine Jl ?_|refine Jm ?_|refine Jn ?_|refine Jo ?_|refine Jp ?_|refine Jq ?_))
  refine e_gdT rfl ?_
  refine e_mvL rfl ?_
  refine e_gdT rfl ?_
  refine e_p (v := .int .i64 ((m.length : Nat) : Int)) rfl ?_
  (repeat (first|(with_reducible first|refine Ja ?_|refine Jb ?_|refine Jc ?_|refine Jd ?_|refine Je ?_|refine Jf ?_|refine Jg ?_|refine Jh ?_|refine Ji ?_|refine Jj ?_|refine Jk rfl ?_|refine Jl ?_|refine Jm ?_|refine Jn ?_|refine Jo ?_|refine Jp ?_|refine Jq ?_)|refine JA rfl ?_|refine JB rfl ?_|refine JC rfl ?_|refine JD rfl ?_|refine JE rfl ?_|refine JF rfl ?_|refine JG rfl ?_|refine JH rfl ?_|refine JI rfl ?_|refine J2 rfl ?_|refine J3 rfl ?_|refine J4 rfl ?_|refine J1 rfl ?_|refine J6 rfl ?_|refine J7 rfl ?_|refine JJ rfl ?_|refine JK rfl ?_|refine JQ rfl ?_|refine JL rfl rfl ?_|refine JM rfl rfl ?_|refine JN rfl ?_|refine JO rfl ?_|refine JP rfl ?_))
  refine s_iteD rfl (fun h4 => ?_) (fun h4 => ?_)
  · (repeat (first|(with_reducible first|refine Ja ?_|refine Jb ?_|refine Jc ?_|refine Jd ?_|refine Je ?_|refine Jf ?_|refine Jg ?_|refine Jh ?_|refine Ji ?_|refine Jj ?_|refine Jk rfl ?_|refine Jl ?_|refine Jm ?_|refine Jn ?_|refine Jo ?_|refine Jp ?_|refine Jq ?_)|refine JA rfl ?_|refine JB rfl ?_|refine JC rfl ?_|refine JD rfl ?_|refine JE rfl ?_|refine JF rfl ?_|refine JG rfl ?_|refine JH rfl ?_|refine JI rfl ?_|refine J2 rfl ?_|refine J3 rfl ?_|refine J4 rfl ?_|refine J1 rfl ?_|refine J6 rfl ?_|refine J7 rfl ?_|refine JJ rfl ?_|refine JK rfl ?_|refine JQ rfl ?_|refine JL rfl rfl ?_|refine JM rfl rfl ?_|refine JN rfl ?_|refine JO rfl ?_|refine JP rfl ?_))
    refine e_callP rfl l_sanity S fun w S => ?_
    (repeat (first|(with_reducible first|refine Ja ?_|refine Jb ?_|refine Jc ?_|refine Jd ?_|refine Je ?_|refine Jf ?_|refine Jg ?_|refine Jh ?_|refine Ji ?_|refine Jj ?_|refine Jk rfl ?_|refine Jl ?_|refine Jm ?_|refine Jn ?_|refine Jo ?_|refine Jp ?_|refine Jq ?_)|refine JA rfl ?_|refine JB rfl ?_|refine JC rfl ?_|refine JD rfl ?_|refine JE rfl ?_|refine JF rfl ?_|refine JG rfl ?_|refine JH rfl ?_|refine JI rfl ?_|refine J2 rfl ?_|refine J3 rfl ?_|refine J4 rfl ?_|refine J1 rfl ?_|refine J6 rfl ?_|refine J7 rfl ?_|refine JJ rfl ?_|refine JK rfl ?_|refine JQ rfl ?_|refine JL rfl rfl ?_|refine JM rfl rfl ?_|refine JN rfl ?_|refine JO rfl ?_|refine JP rfl ?_))
    exact f_ret rfl rfl (hQ _ _ _ rfl S)
  have hl : l.length ≤ 40 := by omega
  have hm : m.length ≤ 40 := by omega
  (repeat (first|(with_reducible first|refine Ja ?_|refine Jb ?_|refine Jc ?_|refine Jd ?_|refine Je ?_|refine Jf ?_|refine Jg ?_|refine Jh ?_|refine Ji ?_|refine Jj ?_|refine Jk rfl ?_|refine Jl ?_|refine Jm ?_|refine Jn ?_|refine Jo ?_|refine Jp ?_|refine Jq ?_)|refine JA rfl ?_|refine JB rfl ?_|refine JC rfl ?_|refine JD rfl ?_|refine JE rfl ?_|refine JF rfl ?_|refine JG rfl ?_|refine JH rfl ?_|refine JI rfl ?_|refine J2 rfl ?_|refine J3 rfl ?_|refine J4 rfl ?_|refine J1 rfl ?_|refine J6 rfl ?_|refine J7 rfl ?_|refine JJ rfl ?_|refine JK rfl ?_|refine JQ rfl ?_|refine JL rfl rfl ?_|refine JM rfl rfl ?_|refine JN rfl ?_|refine JO rfl ?_|refine JP rfl ?_))
  refine e_callF (L2 := []) (L1 := []) rfl (l_log2 size ad cap l (by omega) (by omega) hl hr) S (by simpa using hF.add (L2 := []) S) ?_
  rintro _ _ w ⟨s1, n, adt, capt, Lt, adi, capi, Li, hL, rfl, rfl, hOt, hOi⟩ S
  replace S : Dn.Sep w (s1.L ++ (Lt ++ Li)) F := S
  refine e_mvT rfl ?_
  refine e_p (v := s1.v) rfl ?_
  refine e_p (v := .slice adt (n + 1) capt) rfl ?_
  refine e_p (v := .slice adi n capi) rfl ?_
  refine e_p (v := s1.v) rfl ?_
  refine e_mvL rfl ?_
  refine e_mvL rfl ?_
  (repeat (first|(with_reducible first|refine Ja ?_|refine Jb ?_|refine Jc ?_|refine Jd ?_|refine Je ?_|refine Jf ?_|refine Jg ?_|refine Jh ?_|refine Ji ?_|refine Jj ?_|refine Jk rfl ?_|refine Jl ?_|refine Jm ?_|refine Jn ?_|refine Jo ?_|refine Jp ?_|refine Jq ?_)|refine JA rfl ?_|refine JB rfl ?_|refine JC rfl ?_|refine JD rfl ?_|refine JE rfl ?_|refine JF rfl ?_|refine JG rfl ?_|refine JH rfl ?_|refine JI rfl ?_|refine J2 rfl ?_|refine J3 rfl ?_|refine J4 rfl ?_|refine J1 rfl ?_|refine J6 rfl ?_|refine J7 rfl ?_|refine JJ rfl ?_|refine JK rfl ?_|refine JQ rfl ?_|refine JL rfl rfl ?_|refine JM rfl rfl ?_|refine JN rfl ?_|refine JO rfl ?_|refine JP rfl ?_))
  have hle := hL.le
  have hdk : (2 : Int) ≤ (lawCfg size).disks := by show (2 : Int) ≤ 2; omega
  rcases hOt.own with ⟨_, hcp, _⟩ | ⟨bt, sp, lo, hi0, rfl, hsp, hfr0, eLt⟩
  · have := hOt.le; omega
  have htl : ((List.range (n + 1)).map (tailAt l)).length = n + 1 := by simp
  refine e_sub (a := (n : Int) + 1) (b := 1) rfl rfl (by omega) (by omega) ?_
  refine e_ixa rfl rfl (by omega) (by omega) ?_
  rw [show 0 + ((n : Int) + 1 - 1).toNat * 4 = n * 4 by omega]
  refine e_ld (v := .agg ⟨(tailAt l n).v⟩) (rowM S (ty := 31) (fr := (lo, hi0)) (cs := ((List.range (n + 1)).map (tailAt l)).flatMap Tl.v ++ sp) (by rw [eLt]; simp) (by rw [List.length_append, tls_len, htl]; omega) (by rw [tls_at _ _ (by rw [htl]; omega)]; simp)) ?_
  obtain ⟨Y, hY⟩ : ∃ Y, Lt ++ Li = Y := ⟨_, rfl⟩
  rw [hY] at S
  clear hY
  replace S : Dn.Sep w (Y ++ s1.L) F := S.perm List.perm_append_comm
  refine e_nwE S (cs' := zT.v) rfl fun b10 w S => ?_
  refine e_st (vs := (tailAt l n).v) S 0 rfl rfl rfl rfl (by simp [Tl.v, Value.flat]) (by simp [zT, Tl.v]) fun w S => ?_
  (repeat (first|(with_reducible first|refine Ja ?_|refine Jb ?_|refine Jc ?_|refine Jd ?_|refine Je ?_|refine Jf ?_|refine Jg ?_|refine Jh ?_|refine Ji ?_|refine Jj ?_|refine Jk rfl ?_|refine Jl ?_|refine Jm ?_|refine Jn ?_|refine Jo ?_|refine Jp ?_|refine Jq ?_)|refine JA rfl ?_|refine JB rfl ?_|refine JC rfl ?_|refine JD rfl ?_|refine JE rfl ?_|refine JF rfl ?_|refine JG rfl ?_|refine JH rfl ?_|refine JI rfl ?_|refine J2 rfl ?_|refine J3 rfl ?_|refine J4 rfl ?_|refine J1 rfl ?_|refine J6 rfl ?_|refine J7 rfl ?_|refine JJ rfl ?_|refine JK rfl ?_|refine JQ rfl ?_|refine JL rfl rfl ?_|refine JM rfl rfl ?_|refine JN rfl ?_|refine JO rfl ?_|refine JP rfl ?_))
  refine e_st (vs := [.int .i64 0]) S 0 rfl rfl rfl rfl (by simp [Value.flat]) (by simp [putAt, Tl.v]) fun w S => ?_
  replace S : Dn.Sep w ((b10, .cells ⟨(from0 l n).v⟩ 31) :: (Y ++ s1.L)) F := S
  (repeat (first|(with_reducible first|refine Ja ?_|refine Jb ?_|refine Jc ?_|refine Jd ?_|refine Je ?_|refine Jf ?_|refine Jg ?_|refine Jh ?_|refine Ji ?_|refine Jj ?_|refine Jk rfl ?_|refine Jl ?_|refine Jm ?_|refine Jn ?_|refine Jo ?_|refine Jp ?_|refine Jq ?_)|refine JA rfl ?_|refine JB rfl ?_|refine JC rfl ?_|refine JD rfl ?_|refine JE rfl ?_|refine JF rfl ?_|refine JG rfl ?_|refine JH rfl ?_|refine JI rfl ?_|refine J2 rfl ?_|refine J3 rfl ?_|refine J4 rfl ?_|refine J1 rfl ?_|refine J6 rfl ?_|refine J7 rfl ?_|refine JJ rfl ?_|refine JK rfl ?_|refine JQ rfl ?_|refine JL rfl rfl ?_|refine JM rfl rfl ?_|refine JN rfl ?_|refine JO rfl ?_|refine JP rfl ?_))
  refine e_ld (v := .agg ⟨(from0 l n).v⟩) (S.row 0 rfl (by simp [Tl.v]) rfl) ?_
  refine e_nwE S (cs' := zT.v) rfl fun b11 w S => ?_
  refine e_st (vs := (from0 l n).v) S 0 rfl rfl rfl rfl (by simp [Tl.v, Value.flat]) (by simp [zT, Tl.v]) fun w S => ?_
  replace S : Dn.Sep w ((b11, .cells ⟨(tail2 l n m 0).v⟩ 31) :: (b10, .cells ⟨(from0 l n).v⟩ 31) :: (Y ++ s1.L)) F := S
  replace S : Dn.Sep w ((((b11, .cells ⟨(tail2 l n m 0).v⟩ 31) :: (b10, .cells ⟨(from0 l n).v⟩ 31) :: Y) ++ []) ++ s1.L) F := by simpa using S
  (repeat (with_reducible first|refine Ja ?_|refine Jb ?_|refine Jc ?_|refine Jd ?_|refine Je ?_|refine Jf ?_|refine Jg ?_|refine Jh ?_|refine Ji ?_|refine Jj ?_|refine Jk rfl ?_|refine Jl ?_|refine Jm ?_|refine Jn ?_|refine Jo ?_|refine Jp ?_|refine Jq ?_))
  refine e_mvL rfl ?_
  (repeat (with_reducible first|refine Jc ?_|refine Jd ?_|refine Je ?_|refine Jf ?_|refine Jg ?_|refine Jh ?_|refine Ji ?_|refine Jj ?_|refine Jk rfl ?_|refine Jl ?_|refine Jm ?_|refine Jn ?_|refine Jp ?_|refine Jq ?_))
  -- the loop
  refine s_cut (σ := Nat × Sh × Option Addr × Nat × List (Nat × Obj)) (fun q => [(7, s1.v), (10, .pointer (some ⟨b10, 0, none⟩)), (11, .pointer (some ⟨b11, 0, none⟩)), (12, .slice q.2.2.1 q.1 q.2.2.2.1)])
    (fun q w => Again q.2.1 s1 (lawCfg size) l n m q.1 ∧ q.2.1.v = s1.v ∧ OwnT q.2.2.1 q.1 q.2.2.2.1 (m.take q.1) q.2.2.2.2 ∧ Dn.Sep w ((((b11, .cells ⟨(tail2 l n m q.1).v⟩ 31) :: (b10, .cells ⟨(from0 l n).v⟩ 31) :: Y) ++ q.2.2.2.2) ++ q.2.1.L) F) ?_ ?_
  · (repeat (first|(with_reducible first|refine Ja ?_|refine Jb ?_|refine Jc ?_|refine Jd ?_|refine Je ?_|refine Jf ?_|refine Jg ?_|refine Jh ?_|refine Ji ?_|refine Jj ?_|refine Jk rfl ?_|refine Jl ?_|refine Jm ?_|refine Jn ?_|refine Jo ?_|refine Jp ?_|refine Jq ?_)|refine JA rfl ?_|refine JB rfl ?_|refine JC rfl ?_|refine JD rfl ?_|refine JE rfl ?_|refine JF rfl ?_|refine JG rfl ?_|refine JH rfl ?_|refine JI rfl ?_|refine J2 rfl ?_|refine J3 rfl ?_|refine J4 rfl ?_|refine J1 rfl ?_|refine J6 rfl ?_|refine J7 rfl ?_|refine JJ rfl ?_|refine JK rfl ?_|refine JQ rfl ?_|refine JL rfl rfl ?_|refine JM rfl rfl ?_|refine JN rfl ?_|refine JO rfl ?_|refine JP rfl ?_))
    refine s_loop (σ := Nat × Sh × Option Addr × Nat × List (Nat × Obj)) (fun q => [(13, .int .i64 (q.1 : Int)), (2, .slice ad2 m.length cap2), (7, s1.v), (10, .pointer (some ⟨b10, 0, none⟩)), (11, .pointer (some ⟨b11, 0, none⟩)), (12, .slice q.2.2.1 q.1 q.2.2.2.1)])
      (fun q w => Again q.2.1 s1 (lawCfg size) l n m q.1 ∧ q.2.1.v = s1.v ∧ OwnT q.2.2.1 q.1 q.2.2.2.1 (m.take q.1) q.2.2.2.2 ∧ Dn.Sep w ((((b11, .cells ⟨(tail2 l n m q.1).v⟩ 31) :: (b10, .cells ⟨(from0 l n).v⟩ 31) :: Y) ++ q.2.2.2.2) ++ q.2.1.L) F)
      (fun q => m.length - q.1) (0, s1, none, 0, []) ⟨rfl, rfl, rfl, rfl, rfl, rfl, trivial⟩ rfl ⟨again_zero hL m, rfl, OwnS.nil, S⟩ ?_
    rintro gg ⟨i, s, adq, capq, Lq⟩ w ⟨hA, hv, hO, S⟩
    simp only [setL] at hA hv hO S ⊢
    (repeat (with_reducible first|refine Ja ?_|refine Jb ?_|refine Jc ?_|refine Jd ?_|refine Je ?_|refine Jf ?_|refine Jg ?_|refine Jh ?_|refine Ji ?_|refine Jj ?_|refine Jk rfl ?_|refine Jl ?_|refine Jm ?_|refine Jn ?_|refine Jo ?_|refine Jp ?_|refine Jq ?_))
    refine e_mvI rfl ?_
    refine e_mvL rfl ?_
    refine e_p (v := .int .i64 ((m.length : Nat) : Int)) rfl ?_
    (repeat (first|(with_reducible first|refine Ja ?_|refine Jb ?_|refine Jc ?_|refine Jd ?_|refine Je ?_|refine Jf ?_|refine Jg ?_|refine Jh ?_|refine Ji ?_|refine Jj ?_|refine Jk rfl ?_|refine Jl ?_|refine Jm ?_|refine Jn ?_|refine Jo ?_|refine Jp ?_|refine Jq ?_)|refine JA rfl ?_|refine JB rfl ?_|refine JC rfl ?_|refine JD rfl ?_|refine JE rfl ?_|refine JF rfl ?_|refine JG rfl ?_|refine JH rfl ?_|refine JI rfl ?_|refine J2 rfl ?_|refine J3 rfl ?_|refine J4 rfl ?_|refine J1 rfl ?_|refine J6 rfl ?_|refine J7 rfl ?_|refine JJ rfl ?_|refine JK rfl ?_|refine JQ rfl ?_|refine JL rfl rfl ?_|refine JM rfl rfl ?_|refine JN rfl ?_|refine JO rfl ?_|refine JP rfl ?_))
    refine s_iteD rfl (fun h => ?_) (fun h => ?_)
    rotate_left
    · (repeat (first|(with_reducible first|refine Ja ?_|refine Jb ?_|refine Jc ?_|refine Jd ?_|refine Je ?_|refine Jf ?_|refine Jg ?_|refine Jh ?_|refine Ji ?_|refine Jj ?_|refine Jk rfl ?_|refine Jl ?_|refine Jm ?_|refine Jn ?_|refine Jo ?_|refine Jp ?_|refine Jq ?_)|refine JA rfl ?_|refine JB rfl ?_|refine JC rfl ?_|refine JD rfl ?_|refine JE rfl ?_|refine JF rfl ?_|refine JG rfl ?_|refine JH rfl ?_|refine JI rfl ?_|refine J2 rfl ?_|refine J3 rfl ?_|refine J4 rfl ?_|refine J1 rfl ?_|refine J6 rfl ?_|refine J7 rfl ?_|refine JJ rfl ?_|refine JK rfl ?_|refine JQ rfl ?_|refine JL rfl rfl ?_|refine JM rfl rfl ?_|refine JN rfl ?_|refine JO rfl ?_|refine JP rfl ?_))
      exact ⟨rfl, (i, s, adq, capq, Lq), ⟨rfl, rfl, rfl, rfl, trivial⟩, hA, hv, hO, S⟩
    have hi : i < m.length := by omega
    have hstep := again_step hle hA (by omega) (by omega) hi
    have hap := w_append s 0 (tail2 l n m i) ⟨2, (i : Int)⟩ m[i] hA.on.std.ok (hr2 _ (List.getElem_mem hi))
    have hv' := app_v hA.on.std.ok 0 (tail2 l n m i) ⟨2, (i : Int)⟩ m[i]
    obtain ⟨A, hAA⟩ : ∃ A, appendW s 0 (tail2 l n m i) ⟨2, (i : Int)⟩ m[i] = A := ⟨_, rfl⟩
    rw [hAA] at hstep hap hv'
    rw [hv] at hap
    obtain ⟨ba, off, rfl, hcell⟩ := hF2 i _ (strV_get hi)
    (repeat (with_reducible first|refine Jc ?_|refine Jd ?_|refine Je ?_|refine Jf ?_|refine Jg ?_|refine Jh ?_|refine Ji ?_|refine Jj ?_|refine Jk rfl ?_|refine Jl ?_|refine Jm ?_|refine Jn ?_|refine Jp ?_|refine Jq ?_))
    refine s_seq ?_
    (repeat (with_reducible first|refine Jc ?_|refine Jd ?_|refine Je ?_|refine Jf ?_|refine Jg ?_|refine Jh ?_|refine Ji ?_|refine Jj ?_|refine Jk rfl ?_|refine Jl ?_|refine Jm ?_|refine Jn ?_|refine Jp ?_|refine Jq ?_))
    refine s_cut (σ := Nat) (fun b14 => [(14, .pointer (some ⟨b14, 0, none⟩)), (15, .int .i64 A.2.1), (13, .int .i64 (i : Int)), (2, .slice (some ⟨ba, off, none⟩) m.length cap2), (7, s1.v), (10, .pointer (some ⟨b10, 0, none⟩)), (11, .pointer (some ⟨b11, 0, none⟩)), (12, .slice adq i capq)])
      (fun b14 w => Dn.Sep w ((b14, .cells ⟨A.1.v⟩ 31) :: ((((b11, .cells ⟨(tail2 l n m i).v⟩ 31) :: (b10, .cells ⟨(from0 l n).v⟩ 31) :: Y) ++ Lq) ++ A.2.2.L)) F) ?_ ?_
    · (repeat (with_reducible first|refine Ja ?_|refine Jb ?_|refine Jc ?_|refine Jd ?_|refine Je ?_|refine Jf ?_|refine Jg ?_|refine Jh ?_|refine Ji ?_|refine Jj ?_|refine Jk rfl ?_|refine Jl ?_|refine Jm ?_|refine Jn ?_|refine Jo ?_|refine Jp ?_|refine Jq ?_))
      replace S := S.drew
      repeat' first
        | (with_reducible refine t_alt ?_ ?_)
        | (refine e_ld (v := .agg ⟨(tail2 l n m i).v⟩) (S.row 0 rfl (by simp [Tl.v]) rfl) ?_)
        | (refine e_mvL rfl ?_)
        | (refine e_ixa rfl rfl (by omega) (by omega) ?_
           rw [show off + (i : Int).toNat * 1 = off + i by omega]
           refine e_nil (t_ins ?_)
           refine e_ld (v := strV m[i]) (S.fc hcell) ?_)
        | (refine e_call (L2 := _ ++ Lq) rfl hap S ?_
           rintro _ _ w ⟨rfl, rfl⟩ S)
        | (refine e_call (L2 := (_ :: _) ++ Lq) rfl hap S ?_
           rintro _ _ w ⟨rfl, rfl⟩ S)
        | (refine e_nwE S (cs' := zT.v) rfl fun b14 w S => ?_)
        | (refine e_st (vs := A.1.v) S 0 rfl rfl rfl rfl (by simp [Tl.v, Value.flat]) (by simp [zT, Tl.v]) fun w S => ?_)
        | (refine e_p (v := .agg ⟨A.1.v⟩) rfl ?_)
        | (refine e_p (v := .int .i64 A.2.1) rfl ?_)
        | (first|(with_reducible first|refine Ja ?_|refine Jb ?_|refine Jc ?_|refine Jd ?_|refine Je ?_|refine Jf ?_|refine Jg ?_|refine Jh ?_|refine Ji ?_|refine Jj ?_|refine Jk rfl ?_|refine Jl ?_|refine Jm ?_|refine Jn ?_|refine Jo ?_|refine Jp ?_|refine Jq ?_)|refine JA rfl ?_|refine JB rfl ?_|refine JC rfl ?_|refine JD rfl ?_|refine JE rfl ?_|refine JF rfl ?_|refine JG rfl ?_|refine JH rfl ?_|refine JI rfl ?_|refine J2 rfl ?_|refine J3 rfl ?_|refine J4 rfl ?_|refine J1 rfl ?_|refine J6 rfl ?_|refine J7 rfl ?_|refine JJ rfl ?_|refine JK rfl ?_|refine JQ rfl ?_|refine JL rfl rfl ?_|refine JM rfl rfl ?_|refine JN rfl ?_|refine JO rfl ?_|refine JP rfl ?_)
      all_goals exact ⟨rfl, _, ⟨rfl, rfl, rfl, rfl, rfl, rfl, rfl, rfl, trivial⟩, S⟩
    rintro gg2 b14 w S
    simp only [setL]
    (repeat (with_reducible first|refine Ja ?_|refine Jb ?_|refine Jc ?_|refine Jd ?_|refine Je ?_|refine Jf ?_|refine Jg ?_|refine Jh ?_|refine Ji ?_|refine Jj ?_|refine Jk rfl ?_|refine Jl ?_|refine Jm ?_|refine Jn ?_|refine Jo ?_|refine Jp ?_|refine Jq ?_))
    refine e_mvI rfl ?_
    refine e_p (cmp_neqD rfl rfl) ?_
    (repeat (with_reducible first|refine Ja ?_|refine Jb ?_|refine Jc ?_|refine Jd ?_|refine Je ?_|refine Jf ?_|refine Jg ?_|refine Jh ?_|refine Ji ?_|refine Jj ?_|refine Jk rfl ?_|refine Jl ?_|refine Jm ?_|refine Jn ?_|refine Jo ?_|refine Jp ?_|refine Jq ?_))
    rcases hstep with ⟨k1, k2⟩ | ⟨k1, k2, k3⟩
    · refine s_iteN rfl (fun _ => ?_) (fun he => absurd he k1)
      (repeat (first|(with_reducible first|refine Ja ?_|refine Jb ?_|refine Jc ?_|refine Jd ?_|refine Je ?_|refine Jf ?_|refine Jg ?_|refine Jh ?_|refine Ji ?_|refine Jj ?_|refine Jk rfl ?_|refine Jl ?_|refine Jm ?_|refine Jn ?_|refine Jo ?_|refine Jp ?_|refine Jq ?_)|refine JA rfl ?_|refine JB rfl ?_|refine JC rfl ?_|refine JD rfl ?_|refine JE rfl ?_|refine JF rfl ?_|refine JG rfl ?_|refine JH rfl ?_|refine JI rfl ?_|refine J2 rfl ?_|refine J3 rfl ?_|refine J4 rfl ?_|refine J1 rfl ?_|refine J6 rfl ?_|refine J7 rfl ?_|refine JJ rfl ?_|refine JK rfl ?_|refine JQ rfl ?_|refine JL rfl rfl ?_|refine JM rfl rfl ?_|refine JN rfl ?_|refine JO rfl ?_|refine JP rfl ?_))
      rw [k2] at S
      exact ⟨rfl, (i, s, adq, capq, Lq), ⟨rfl, rfl, rfl, rfl, trivial⟩, hA, hv, hO, Sep.drop (L2 := [_]) S⟩
    · refine s_iteN rfl (fun he => absurd k1 he) (fun _ => ?_)
      (repeat (first|(with_reducible first|refine Ja ?_|refine Jb ?_|refine Jc ?_|refine Jd ?_|refine Je ?_|refine Jf ?_|refine Jg ?_|refine Jh ?_|refine Ji ?_|refine Jj ?_|refine Jk rfl ?_|refine Jl ?_|refine Jm ?_|refine Jn ?_|refine Jo ?_|refine Jp ?_|refine Jq ?_)|refine JA rfl ?_|refine JB rfl ?_|refine JC rfl ?_|refine JD rfl ?_|refine JE rfl ?_|refine JF rfl ?_|refine JG rfl ?_|refine JH rfl ?_|refine JI rfl ?_|refine J2 rfl ?_|refine J3 rfl ?_|refine J4 rfl ?_|refine J1 rfl ?_|refine J6 rfl ?_|refine J7 rfl ?_|refine JJ rfl ?_|refine JK rfl ?_|refine JQ rfl ?_|refine JL rfl rfl ?_|refine JM rfl rfl ?_|refine JN rfl ?_|refine JO rfl ?_|refine JP rfl ?_))
      refine e_ld (v := .agg ⟨A.1.v⟩) (S.row 0 rfl (by simp [Tl.v]) rfl) ?_
      refine e_st (vs := A.1.v) S 1 rfl rfl rfl rfl (by simp [Tl.v, Value.flat]) (by simp [Tl.v]) fun w S => ?_
      replace S : Dn.Sep w ((((b11, .cells ⟨A.1.v⟩ 31) :: (b10, .cells ⟨(from0 l n).v⟩ 31) :: Y) ++ Lq) ++ A.2.2.L) F := Sep.drop (L2 := [_]) S
      rw [k2] at S
      (repeat (with_reducible first|refine Ja ?_|refine Jb ?_|refine Jc ?_|refine Jd ?_|refine Je ?_|refine Jf ?_|refine Jg ?_|refine Jh ?_|refine Ji ?_|refine Jj ?_|refine Jk rfl ?_|refine Jl ?_|refine Jm ?_|refine Jn ?_|refine Jo ?_|refine Jp ?_|refine Jq ?_))
      refine e_mvL rfl ?_
      refine e_mvL rfl ?_
      refine e_mvI rfl ?_
      refine e_ixa rfl rfl (by omega) (by omega) ?_
      rw [show off + (i : Int).toNat * 1 = off + i by omega]
      refine e_ld (v := strV m[i]) (S.fc hcell) ?_
      refine e_bsl (size := 1) (xs := [strV m[i]]) S Try.underlying22 rfl rfl ⟨_, rfl⟩ (by omega) (by omega) (fun zs hz => (match zs, hz with | [u], _ => rfl)) fun bs w S => ?_
      obtain ⟨XX, hXX⟩ : ∃ XX, ((b11, Obj.cells ⟨(tail2 l n m (i + 1)).v⟩ 31) :: (b10, .cells ⟨(from0 l n).v⟩ 31) :: Y) = XX := ⟨_, rfl⟩
      rw [hXX] at S
      replace S : Dn.Sep w (([(bs, .cells ⟨[strV m[i]]⟩ 9)] ++ (XX ++ A.2.2.L)) ++ Lq) F := by
        have S9 : Dn.Sep w ([(bs, .cells ⟨[strV m[i]]⟩ 9)] ++ ((XX ++ A.2.2.L) ++ Lq)) F := S.perm (List.Perm.trans List.perm_append_comm ((List.Perm.refl _).append (swap3 XX Lq A.2.2.L)))
        exact S9
      refine e_app (size := 1) (k := 1) (ys := [strV m[i]]) (z := .string ⟨#[]⟩) S hO rfl (src_row Try.underlying22 (rowOf_at S (ty := 9) (fr := (0, 0)) (cs := [strV m[i]]) (by simp) (by simp) rfl) (by simp [strV, Value.flat])) Try.underlying22 rfl rfl rfl rfl (by show (i + 1) * 16 ≤ _; omega) (by omega) fun adq' capq' Lq' w hO' S => ?_
      replace S : Dn.Sep w ((XX ++ Lq') ++ A.2.2.L) F := by
        have S9 : Dn.Sep w ([(bs, .cells ⟨[strV m[i]]⟩ 9)] ++ ((XX ++ A.2.2.L) ++ Lq')) F := S
        exact (Sep.drop S9).perm (swap3 XX A.2.2.L Lq')
      (repeat (with_reducible first|refine Ja ?_|refine Jb ?_|refine Jc ?_|refine Jd ?_|refine Je ?_|refine Jf ?_|refine Jg ?_|refine Jh ?_|refine Ji ?_|refine Jj ?_|refine Jk rfl ?_|refine Jl ?_|refine Jm ?_|refine Jn ?_|refine Jo ?_|refine Jp ?_|refine Jq ?_))
      refine e_mvL rfl ?_
      (repeat (first|(with_reducible first|refine Ja ?_|refine Jb ?_|refine Jc ?_|refine Jd ?_|refine Je ?_|refine Jf ?_|refine Jg ?_|refine Jh ?_|refine Ji ?_|refine Jj ?_|refine Jk rfl ?_|refine Jl ?_|refine Jm ?_|refine Jn ?_|refine Jo ?_|refine Jp ?_|refine Jq ?_)|refine JA rfl ?_|refine JB rfl ?_|refine JC rfl ?_|refine JD rfl ?_|refine JE rfl ?_|refine JF rfl ?_|refine JG rfl ?_|refine JH rfl ?_|refine JI rfl ?_|refine J2 rfl ?_|refine J3 rfl ?_|refine J4 rfl ?_|refine J1 rfl ?_|refine J6 rfl ?_|refine J7 rfl ?_|refine JJ rfl ?_|refine JK rfl ?_|refine JQ rfl ?_|refine JL rfl rfl ?_|refine JM rfl rfl ?_|refine JN rfl ?_|refine JO rfl ?_|refine JP rfl ?_))
      refine e_add (a := (i : Int)) (b := 1) rfl rfl (by omega) (by omega) ?_
      (repeat (first|(with_reducible first|refine Ja ?_|refine Jb ?_|refine Jc ?_|refine Jd ?_|refine Je ?_|refine Jf ?_|refine Jg ?_|refine Jh ?_|refine Ji ?_|refine Jj ?_|refine Jk rfl ?_|refine Jl ?_|refine Jm ?_|refine Jn ?_|refine Jo ?_|refine Jp ?_|refine Jq ?_)|refine JA rfl ?_|refine JB rfl ?_|refine JC rfl ?_|refine JD rfl ?_|refine JE rfl ?_|refine JF rfl ?_|refine JG rfl ?_|refine JH rfl ?_|refine JI rfl ?_|refine J2 rfl ?_|refine J3 rfl ?_|refine J4 rfl ?_|refine J1 rfl ?_|refine J6 rfl ?_|refine J7 rfl ?_|refine JJ rfl ?_|refine JK rfl ?_|refine JQ rfl ?_|refine JL rfl rfl ?_|refine JM rfl rfl ?_|refine JN rfl ?_|refine JO rfl ?_|refine JP rfl ?_))
      refine ⟨rfl, (i + 1, A.2.2, adq', capq', Lq'), ⟨rfl, rfl, rfl, rfl, rfl, rfl, trivial⟩, ⟨k3, hv'.trans hv, ?_, ?_⟩, by simp only; omega⟩
      · simp only [List.take_succ_eq_append_getElem hi, OwnT, List.map_append]; exact hO'
      · rw [← hXX] at S; exact S
  rintro gg ⟨i, s, adq, capq, Lq⟩ w ⟨hA, hv, hO, S⟩
  simp only [setL] at hA hv hO S ⊢
  have hil := hA.le
  have hsc := w_scan s 0 (from0 l n) hA.on.std.ok
  rw [again_scan hL hdk hA (by omega) (by omega), hv] at hsc
  have elen : (m.take i).length = i := by simp; omega
  simp only [elen] at hsc
  (repeat (first|(with_reducible first|refine Ja ?_|refine Jb ?_|refine Jc ?_|refine Jd ?_|refine Je ?_|refine Jf ?_|refine Jg ?_|refine Jh ?_|refine Ji ?_|refine Jj ?_|refine Jk rfl ?_|refine Jl ?_|refine Jm ?_|refine Jn ?_|refine Jo ?_|refine Jp ?_|refine Jq ?_)|refine JA rfl ?_|refine JB rfl ?_|refine JC rfl ?_|refine JD rfl ?_|refine JE rfl ?_|refine JF rfl ?_|refine JG rfl ?_|refine JH rfl ?_|refine JI rfl ?_|refine J2 rfl ?_|refine J3 rfl ?_|refine J4 rfl ?_|refine J1 rfl ?_|refine J6 rfl ?_|refine J7 rfl ?_|refine JJ rfl ?_|refine JK rfl ?_|refine JQ rfl ?_|refine JL rfl rfl ?_|refine JM rfl rfl ?_|refine JN rfl ?_|refine JO rfl ?_|refine JP rfl ?_))
  refine e_ld (v := .agg ⟨(from0 l n).v⟩) (S.row 1 rfl (by simp [Tl.v]) rfl) ?_
  refine e_call (L2 := _ ++ Lq) rfl hsc S ?_
  rintro _ _ w ⟨ado, capo, Lo, rfl, rfl, hOo⟩ S
  refine e_mvT rfl ?_
  refine e_p (v := .slice ado i capo) rfl ?_
  refine e_p (v := .agg ⟨(tail2 l n m i).v⟩) rfl ?_
  refine e_p (v := .int .i64 0) rfl ?_
  refine e_nwE S (cs' := zT.v) rfl fun b17 w S => ?_
  refine e_mvL rfl ?_
  refine e_st (vs := (tail2 l n m i).v) S 0 rfl rfl rfl rfl (by simp [Tl.v, Value.flat]) (by simp [zT, Tl.v]) fun w S => ?_
  refine e_mvI rfl ?_
  replace S : Dn.Sep w ((b17, .cells ⟨(tail2 l n m i).v⟩ 31) :: ((((b11, .cells ⟨(tail2 l n m i).v⟩ 31) :: (b10, .cells ⟨(from0 l n).v⟩ 31) :: Y) ++ Lq) ++ (s.L ++ Lo))) F := S
  (repeat (first|(with_reducible first|refine Ja ?_|refine Jb ?_|refine Jc ?_|refine Jd ?_|refine Je ?_|refine Jf ?_|refine Jg ?_|refine Jh ?_|refine Ji ?_|refine Jj ?_|refine Jk rfl ?_|refine Jl ?_|refine Jm ?_|refine Jn ?_|refine Jo ?_|refine Jp ?_|refine Jq ?_)|refine JA rfl ?_|refine JB rfl ?_|refine JC rfl ?_|refine JD rfl ?_|refine JE rfl ?_|refine JF rfl ?_|refine JG rfl ?_|refine JH rfl ?_|refine JI rfl ?_|refine J2 rfl ?_|refine J3 rfl ?_|refine J4 rfl ?_|refine J1 rfl ?_|refine J6 rfl ?_|refine J7 rfl ?_|refine JJ rfl ?_|refine JK rfl ?_|refine JQ rfl ?_|refine JL rfl rfl ?_|refine JM rfl rfl ?_|refine JN rfl ?_|refine JO rfl ?_|refine JP rfl ?_))
  refine e_callP rfl l_sanity S fun w S => ?_
  (repeat (first|(with_reducible first|refine Ja ?_|refine Jb ?_|refine Jc ?_|refine Jd ?_|refine Je ?_|refine Jf ?_|refine Jg ?_|refine Jh ?_|refine Ji ?_|refine Jj ?_|refine Jk rfl ?_|refine Jl ?_|refine Jm ?_|refine Jn ?_|refine Jo ?_|refine Jp ?_|refine Jq ?_)|refine JA rfl ?_|refine JB rfl ?_|refine JC rfl ?_|refine JD rfl ?_|refine JE rfl ?_|refine JF rfl ?_|refine JG rfl ?_|refine JH rfl ?_|refine JI rfl ?_|refine J2 rfl ?_|refine J3 rfl ?_|refine J4 rfl ?_|refine J1 rfl ?_|refine J6 rfl ?_|refine J7 rfl ?_|refine JJ rfl ?_|refine JK rfl ?_|refine JQ rfl ?_|refine JL rfl rfl ?_|refine JM rfl rfl ?_|refine JN rfl ?_|refine JO rfl ?_|refine JP rfl ?_))
  refine e_ld (v := .agg ⟨(tail2 l n m i).v⟩) (S.row 0 rfl (by simp [Tl.v]) rfl) ?_
  refine e_gdT rfl ?_
  refine e_ld (v := .agg ⟨(tail2 l n m i).v⟩) (S.row 1 rfl (by simp [Tl.v]) rfl) ?_
  refine e_gdT rfl ?_
  refine e_p (eqc_tl (p := tail2 l n m i) (q := tail2 l n m i) rfl rfl) ?_
  rw [decide_eq_true rfl]
  (repeat (with_reducible first|refine Ja ?_|refine Jb ?_|refine Jc ?_|refine Jd ?_|refine Je ?_|refine Jf ?_|refine Jg ?_|refine Jh ?_|refine Ji ?_|refine Jj ?_|refine Jk rfl ?_|refine Jl ?_|refine Jm ?_|refine Jn ?_|refine Jo ?_|refine Jp ?_|refine Jq ?_))
  refine e_pkTB rfl rfl ?_
  refine e_mvB rfl ?_
  refine e_gdT rfl ?_
  refine e_mvL rfl ?_
  refine e_gdT rfl ?_
  refine e_mvL rfl ?_
  refine e_gdT rfl ?_
  have hsame := l_same ado adq capo capq (m.take i) (m.take i) (by omega)
  rw [elen] at hsame
  refine e_callFN rfl hsame S ?_ ?_
  · obtain ⟨ZZ, hZZ⟩ : ∃ ZZ, ((b17, Obj.cells ⟨(tail2 l n m i).v⟩ 31) :: ((((b11, .cells ⟨(tail2 l n m i).v⟩ 31) :: (b10, .cells ⟨(from0 l n).v⟩ 31) :: Y) ++ Lq) ++ (s.L ++ Lo))) = ZZ := ⟨_, rfl⟩
    have m1 : ∀ x ∈ Lo, x ∈ ZZ := by intro x hx; rw [← hZZ]; simp [hx]
    have m2 : ∀ x ∈ Lq, x ∈ ZZ := by intro x hx; rw [← hZZ]; simp [hx]
    rw [hZZ] at S ⊢
    have S' : Dn.Sep w (ZZ ++ []) F := by simpa using S
    exact ⟨OwnT.fslI hOo S' m1, hO.fslI S' m2⟩
  rintro _ _ w ⟨rfl, rfl⟩ S
  rw [decide_eq_true rfl]
  (repeat (first|(with_reducible first|refine Ja ?_|refine Jb ?_|refine Jc ?_|refine Jd ?_|refine Je ?_|refine Jf ?_|refine Jg ?_|refine Jh ?_|refine Ji ?_|refine Jj ?_|refine Jk rfl ?_|refine Jl ?_|refine Jm ?_|refine Jn ?_|refine Jo ?_|refine Jp ?_|refine Jq ?_)|refine JA rfl ?_|refine JB rfl ?_|refine JC rfl ?_|refine JD rfl ?_|refine JE rfl ?_|refine JF rfl ?_|refine JG rfl ?_|refine JH rfl ?_|refine JI rfl ?_|refine J2 rfl ?_|refine J3 rfl ?_|refine J4 rfl ?_|refine J1 rfl ?_|refine J6 rfl ?_|refine J7 rfl ?_|refine JJ rfl ?_|refine JK rfl ?_|refine JQ rfl ?_|refine JL rfl rfl ?_|refine JM rfl rfl ?_|refine JN rfl ?_|refine JO rfl ?_|refine JP rfl ?_))
  exact f_ret rfl rfl (hQ _ _ _ rfl S)

end Go.Proofs.Ytgendpinmmmfjaa

/-
  The walk of WalChains.
-/
namespace Go.Proofs.Ytgendpinmmmfjaa
open Dn
attribute [local irreducible] Evs Ev EvT DSpec PSpec CallTo
set_option maxRecDepth 100000
set_option maxHeartbeats 4000000

/-- where the second disk's log stands -/
def chInv (s1 : Sh) (c : Cfg) (l : List Sec) (kn : Nat) (o : Sec) (i : Nat) (s : Sh) (T : Tl) : Prop := (i ≤ kn ∧ Dn.Twin s s1 c l i ∧ T = tailAt l i) ∨ (i = kn + 1 ∧ Dn.Other s s1 c l kn o ∧ T = after (tailAt l kn) ⟨2, 0⟩ o)
theorem chInv_ok {s1 s : Sh} {c : Cfg} {l : List Sec} {kn i : Nat} {o : Sec} {T : Tl} (h : chInv s1 c l kn o i s T) : s.ok := by
  rcases h with ⟨_, h, _⟩ | ⟨_, h, _⟩ <;> exact h.on.std.ok

theorem take_snoc_get {α : Type} {l : List α} {k : Nat} {x : α} (h : k ≤ l.length) : (l.take k ++ [x])[k]? = some x := by
  have e : (l.take k).length = k := by simp; omega
  rw [List.getElem?_append_right (by omega), e]; simp
theorem OwnT.get {ad : Option Addr} {n cap : Nat} {l : List Sec} {Lb : List (Nat × Obj)} (h : OwnT ad n cap l Lb) (hn : 0 < n) : ∃ b cs lo hi, ad = some ⟨b, 0, none⟩ ∧ Lb = [(b, .cells ⟨cs⟩ 9 (lo, hi))] ∧ ∀ (j : Nat) x, l[j]? = some x → cs[j]? = some (strV x) := by
  rcases OwnS.own h with ⟨_, hc, _⟩ | ⟨b, sp, lo, hi, h1, _, _, h2⟩
  · have := OwnS.le h; omega
  · refine ⟨b, _, lo, hi, h1, h2, fun j x hx => ?_⟩
    have hj : j < l.length := by
      rcases Nat.lt_or_ge j l.length with h' | h'
      · exact h'
      · rw [List.getElem?_eq_none h'] at hx; simp at hx
    rw [List.getElem?_append_left (by simpa using hj), List.getElem?_map, hx]
    rfl

theorem law_chains (size : Int) (ad : Option Addr) (cap : Nat) (l : List Sec) (o mo : Sec) (k : Int) (hb : l.length < 4611686018427387904) (hr : ∀ r ∈ l, r.length < 4611686018427387904) (ho : o.length < 4611686018427387904) (hmo : mo.length < 4611686018427387904) :
    DSpecF Try.prog 6 [.int .i64 size, .slice ad l.length cap, .string ⟨⟨o⟩⟩, .string ⟨⟨mo⟩⟩, .int .i64 k] [] (fun F => FSl F ad (l.map strV)) fun v _ => v = .bool true := by
  refine specF_of mix Try.func6 c6_eq rfl rfl fun w F Q hF S hQ => ?_
  (repeat (first|(with_reducible first|refine Ja ?_|refine Jb ?_|refine Jc ?_|refine Jd ?_|refine Je ?_|refine Jf ?_|refine Jg ?_|refine Jh ?_|refine Ji ?_|refine Jj ?_|refine Jk rfl ?_|refine Jl ?_|refine Jm ?_|refine Jn ?_|refine Jo ?_|refine Jp ?_|refine Jq ?_)|refine JA rfl ?_|refine JB rfl ?_|refine JC rfl ?_|refine JD rfl ?_|refine JE rfl ?_|refine JF rfl ?_|refine JG rfl ?_|refine JH rfl ?_|refine JI rfl ?_|refine J2 rfl ?_|refine J3 rfl ?_|refine J4 rfl ?_|refine J1 rfl ?_|refine J6 rfl ?_|refine J7 rfl ?_|refine JJ rfl ?_|refine JK rfl ?_|refine JQ rfl ?_|refine JL rfl rfl ?_|refine JM rfl rfl ?_|refine JN rfl ?_|refine JO rfl ?_|refine JP rfl ?_))
  refine e_brD rfl (fun h1 => ?_) (fun h1 => ?_)
  · (repeat (first|(with_reducible first|refine Ja ?_|refine Jb ?_|refine Jc ?_|refine Jd ?_|refine Je ?_|refine Jf ?_|refine Jg ?_|refine Jh ?_|refine Ji ?_|refine Jj ?_|refine Jk rfl ?_|refine Jl ?_|refine Jm ?_|refine Jn ?_|refine Jo ?_|refine Jp ?_|refine Jq ?_)|refine JA rfl ?_|refine JB rfl ?_|refine JC rfl ?_|refine JD rfl ?_|refine JE rfl ?_|refine JF rfl ?_|refine JG rfl ?_|refine JH rfl ?_|refine JI rfl ?_|refine J2 rfl ?_|refine J3 rfl ?_|refine J4 rfl ?_|refine J1 rfl ?_|refine J6 rfl ?_|refine J7 rfl ?_|refine JJ rfl ?_|refine JK rfl ?_|refine JQ rfl ?_|refine JL rfl rfl ?_|refine JM rfl rfl ?_|refine JN rfl ?_|refine JO rfl ?_|refine JP rfl ?_))
    refine e_callP rfl l_sanity S fun w S => ?_
    (repeat (first|(with_reducible first|refine Ja ?_|refine Jb ?_|refine Jc ?_|refine Jd ?_|refine Je ?_|refine Jf ?_|refine Jg ?_|refine Jh ?_|refine Ji ?_|refine Jj ?_|refine Jk rfl ?_|refine Jl ?_|refine Jm ?_|refine Jn ?_|refine Jo ?_|refine Jp ?_|refine Jq ?_)|refine JA rfl ?_|refine JB rfl ?_|refine JC rfl ?_|refine JD rfl ?_|refine JE rfl ?_|refine JF rfl ?_|refine JG rfl ?_|refine JH rfl ?_|refine JI rfl ?_|refine J2 rfl ?_|refine J3 rfl ?_|refine J4 rfl ?_|refine J1 rfl ?_|refine J6 rfl ?_|refine J7 rfl ?_|refine JJ rfl ?_|refine JK rfl ?_|refine JQ rfl ?_|refine JL rfl rfl ?_|refine JM rfl rfl ?_|refine JN rfl ?_|refine JO rfl ?_|refine JP rfl ?_))
    exact f_ret rfl rfl (hQ _ _ _ rfl S)
  (repeat (first|(with_reducible first|refine Ja ?_|refine Jb ?_|refine Jc ?_|refine Jd ?_|refine Je ?_|refine Jf ?_|refine Jg ?_|refine Jh ?_|refine Ji ?_|refine Jj ?_|refine Jk rfl ?_|refine Jl ?_|refine Jm ?_|refine Jn ?_|refine Jo ?_|refine Jp ?_|refine Jq ?_)|refine JA rfl ?_|refine JB rfl ?_|refine JC rfl ?_|refine JD rfl ?_|refine JE rfl ?_|refine JF rfl ?_|refine JG rfl ?_|refine JH rfl ?_|refine JI rfl ?_|refine J2 rfl ?_|refine J3 rfl ?_|refine J4 rfl ?_|refine J1 rfl ?_|refine J6 rfl ?_|refine J7 rfl ?_|refine JJ rfl ?_|refine JK rfl ?_|refine JQ rfl ?_|refine JL rfl rfl ?_|refine JM rfl rfl ?_|refine JN rfl ?_|refine JO rfl ?_|refine JP rfl ?_))
  refine e_brD rfl (fun h2 => ?_) (fun h2 => ?_)
  · (repeat (first|(with_reducible first|refine Ja ?_|refine Jb ?_|refine Jc ?_|refine Jd ?_|refine Je ?_|refine Jf ?_|refine Jg ?_|refine Jh ?_|refine Ji ?_|refine Jj ?_|refine Jk rfl ?_|refine Jl ?_|refine Jm ?_|refine Jn ?_|refine Jo ?_|refine Jp ?_|refine Jq ?_)|refine JA rfl ?_|refine JB rfl ?_|refine JC rfl ?_|refine JD rfl ?_|refine JE rfl ?_|refine JF rfl ?_|refine JG rfl ?_|refine JH rfl ?_|refine JI rfl ?_|refine J2 rfl ?_|refine J3 rfl ?_|refine J4 rfl ?_|refine J1 rfl ?_|refine J6 rfl ?_|refine J7 rfl ?_|refine JJ rfl ?_|refine JK rfl ?_|refine JQ rfl ?_|refine JL rfl rfl ?_|refine JM rfl rfl ?_|refine JN rfl ?_|refine JO rfl ?_|refine JP rfl ?_))
    refine e_callP rfl l_sanity S fun w S => ?_
    (repeat (first|(with_reducible first|refine Ja ?_|refine Jb ?_|refine Jc ?_|refine Jd ?_|refine Je ?_|refine Jf ?_|refine Jg ?_|refine Jh ?_|refine Ji ?_|refine Jj ?_|refine Jk rfl ?_|refine Jl ?_|refine Jm ?_|refine Jn ?_|refine Jo ?_|refine Jp ?_|refine Jq ?_)|refine JA rfl ?_|refine JB rfl ?_|refine JC rfl ?_|refine JD rfl ?_|refine JE rfl ?_|refine JF rfl ?_|refine JG rfl ?_|refine JH rfl ?_|refine JI rfl ?_|refine J2 rfl ?_|refine J3 rfl ?_|refine J4 rfl ?_|refine J1 rfl ?_|refine J6 rfl ?_|refine J7 rfl ?_|refine JJ rfl ?_|refine JK rfl ?_|refine JQ rfl ?_|refine JL rfl rfl ?_|refine JM rfl rfl ?_|refine JN rfl ?_|refine JO rfl ?_|refine JP rfl ?_))
    exact f_ret rfl rfl (hQ _ _ _ rfl S)
  (repeat (with_reducible first|refine Ja ?_|refine Jb ?_|refine Jc ?_|refine Jd ?_|refine Je ?_|refine Jf ?_|refine Jg ?_|refine Jh ?_|refine Ji ?_|refine Jj ?_|refine Jk rfl ?_|refine Jl ?_|refine Jm ?_|refine Jn ?_|refine Jo ?_|refine Jp ?_|refine Jq ?_))
  refine e_gdT rfl ?_
  refine e_mvL rfl ?_
  refine e_gdT rfl ?_
  refine e_p (v := .int .i64 ((l.length : Nat) : Int)) rfl ?_
  (repeat (first|(with_reducible first|refine Ja ?_|refine Jb ?_|refine Jc ?_|refine Jd ?_|refine Je ?_|refine Jf ?_|refine Jg ?_|refine Jh ?_|refine Ji ?_|refine Jj ?_|refine Jk rfl ?_|refine Jl ?_|refine Jm ?_|refine Jn ?_|refine Jo ?_|refine Jp ?_|refine Jq ?_)|refine JA rfl ?_|refine JB rfl ?_|refine JC rfl ?_|refine JD rfl ?_|refine JE rfl ?_|refine JF rfl ?_|refine JG rfl ?_|refine JH rfl ?_|refine JI rfl ?_|refine J2 rfl ?_|refine J3 rfl ?_|refine J4 rfl ?_|refine J1 rfl ?_|refine J6 rfl ?_|refine J7 rfl ?_|refine JJ rfl ?_|refine JK rfl ?_|refine JQ rfl ?_|refine JL rfl rfl ?_|refine JM rfl rfl ?_|refine JN rfl ?_|refine JO rfl ?_|refine JP rfl ?_))
  refine e_brD rfl (fun h3 => ?_) (fun h3 => ?_)
  · (repeat (first|(with_reducible first|refine Ja ?_|refine Jb ?_|refine Jc ?_|refine Jd ?_|refine Je ?_|refine Jf ?_|refine Jg ?_|refine Jh ?_|refine Ji ?_|refine Jj ?_|refine Jk rfl ?_|refine Jl ?_|refine Jm ?_|refine Jn ?_|refine Jo ?_|refine Jp ?_|refine Jq ?_)|refine JA rfl ?_|refine JB rfl ?_|refine JC rfl ?_|refine JD rfl ?_|refine JE rfl ?_|refine JF rfl ?_|refine JG rfl ?_|refine JH rfl ?_|refine JI rfl ?_|refine J2 rfl ?_|refine J3 rfl ?_|refine J4 rfl ?_|refine J1 rfl ?_|refine J6 rfl ?_|refine J7 rfl ?_|refine JJ rfl ?_|refine JK rfl ?_|refine JQ rfl ?_|refine JL rfl rfl ?_|refine JM rfl rfl ?_|refine JN rfl ?_|refine JO rfl ?_|refine JP rfl ?_))
    refine e_callP rfl l_sanity S fun w S => ?_
    (repeat (first|(with_reducible first|refine Ja ?_|refine Jb ?_|refine Jc ?_|refine Jd ?_|refine Je ?_|refine Jf ?_|refine Jg ?_|refine Jh ?_|refine Ji ?_|refine Jj ?_|refine Jk rfl ?_|refine Jl ?_|refine Jm ?_|refine Jn ?_|refine Jo ?_|refine Jp ?_|refine Jq ?_)|refine JA rfl ?_|refine JB rfl ?_|refine JC rfl ?_|refine JD rfl ?_|refine JE rfl ?_|refine JF rfl ?_|refine JG rfl ?_|refine JH rfl ?_|refine JI rfl ?_|refine J2 rfl ?_|refine J3 rfl ?_|refine J4 rfl ?_|refine J1 rfl ?_|refine J6 rfl ?_|refine J7 rfl ?_|refine JJ rfl ?_|refine JK rfl ?_|refine JQ rfl ?_|refine JL rfl rfl ?_|refine JM rfl rfl ?_|refine JN rfl ?_|refine JO rfl ?_|refine JP rfl ?_))
    exact f_ret rfl rfl (hQ _ _ _ rfl S)
  (repeat (first|(with_reducible first|refine Ja ?_|refine Jb ?_|refine Jc ?_|refine Jd ?_|refine Je ?_|refine Jf ?_|refine Jg ?_|refine Jh ?_|refine Ji ?_|refine Jj ?_|refine Jk rfl ?_|refine Jl ?_|refine Jm ?_|refine Jn ?_|refine Jo ?_|refine Jp ?_|refine Jq ?_)|refine JA rfl ?_|refine JB rfl ?_|refine JC rfl ?_|refine JD rfl ?_|refine JE rfl ?_|refine JF rfl ?_|refine JG rfl ?_|refine JH rfl ?_|refine JI rfl ?_|refine J2 rfl ?_|refine J3 rfl ?_|refine J4 rfl ?_|refine J1 rfl ?_|refine J6 rfl ?_|refine J7 rfl ?_|refine JJ rfl ?_|refine JK rfl ?_|refine JQ rfl ?_|refine JL rfl rfl ?_|refine JM rfl rfl ?_|refine JN rfl ?_|refine JO rfl ?_|refine JP rfl ?_))
  refine e_brD rfl (fun h4 => ?_) (fun h4 => ?_)
  · (repeat (first|(with_reducible first|refine Ja ?_|refine Jb ?_|refine Jc ?_|refine Jd ?_|refine Je ?_|refine Jf ?_|refine Jg ?_|refine Jh ?_|refine Ji ?_|refine Jj ?_|refine Jk rfl ?_|refine Jl ?_|refine Jm ?_|refine Jn ?_|refine Jo ?_|refine Jp ?_|refine Jq ?_)|refine JA rfl ?_|refine JB rfl ?_|refine JC rfl ?_|refine JD rfl ?_|refine JE rfl ?_|refine JF rfl ?_|refine JG rfl ?_|refine JH rfl ?_|refine JI rfl ?_|refine J2 rfl ?_|refine J3 rfl ?_|refine J4 rfl ?_|refine J1 rfl ?_|refine J6 rfl ?_|refine J7 rfl ?_|refine JJ rfl ?_|refine JK rfl ?_|refine JQ rfl ?_|refine JL rfl rfl ?_|refine JM rfl rfl ?_|refine JN rfl ?_|refine JO rfl ?_|refine JP rfl ?_))
    refine e_callP rfl l_sanity S fun w S => ?_
    (repeat (first|(with_reducible first|refine Ja ?_|refine Jb ?_|refine Jc ?_|refine Jd ?_|refine Je ?_|refine Jf ?_|refine Jg ?_|refine Jh ?_|refine Ji ?_|refine Jj ?_|refine Jk rfl ?_|refine Jl ?_|refine Jm ?_|refine Jn ?_|refine Jo ?_|refine Jp ?_|refine Jq ?_)|refine JA rfl ?_|refine JB rfl ?_|refine JC rfl ?_|refine JD rfl ?_|refine JE rfl ?_|refine JF rfl ?_|refine JG rfl ?_|refine JH rfl ?_|refine JI rfl ?_|refine J2 rfl ?_|refine J3 rfl ?_|refine J4 rfl ?_|refine J1 rfl ?_|refine J6 rfl ?_|refine J7 rfl ?_|refine JJ rfl ?_|refine JK rfl ?_|refine JQ rfl ?_|refine JL rfl rfl ?_|refine JM rfl rfl ?_|refine JN rfl ?_|refine JO rfl ?_|refine JP rfl ?_))
    exact f_ret rfl rfl (hQ _ _ _ rfl S)
  obtain ⟨kn, rfl⟩ : ∃ kn : Nat, k = kn := ⟨k.toNat, by omega⟩
  (repeat (with_reducible first|refine Ja ?_|refine Jb ?_|refine Jc ?_|refine Jd ?_|refine Je ?_|refine Jf ?_|refine Jg ?_|refine Jh ?_|refine Ji ?_|refine Jj ?_|refine Jk rfl ?_|refine Jl ?_|refine Jm ?_|refine Jn ?_|refine Jo ?_|refine Jp ?_|refine Jq ?_))
  refine e_gdT rfl ?_
  refine e_mvI rfl ?_
  refine e_gdT rfl ?_
  refine e_mvL rfl ?_
  refine e_gdT rfl ?_
  refine e_p (v := .int .i64 ((l.length : Nat) : Int)) rfl ?_
  (repeat (first|(with_reducible first|refine Ja ?_|refine Jb ?_|refine Jc ?_|refine Jd ?_|refine Je ?_|refine Jf ?_|refine Jg ?_|refine Jh ?_|refine Ji ?_|refine Jj ?_|refine Jk rfl ?_|refine Jl ?_|refine Jm ?_|refine Jn ?_|refine Jo ?_|refine Jp ?_|refine Jq ?_)|refine JA rfl ?_|refine JB rfl ?_|refine JC rfl ?_|refine JD rfl ?_|refine JE rfl ?_|refine JF rfl ?_|refine JG rfl ?_|refine JH rfl ?_|refine JI rfl ?_|refine J2 rfl ?_|refine J3 rfl ?_|refine J4 rfl ?_|refine J1 rfl ?_|refine J6 rfl ?_|refine J7 rfl ?_|refine JJ rfl ?_|refine JK rfl ?_|refine JQ rfl ?_|refine JL rfl rfl ?_|refine JM rfl rfl ?_|refine JN rfl ?_|refine JO rfl ?_|refine JP rfl ?_))
  refine e_brD rfl (fun h5 => ?_) (fun h5 => ?_)
  · (repeat (first|(with_reducible first|refine Ja ?_|refine Jb ?_|refine Jc ?_|refine Jd ?_|refine Je ?_|refine Jf ?_|refine Jg ?_|refine Jh ?_|refine Ji ?_|refine Jj ?_|refine Jk rfl ?_|refine Jl ?_|refine Jm ?_|refine Jn ?_|refine Jo ?_|refine Jp ?_|refine Jq ?_)|refine JA rfl ?_|refine JB rfl ?_|refine JC rfl ?_|refine JD rfl ?_|refine JE rfl ?_|refine JF rfl ?_|refine JG rfl ?_|refine JH rfl ?_|refine JI rfl ?_|refine J2 rfl ?_|refine J3 rfl ?_|refine J4 rfl ?_|refine J1 rfl ?_|refine J6 rfl ?_|refine J7 rfl ?_|refine JJ rfl ?_|refine JK rfl ?_|refine JQ rfl ?_|refine JL rfl rfl ?_|refine JM rfl rfl ?_|refine JN rfl ?_|refine JO rfl ?_|refine JP rfl ?_))
    refine e_callP rfl l_sanity S fun w S => ?_
    (repeat (first|(with_reducible first|refine Ja ?_|refine Jb ?_|refine Jc ?_|refine Jd ?_|refine Je ?_|refine Jf ?_|refine Jg ?_|refine Jh ?_|refine Ji ?_|refine Jj ?_|refine Jk rfl ?_|refine Jl ?_|refine Jm ?_|refine Jn ?_|refine Jo ?_|refine Jp ?_|refine Jq ?_)|refine JA rfl ?_|refine JB rfl ?_|refine JC rfl ?_|refine JD rfl ?_|refine JE rfl ?_|refine JF rfl ?_|refine JG rfl ?_|refine JH rfl ?_|refine JI rfl ?_|refine J2 rfl ?_|refine J3 rfl ?_|refine J4 rfl ?_|refine J1 rfl ?_|refine J6 rfl ?_|refine J7 rfl ?_|refine JJ rfl ?_|refine JK rfl ?_|refine JQ rfl ?_|refine JL rfl rfl ?_|refine JM rfl rfl ?_|refine JN rfl ?_|refine JO rfl ?_|refine JP rfl ?_))
    exact f_ret rfl rfl (hQ _ _ _ rfl S)
  have hk : kn < l.length := by omega
  have hl : l.length ≤ 40 := by omega
  obtain ⟨ba, off, rfl, hcell0⟩ := hF kn _ (strV_get hk)
  refine e_gdT rfl ?_
  refine e_mvS rfl ?_
  refine e_gdT rfl ?_
  refine e_p (v := .int .i64 ((o.length : Nat) : Int)) rfl ?_
  refine e_gdT rfl ?_
  refine e_mvL rfl ?_
  refine e_gdT rfl ?_
  refine e_mvI rfl ?_
  refine e_gdT rfl ?_
  refine e_ixa rfl rfl (by omega) (by omega) ?_
  rw [show off + (kn : Int).toNat * 1 = off + kn by omega]
  refine e_gdT rfl ?_
  refine e_ld (v := strV l[kn]) (S.fc hcell0) ?_
  refine e_gdT rfl ?_
  refine e_p (v := .int .i64 ((l[kn].length : Nat) : Int)) rfl ?_
  refine e_gdT rfl ?_
  refine e_p (cmp_neqD rfl rfl) ?_
  (repeat (with_reducible first|refine Ja ?_|refine Jb ?_|refine Jc ?_|refine Jd ?_|refine Je ?_|refine Jf ?_|refine Jg ?_|refine Jh ?_|refine Ji ?_|refine Jj ?_|refine Jk rfl ?_|refine Jl ?_|refine Jm ?_|refine Jn ?_|refine Jo ?_|refine Jp ?_|refine Jq ?_))
  refine e_pkFB rfl rfl ?_
  (repeat (with_reducible first|refine Ja ?_|refine Jb ?_|refine Jc ?_|refine Jd ?_|refine Je ?_|refine Jf ?_|refine Jg ?_|refine Jh ?_|refine Ji ?_|refine Jj ?_|refine Jk rfl ?_|refine Jl ?_|refine Jm ?_|refine Jn ?_|refine Jo ?_|refine Jp ?_|refine Jq ?_))
  refine s_iteN rfl (fun h6 => ?_) (fun h6 => ?_)
  · (repeat (first|(with_reducible first|refine Ja ?_|refine Jb ?_|refine Jc ?_|refine Jd ?_|refine Je ?_|refine Jf ?_|refine Jg ?_|refine Jh ?_|refine Ji ?_|refine Jj ?_|refine Jk rfl ?_|refine Jl ?_|refine Jm ?_|refine Jn ?_|refine Jo ?_|refine Jp ?_|refine Jq ?_)|refine JA rfl ?_|refine JB rfl ?_|refine JC rfl ?_|refine JD rfl ?_|refine JE rfl ?_|refine JF rfl ?_|refine JG rfl ?_|refine JH rfl ?_|refine JI rfl ?_|refine J2 rfl ?_|refine J3 rfl ?_|refine J4 rfl ?_|refine J1 rfl ?_|refine J6 rfl ?_|refine J7 rfl ?_|refine JJ rfl ?_|refine JK rfl ?_|refine JQ rfl ?_|refine JL rfl rfl ?_|refine JM rfl rfl ?_|refine JN rfl ?_|refine JO rfl ?_|refine JP rfl ?_))
    refine e_callP rfl l_sanity S fun w S => ?_
    (repeat (first|(with_reducible first|refine Ja ?_|refine Jb ?_|refine Jc ?_|refine Jd ?_|refine Je ?_|refine Jf ?_|refine Jg ?_|refine Jh ?_|refine Ji ?_|refine Jj ?_|refine Jk rfl ?_|refine Jl ?_|refine Jm ?_|refine Jn ?_|refine Jo ?_|refine Jp ?_|refine Jq ?_)|refine JA rfl ?_|refine JB rfl ?_|refine JC rfl ?_|refine JD rfl ?_|refine JE rfl ?_|refine JF rfl ?_|refine JG rfl ?_|refine JH rfl ?_|refine JI rfl ?_|refine J2 rfl ?_|refine J3 rfl ?_|refine J4 rfl ?_|refine J1 rfl ?_|refine J6 rfl ?_|refine J7 rfl ?_|refine JJ rfl ?_|refine JK rfl ?_|refine JQ rfl ?_|refine JL rfl rfl ?_|refine JM rfl rfl ?_|refine JN rfl ?_|refine JO rfl ?_|refine JP rfl ?_))
    exact f_ret rfl rfl (hQ _ _ _ rfl S)
  have holen : o.length = l[kn].length := by omega
  have hcellL : ∀ {i : Nat} (hi : i < l.length), FCell F ba (off + i) (strV l[i]) := by
    intro i hi
    obtain ⟨b, off', e, hc⟩ := hF i _ (strV_get hi)
    injection e with e
    injection e with e1 e2
    subst e1; subst e2
    exact hc
  (repeat (first|(with_reducible first|refine Ja ?_|refine Jb ?_|refine Jc ?_|refine Jd ?_|refine Je ?_|refine Jf ?_|refine Jg ?_|refine Jh ?_|refine Ji ?_|refine Jj ?_|refine Jk rfl ?_|refine Jl ?_|refine Jm ?_|refine Jn ?_|refine Jo ?_|refine Jp ?_|refine Jq ?_)|refine JA rfl ?_|refine JB rfl ?_|refine JC rfl ?_|refine JD rfl ?_|refine JE rfl ?_|refine JF rfl ?_|refine JG rfl ?_|refine JH rfl ?_|refine JI rfl ?_|refine J2 rfl ?_|refine J3 rfl ?_|refine J4 rfl ?_|refine J1 rfl ?_|refine J6 rfl ?_|refine J7 rfl ?_|refine JJ rfl ?_|refine JK rfl ?_|refine JQ rfl ?_|refine JL rfl rfl ?_|refine JM rfl rfl ?_|refine JN rfl ?_|refine JO rfl ?_|refine JP rfl ?_))
  refine e_callF (L2 := []) (L1 := []) rfl (l_log2 size (some ⟨ba, off, none⟩) cap l (by omega) (by omega) hl hr) S (by simpa using hF.add (L2 := []) S) ?_
  rintro _ _ w ⟨s1, n, adt, capt, Lt, adi, capi, Li, hL, rfl, rfl, hOt, hOi⟩ S
  replace S : Dn.Sep w (s1.L ++ (Lt ++ Li)) F := S
  refine e_mvT rfl ?_
  refine e_p (v := s1.v) rfl ?_
  refine e_p (v := .slice adt (n + 1) capt) rfl ?_
  refine e_p (v := .slice adi n capi) rfl ?_
  refine e_p (v := s1.v) rfl ?_
  refine e_mvL rfl ?_
  refine e_mvL rfl ?_
  (repeat (with_reducible first|refine Ja ?_|refine Jb ?_|refine Jc ?_|refine Jd ?_|refine Je ?_|refine Jf ?_|refine Jg ?_|refine Jh ?_|refine Ji ?_|refine Jj ?_|refine Jk rfl ?_|refine Jl ?_|refine Jm ?_|refine Jn ?_|refine Jo ?_|refine Jp ?_|refine Jq ?_))
  refine e_mvP rfl ?_
  refine e_p (v := .bool false) rfl ?_
  refine e_mvB rfl ?_
  refine e_gdT rfl ?_
  refine e_mvL rfl ?_
  refine e_gdT rfl ?_
  refine e_p (v := .int .i64 (n : Int)) rfl ?_
  refine e_gdT rfl ?_
  refine e_mvL rfl ?_
  refine e_gdT rfl ?_
  refine e_p (v := .int .i64 ((l.length : Nat) : Int)) rfl ?_
  refine e_gdT rfl ?_
  refine e_p (cmp_neqD rfl rfl) ?_
  (repeat (with_reducible first|refine Ja ?_|refine Jb ?_|refine Jc ?_|refine Jd ?_|refine Je ?_|refine Jf ?_|refine Jg ?_|refine Jh ?_|refine Ji ?_|refine Jj ?_|refine Jk rfl ?_|refine Jl ?_|refine Jm ?_|refine Jn ?_|refine Jo ?_|refine Jp ?_|refine Jq ?_))
  refine e_pkFB rfl rfl ?_
  (repeat (with_reducible first|refine Ja ?_|refine Jb ?_|refine Jc ?_|refine Jd ?_|refine Je ?_|refine Jf ?_|refine Jg ?_|refine Jh ?_|refine Ji ?_|refine Jj ?_|refine Jk rfl ?_|refine Jl ?_|refine Jm ?_|refine Jn ?_|refine Jo ?_|refine Jp ?_|refine Jq ?_))
  refine s_iteN rfl (fun h7 => ?_) (fun h7 => ?_)
  · (repeat (first|(with_reducible first|refine Ja ?_|refine Jb ?_|refine Jc ?_|refine Jd ?_|refine Je ?_|refine Jf ?_|refine Jg ?_|refine Jh ?_|refine Ji ?_|refine Jj ?_|refine Jk rfl ?_|refine Jl ?_|refine Jm ?_|refine Jn ?_|refine Jo ?_|refine Jp ?_|refine Jq ?_)|refine JA rfl ?_|refine JB rfl ?_|refine JC rfl ?_|refine JD rfl ?_|refine JE rfl ?_|refine JF rfl ?_|refine JG rfl ?_|refine JH rfl ?_|refine JI rfl ?_|refine J2 rfl ?_|refine J3 rfl ?_|refine J4 rfl ?_|refine J1 rfl ?_|refine J6 rfl ?_|refine J7 rfl ?_|refine JJ rfl ?_|refine JK rfl ?_|refine JQ rfl ?_|refine JL rfl rfl ?_|refine JM rfl rfl ?_|refine JN rfl ?_|refine JO rfl ?_|refine JP rfl ?_))
    refine e_callP rfl l_sanity S fun w S => ?_
    (repeat (first|(with_reducible first|refine Ja ?_|refine Jb ?_|refine Jc ?_|refine Jd ?_|refine Je ?_|refine Jf ?_|refine Jg ?_|refine Jh ?_|refine Ji ?_|refine Jj ?_|refine Jk rfl ?_|refine Jl ?_|refine Jm ?_|refine Jn ?_|refine Jo ?_|refine Jp ?_|refine Jq ?_)|refine JA rfl ?_|refine JB rfl ?_|refine JC rfl ?_|refine JD rfl ?_|refine JE rfl ?_|refine JF rfl ?_|refine JG rfl ?_|refine JH rfl ?_|refine JI rfl ?_|refine J2 rfl ?_|refine J3 rfl ?_|refine J4 rfl ?_|refine J1 rfl ?_|refine J6 rfl ?_|refine J7 rfl ?_|refine JJ rfl ?_|refine JK rfl ?_|refine JQ rfl ?_|refine JL rfl rfl ?_|refine JM rfl rfl ?_|refine JN rfl ?_|refine JO rfl ?_|refine JP rfl ?_))
    exact f_ret rfl rfl (hQ _ _ _ rfl S)
  have hn : n = l.length := by omega
  have hkn : kn < n := by omega
  have hdk : (2 : Int) ≤ (lawCfg size).disks := by show (2 : Int) ≤ 2; omega
  replace S : Dn.Sep w ((Lt ++ Li) ++ s1.L) F := S.perm List.perm_append_comm
  rcases hOt.own with ⟨_, hcp, _⟩ | ⟨bt, sp, lo, hi0, rfl, hsp, hfr0, eLt⟩
  · have := hOt.le; omega
  have htl : ((List.range (n + 1)).map (tailAt l)).length = n + 1 := by simp
  have hLt : (bt, Obj.cells ⟨((List.range (n + 1)).map (tailAt l)).flatMap Tl.v ++ sp⟩ 31 (lo, hi0)) ∈ Lt ++ Li := by rw [eLt]; simp
  obtain ⟨Y, hY⟩ : ∃ Y, Lt ++ Li = Y := ⟨_, rfl⟩
  rw [hY] at S hLt
  clear hY
  (repeat (first|(with_reducible first|refine Ja ?_|refine Jb ?_|refine Jc ?_|refine Jd ?_|refine Je ?_|refine Jf ?_|refine Jg ?_|refine Jh ?_|refine Ji ?_|refine Jj ?_|refine Jk rfl ?_|refine Jl ?_|refine Jm ?_|refine Jn ?_|refine Jo ?_|refine Jp ?_|refine Jq ?_)|refine JA rfl ?_|refine JB rfl ?_|refine JC rfl ?_|refine JD rfl ?_|refine JE rfl ?_|refine JF rfl ?_|refine JG rfl ?_|refine JH rfl ?_|refine JI rfl ?_|refine J2 rfl ?_|refine J3 rfl ?_|refine J4 rfl ?_|refine J1 rfl ?_|refine J6 rfl ?_|refine J7 rfl ?_|refine JJ rfl ?_|refine JK rfl ?_|refine JQ rfl ?_|refine JL rfl rfl ?_|refine JM rfl rfl ?_|refine JN rfl ?_|refine JO rfl ?_|refine JP rfl ?_))
  refine e_nwE S (cs' := zT.v) rfl fun b14 w S => ?_
  refine e_st (vs := zT.v) S 0 rfl rfl rfl rfl (by simp [zT, Tl.v, Value.flat]) (by simp [zT, Tl.v]) fun w S => ?_
  replace S : Dn.Sep w (((b14, .cells ⟨(tailAt l 0).v⟩ 31) :: Y) ++ s1.L) F := S
  (repeat (with_reducible first|refine Jc ?_|refine Jd ?_|refine Je ?_|refine Jf ?_|refine Jg ?_|refine Jh ?_|refine Ji ?_|refine Jj ?_|refine Jk rfl ?_|refine Jl ?_|refine Jm ?_|refine Jn ?_|refine Jp ?_|refine Jq ?_))
  -- the loop
  refine s_cut (σ := Sh) (fun _ => [(14, .pointer (some ⟨b14, 0, none⟩)), (2, .string ⟨⟨o⟩⟩), (3, .string ⟨⟨mo⟩⟩), (4, .int .i64 (kn : Int)), (11, s1.v), (12, .slice (some ⟨bt, 0, none⟩) (n + 1) capt)])
    (fun s w => Dn.Other s s1 (lawCfg size) l kn o ∧ s.v = s1.v ∧ Dn.Sep w (((b14, .cells ⟨(after (tailAt l kn) ⟨2, 0⟩ o).v⟩ 31) :: Y) ++ s.L) F) ?_ ?_
  · (repeat (first|(with_reducible first|refine Ja ?_|refine Jb ?_|refine Jc ?_|refine Jd ?_|refine Je ?_|refine Jf ?_|refine Jg ?_|refine Jh ?_|refine Ji ?_|refine Jj ?_|refine Jk rfl ?_|refine Jl ?_|refine Jm ?_|refine Jn ?_|refine Jo ?_|refine Jp ?_|refine Jq ?_)|refine JA rfl ?_|refine JB rfl ?_|refine JC rfl ?_|refine JD rfl ?_|refine JE rfl ?_|refine JF rfl ?_|refine JG rfl ?_|refine JH rfl ?_|refine JI rfl ?_|refine J2 rfl ?_|refine J3 rfl ?_|refine J4 rfl ?_|refine J1 rfl ?_|refine J6 rfl ?_|refine J7 rfl ?_|refine JJ rfl ?_|refine JK rfl ?_|refine JQ rfl ?_|refine JL rfl rfl ?_|refine JM rfl rfl ?_|refine JN rfl ?_|refine JO rfl ?_|refine JP rfl ?_))
    refine s_loop (σ := Nat × Sh × Tl) (fun q => [(15, .int .i64 (q.1 : Int)), (1, .slice (some ⟨ba, off, none⟩) l.length cap), (14, .pointer (some ⟨b14, 0, none⟩)), (2, .string ⟨⟨o⟩⟩), (3, .string ⟨⟨mo⟩⟩), (4, .int .i64 (kn : Int)), (11, s1.v), (12, .slice (some ⟨bt, 0, none⟩) (n + 1) capt)])
      (fun q w => chInv s1 (lawCfg size) l kn o q.1 q.2.1 q.2.2 ∧ q.2.1.v = s1.v ∧ Dn.Sep w (((b14, .cells ⟨q.2.2.v⟩ 31) :: Y) ++ q.2.1.L) F)
      (fun q => kn + 1 - q.1) (0, s1, tailAt l 0) ⟨rfl, rfl, rfl, rfl, rfl, rfl, rfl, rfl, trivial⟩ rfl ⟨.inl ⟨by simp, twin_zero hL, rfl⟩, rfl, S⟩ ?_
    rintro gg ⟨i, s, T⟩ w ⟨hA, hv, S⟩
    simp only [setL] at hA hv S ⊢
    (repeat (first|(with_reducible first|refine Ja ?_|refine Jb ?_|refine Jc ?_|refine Jd ?_|refine Je ?_|refine Jf ?_|refine Jg ?_|refine Jh ?_|refine Ji ?_|refine Jj ?_|refine Jk rfl ?_|refine Jl ?_|refine Jm ?_|refine Jn ?_|refine Jo ?_|refine Jp ?_|refine Jq ?_)|refine JA rfl ?_|refine JB rfl ?_|refine JC rfl ?_|refine JD rfl ?_|refine JE rfl ?_|refine JF rfl ?_|refine JG rfl ?_|refine JH rfl ?_|refine JI rfl ?_|refine J2 rfl ?_|refine J3 rfl ?_|refine J4 rfl ?_|refine J1 rfl ?_|refine J6 rfl ?_|refine J7 rfl ?_|refine JJ rfl ?_|refine JK rfl ?_|refine JQ rfl ?_|refine JL rfl rfl ?_|refine JM rfl rfl ?_|refine JN rfl ?_|refine JO rfl ?_|refine JP rfl ?_))
    refine s_iteD rfl (fun h => ?_) (fun h => ?_)
    rotate_left
    · (repeat (first|(with_reducible first|refine Ja ?_|refine Jb ?_|refine Jc ?_|refine Jd ?_|refine Je ?_|refine Jf ?_|refine Jg ?_|refine Jh ?_|refine Ji ?_|refine Jj ?_|refine Jk rfl ?_|refine Jl ?_|refine Jm ?_|refine Jn ?_|refine Jo ?_|refine Jp ?_|refine Jq ?_)|refine JA rfl ?_|refine JB rfl ?_|refine JC rfl ?_|refine JD rfl ?_|refine JE rfl ?_|refine JF rfl ?_|refine JG rfl ?_|refine JH rfl ?_|refine JI rfl ?_|refine J2 rfl ?_|refine J3 rfl ?_|refine J4 rfl ?_|refine J1 rfl ?_|refine J6 rfl ?_|refine J7 rfl ?_|refine JJ rfl ?_|refine JK rfl ?_|refine JQ rfl ?_|refine JL rfl rfl ?_|refine JM rfl rfl ?_|refine JN rfl ?_|refine JO rfl ?_|refine JP rfl ?_))
      rcases hA with ⟨a1, a2, a3⟩ | ⟨a1, a2, a3⟩
      · omega
      · subst a3
        exact ⟨rfl, s, ⟨rfl, rfl, rfl, rfl, rfl, rfl, trivial⟩, a2, hv, S⟩
    have hik : i ≤ kn := by omega
    obtain ⟨a2, rfl⟩ : Dn.Twin s s1 (lawCfg size) l i ∧ T = tailAt l i := by
      rcases hA with ⟨a1, a2, a3⟩ | ⟨a1, a2, a3⟩
      · exact ⟨a2, a3⟩
      · omega
    have hil : i < l.length := by omega
    (repeat (with_reducible first|refine Ja ?_|refine Jb ?_|refine Jc ?_|refine Jd ?_|refine Je ?_|refine Jf ?_|refine Jg ?_|refine Jh ?_|refine Ji ?_|refine Jj ?_|refine Jk rfl ?_|refine Jl ?_|refine Jm ?_|refine Jn ?_|refine Jo ?_|refine Jp ?_|refine Jq ?_))
    refine e_mvL rfl ?_
    refine e_mvI rfl ?_
    refine e_ixa rfl rfl (by omega) (by omega) ?_
    rw [show off + (i : Int).toNat * 1 = off + i by omega]
    refine e_ld (v := strV l[i]) (S.fc (hcellL hil)) ?_
    refine e_mvS rfl ?_
    (repeat (first|(with_reducible first|refine Ja ?_|refine Jb ?_|refine Jc ?_|refine Jd ?_|refine Je ?_|refine Jf ?_|refine Jg ?_|refine Jh ?_|refine Ji ?_|refine Jj ?_|refine Jk rfl ?_|refine Jl ?_|refine Jm ?_|refine Jn ?_|refine Jo ?_|refine Jp ?_|refine Jq ?_)|refine JA rfl ?_|refine JB rfl ?_|refine JC rfl ?_|refine JD rfl ?_|refine JE rfl ?_|refine JF rfl ?_|refine JG rfl ?_|refine JH rfl ?_|refine JI rfl ?_|refine J2 rfl ?_|refine J3 rfl ?_|refine J4 rfl ?_|refine J1 rfl ?_|refine J6 rfl ?_|refine J7 rfl ?_|refine JJ rfl ?_|refine JK rfl ?_|refine JQ rfl ?_|refine JL rfl rfl ?_|refine JM rfl rfl ?_|refine JN rfl ?_|refine JO rfl ?_|refine JP rfl ?_))
    refine e_add (a := (i : Int)) (b := 1) rfl rfl (by omega) (by omega) ?_
    (repeat (first|(with_reducible first|refine Ja ?_|refine Jb ?_|refine Jc ?_|refine Jd ?_|refine Je ?_|refine Jf ?_|refine Jg ?_|refine Jh ?_|refine Ji ?_|refine Jj ?_|refine Jk rfl ?_|refine Jl ?_|refine Jm ?_|refine Jn ?_|refine Jo ?_|refine Jp ?_|refine Jq ?_)|refine JA rfl ?_|refine JB rfl ?_|refine JC rfl ?_|refine JD rfl ?_|refine JE rfl ?_|refine JF rfl ?_|refine JG rfl ?_|refine JH rfl ?_|refine JI rfl ?_|refine J2 rfl ?_|refine J3 rfl ?_|refine J4 rfl ?_|refine J1 rfl ?_|refine J6 rfl ?_|refine J7 rfl ?_|refine JJ rfl ?_|refine JK rfl ?_|refine JQ rfl ?_|refine JL rfl rfl ?_|refine JM rfl rfl ?_|refine JN rfl ?_|refine JO rfl ?_|refine JP rfl ?_))
    refine e_nwE S (cs' := [.int .i64 0, .int .i64 0]) rfl fun b17 w S => ?_
    refine e_st (vs := (⟨1, (i : Int) + 1⟩ : Gn).v) S 0 rfl rfl rfl rfl (by simp [Gn.v, Value.flat]) (by simp) fun w S => ?_
    replace S : Dn.Sep w ((b17, .cells ⟨(⟨1, (i : Int) + 1⟩ : Gn).v⟩ 29) :: (((b14, .cells ⟨(tailAt l i).v⟩ 31) :: Y) ++ s.L)) F := S
    (repeat (with_reducible first|refine Jc ?_|refine Jd ?_|refine Je ?_|refine Jf ?_|refine Jg ?_|refine Jh ?_|refine Ji ?_|refine Jj ?_|refine Jk rfl ?_|refine Jl ?_|refine Jm ?_|refine Jn ?_|refine Jp ?_|refine Jq ?_))
    refine s_cut (σ := Gn × Sec) (fun q => [(16, .string ⟨⟨q.2⟩⟩), (17, .pointer (some ⟨b17, 0, none⟩)), (15, .int .i64 (i : Int)), (1, .slice (some ⟨ba, off, none⟩) l.length cap), (14, .pointer (some ⟨b14, 0, none⟩)), (2, .string ⟨⟨o⟩⟩), (3, .string ⟨⟨mo⟩⟩), (4, .int .i64 (kn : Int)), (11, s1.v), (12, .slice (some ⟨bt, 0, none⟩) (n + 1) capt)])
      (fun q w => q.2.length < 4611686018427387904 ∧ (appendW s 1 (tailAt l i) q.1 q.2).2.1 = 0 ∧ chInv s1 (lawCfg size) l kn o (i + 1) (appendW s 1 (tailAt l i) q.1 q.2).2.2 (appendW s 1 (tailAt l i) q.1 q.2).1 ∧
        Dn.Sep w ((b17, .cells ⟨q.1.v⟩ 29) :: (((b14, .cells ⟨(tailAt l i).v⟩ 31) :: Y) ++ s.L)) F) ?_ ?_
    · (repeat (with_reducible first|refine Ja ?_|refine Jb ?_|refine Jc ?_|refine Jd ?_|refine Je ?_|refine Jf ?_|refine Jg ?_|refine Jh ?_|refine Ji ?_|refine Jj ?_|refine Jk rfl ?_|refine Jl ?_|refine Jm ?_|refine Jn ?_|refine Jo ?_|refine Jp ?_|refine Jq ?_))
      refine e_mvI rfl ?_
      refine e_mvI rfl ?_
      refine e_p (cmp_eqlD rfl rfl) ?_
      (repeat (with_reducible first|refine Ja ?_|refine Jb ?_|refine Jc ?_|refine Jd ?_|refine Je ?_|refine Jf ?_|refine Jg ?_|refine Jh ?_|refine Ji ?_|refine Jj ?_|refine Jk rfl ?_|refine Jl ?_|refine Jm ?_|refine Jn ?_|refine Jo ?_|refine Jp ?_|refine Jq ?_))
      refine s_iteD rfl (fun he => ?_) (fun he => ?_)
      · have hek : i = kn := by omega
        subst hek
        obtain ⟨b1, b2, b3⟩ := other_step hL hdk a2 hkn holen
        (repeat (first|(with_reducible first|refine Ja ?_|refine Jb ?_|refine Jc ?_|refine Jd ?_|refine Je ?_|refine Jf ?_|refine Jg ?_|refine Jh ?_|refine Ji ?_|refine Jj ?_|refine Jk rfl ?_|refine Jl ?_|refine Jm ?_|refine Jn ?_|refine Jo ?_|refine Jp ?_|refine Jq ?_)|refine JA rfl ?_|refine JB rfl ?_|refine JC rfl ?_|refine JD rfl ?_|refine JE rfl ?_|refine JF rfl ?_|refine JG rfl ?_|refine JH rfl ?_|refine JI rfl ?_|refine J2 rfl ?_|refine J3 rfl ?_|refine J4 rfl ?_|refine J1 rfl ?_|refine J6 rfl ?_|refine J7 rfl ?_|refine JJ rfl ?_|refine JK rfl ?_|refine JQ rfl ?_|refine JL rfl rfl ?_|refine JM rfl rfl ?_|refine JN rfl ?_|refine JO rfl ?_|refine JP rfl ?_))
        refine e_st (vs := (⟨2, 0⟩ : Gn).v) S 0 rfl rfl rfl rfl (by simp [Gn.v, Value.flat]) (by simp [Gn.v]) fun w S => ?_
        (repeat (first|(with_reducible first|refine Ja ?_|refine Jb ?_|refine Jc ?_|refine Jd ?_|refine Je ?_|refine Jf ?_|refine Jg ?_|refine Jh ?_|refine Ji ?_|refine Jj ?_|refine Jk rfl ?_|refine Jl ?_|refine Jm ?_|refine Jn ?_|refine Jo ?_|refine Jp ?_|refine Jq ?_)|refine JA rfl ?_|refine JB rfl ?_|refine JC rfl ?_|refine JD rfl ?_|refine JE rfl ?_|refine JF rfl ?_|refine JG rfl ?_|refine JH rfl ?_|refine JI rfl ?_|refine J2 rfl ?_|refine J3 rfl ?_|refine J4 rfl ?_|refine J1 rfl ?_|refine J6 rfl ?_|refine J7 rfl ?_|refine JJ rfl ?_|refine JK rfl ?_|refine JQ rfl ?_|refine JL rfl rfl ?_|refine JM rfl rfl ?_|refine JN rfl ?_|refine JO rfl ?_|refine JP rfl ?_))
        exact ⟨rfl, (⟨2, 0⟩, o), ⟨rfl, rfl, rfl, rfl, rfl, rfl, rfl, rfl, rfl, rfl, trivial⟩, ho, b1, .inr ⟨rfl, b3, b2⟩, S⟩
      · obtain ⟨b1, b2, b3⟩ := twin_step hL hdk a2 (by omega)
        (repeat (first|(with_reducible first|refine Ja ?_|refine Jb ?_|refine Jc ?_|refine Jd ?_|refine Je ?_|refine Jf ?_|refine Jg ?_|refine Jh ?_|refine Ji ?_|refine Jj ?_|refine Jk rfl ?_|refine Jl ?_|refine Jm ?_|refine Jn ?_|refine Jo ?_|refine Jp ?_|refine Jq ?_)|refine JA rfl ?_|refine JB rfl ?_|refine JC rfl ?_|refine JD rfl ?_|refine JE rfl ?_|refine JF rfl ?_|refine JG rfl ?_|refine JH rfl ?_|refine JI rfl ?_|refine J2 rfl ?_|refine J3 rfl ?_|refine J4 rfl ?_|refine J1 rfl ?_|refine J6 rfl ?_|refine J7 rfl ?_|refine JJ rfl ?_|refine JK rfl ?_|refine JQ rfl ?_|refine JL rfl rfl ?_|refine JM rfl rfl ?_|refine JN rfl ?_|refine JO rfl ?_|refine JP rfl ?_))
        exact ⟨rfl, (⟨1, (i : Int) + 1⟩, l[i]), ⟨rfl, rfl, rfl, rfl, rfl, rfl, rfl, rfl, rfl, rfl, trivial⟩, hr _ (List.getElem_mem hil), b1, .inl ⟨by omega, b3, b2⟩, S⟩
    rintro gg2 ⟨G, R⟩ w ⟨hRl, b1, b2, S⟩
    simp only [setL] at hRl b1 b2 S ⊢
    have hap := w_append s 1 (tailAt l i) G R a2.on.std.ok hRl
    have hv' := app_v a2.on.std.ok 1 (tailAt l i) G R
    rw [hv, b1] at hap
    obtain ⟨A, hAA⟩ : ∃ A, appendW s 1 (tailAt l i) G R = A := ⟨_, rfl⟩
    rw [hAA] at hap hv' b2
    (repeat (first|(with_reducible first|refine Ja ?_|refine Jb ?_|refine Jc ?_|refine Jd ?_|refine Je ?_|refine Jf ?_|refine Jg ?_|refine Jh ?_|refine Ji ?_|refine Jj ?_|refine Jk rfl ?_|refine Jl ?_|refine Jm ?_|refine Jn ?_|refine Jo ?_|refine Jp ?_|refine Jq ?_)|refine JA rfl ?_|refine JB rfl ?_|refine JC rfl ?_|refine JD rfl ?_|refine JE rfl ?_|refine JF rfl ?_|refine JG rfl ?_|refine JH rfl ?_|refine JI rfl ?_|refine J2 rfl ?_|refine J3 rfl ?_|refine J4 rfl ?_|refine J1 rfl ?_|refine J6 rfl ?_|refine J7 rfl ?_|refine JJ rfl ?_|refine JK rfl ?_|refine JQ rfl ?_|refine JL rfl rfl ?_|refine JM rfl rfl ?_|refine JN rfl ?_|refine JO rfl ?_|refine JP rfl ?_))
    refine e_ld (v := .agg ⟨(tailAt l i).v⟩) (S.row 1 rfl (by simp [Tl.v]) rfl) ?_
    refine e_ld (v := .agg ⟨G.v⟩) (S.row 0 rfl (by simp [Gn.v]) rfl) ?_
    (repeat (first|(with_reducible first|refine Ja ?_|refine Jb ?_|refine Jc ?_|refine Jd ?_|refine Je ?_|refine Jf ?_|refine Jg ?_|refine Jh ?_|refine Ji ?_|refine Jj ?_|refine Jk rfl ?_|refine Jl ?_|refine Jm ?_|refine Jn ?_|refine Jo ?_|refine Jp ?_|refine Jq ?_)|refine JA rfl ?_|refine JB rfl ?_|refine JC rfl ?_|refine JD rfl ?_|refine JE rfl ?_|refine JF rfl ?_|refine JG rfl ?_|refine JH rfl ?_|refine JI rfl ?_|refine J2 rfl ?_|refine J3 rfl ?_|refine J4 rfl ?_|refine J1 rfl ?_|refine J6 rfl ?_|refine J7 rfl ?_|refine JJ rfl ?_|refine JK rfl ?_|refine JQ rfl ?_|refine JL rfl rfl ?_|refine JM rfl rfl ?_|refine JN rfl ?_|refine JO rfl ?_|refine JP rfl ?_))
    refine e_call (L2 := _ :: _ :: Y) rfl hap S ?_
    rintro _ _ w ⟨rfl, rfl⟩ S
    refine e_mvT rfl ?_
    refine e_p (v := .agg ⟨A.1.v⟩) rfl ?_
    refine e_p (v := .int .i64 0) rfl ?_
    refine e_nwE S (cs' := zT.v) rfl fun b18 w S => ?_
    refine e_st (vs := A.1.v) S 0 rfl rfl rfl rfl (by simp [Tl.v, Value.flat]) (by simp [zT, Tl.v]) fun w S => ?_
    (repeat (first|(with_reducible first|refine Ja ?_|refine Jb ?_|refine Jc ?_|refine Jd ?_|refine Je ?_|refine Jf ?_|refine Jg ?_|refine Jh ?_|refine Ji ?_|refine Jj ?_|refine Jk rfl ?_|refine Jl ?_|refine Jm ?_|refine Jn ?_|refine Jo ?_|refine Jp ?_|refine Jq ?_)|refine JA rfl ?_|refine JB rfl ?_|refine JC rfl ?_|refine JD rfl ?_|refine JE rfl ?_|refine JF rfl ?_|refine JG rfl ?_|refine JH rfl ?_|refine JI rfl ?_|refine J2 rfl ?_|refine J3 rfl ?_|refine J4 rfl ?_|refine J1 rfl ?_|refine J6 rfl ?_|refine J7 rfl ?_|refine JJ rfl ?_|refine JK rfl ?_|refine JQ rfl ?_|refine JL rfl rfl ?_|refine JM rfl rfl ?_|refine JN rfl ?_|refine JO rfl ?_|refine JP rfl ?_))
    refine e_ld (v := .agg ⟨A.1.v⟩) (S.row 0 rfl (by simp [Tl.v, putAt, zT]) rfl) ?_
    refine e_st (vs := A.1.v) S 2 rfl rfl rfl rfl (by simp [Tl.v, Value.flat]) (by simp [Tl.v]) fun w S => ?_
    replace S : Dn.Sep w (((b14, .cells ⟨A.1.v⟩ 31) :: Y) ++ A.2.2.L) F := Sep.drop (L2 := [_, _]) S
    (repeat (first|(with_reducible first|refine Ja ?_|refine Jb ?_|refine Jc ?_|refine Jd ?_|refine Je ?_|refine Jf ?_|refine Jg ?_|refine Jh ?_|refine Ji ?_|refine Jj ?_|refine Jk rfl ?_|refine Jl ?_|refine Jm ?_|refine Jn ?_|refine Jo ?_|refine Jp ?_|refine Jq ?_)|refine JA rfl ?_|refine JB rfl ?_|refine JC rfl ?_|refine JD rfl ?_|refine JE rfl ?_|refine JF rfl ?_|refine JG rfl ?_|refine JH rfl ?_|refine JI rfl ?_|refine J2 rfl ?_|refine J3 rfl ?_|refine J4 rfl ?_|refine J1 rfl ?_|refine J6 rfl ?_|refine J7 rfl ?_|refine JJ rfl ?_|refine JK rfl ?_|refine JQ rfl ?_|refine JL rfl rfl ?_|refine JM rfl rfl ?_|refine JN rfl ?_|refine JO rfl ?_|refine JP rfl ?_))
    refine e_add (a := (i : Int)) (b := 1) rfl rfl (by omega) (by omega) ?_
    (repeat (first|(with_reducible first|refine Ja ?_|refine Jb ?_|refine Jc ?_|refine Jd ?_|refine Je ?_|refine Jf ?_|refine Jg ?_|refine Jh ?_|refine Ji ?_|refine Jj ?_|refine Jk rfl ?_|refine Jl ?_|refine Jm ?_|refine Jn ?_|refine Jo ?_|refine Jp ?_|refine Jq ?_)|refine JA rfl ?_|refine JB rfl ?_|refine JC rfl ?_|refine JD rfl ?_|refine JE rfl ?_|refine JF rfl ?_|refine JG rfl ?_|refine JH rfl ?_|refine JI rfl ?_|refine J2 rfl ?_|refine J3 rfl ?_|refine J4 rfl ?_|refine J1 rfl ?_|refine J6 rfl ?_|refine J7 rfl ?_|refine JJ rfl ?_|refine JK rfl ?_|refine JQ rfl ?_|refine JL rfl rfl ?_|refine JM rfl rfl ?_|refine JN rfl ?_|refine JO rfl ?_|refine JP rfl ?_))
    exact ⟨rfl, (i + 1, A.2.2, A.1), ⟨rfl, rfl, rfl, rfl, rfl, rfl, rfl, rfl, trivial⟩, ⟨b2, hv'.trans hv, S⟩, by simp only; omega⟩
  rintro gg s w ⟨hO, hv, S⟩
  simp only [setL] at hO hv S ⊢
  have hok := hO.on.std.ok
  have hch := chains hL hdk (by omega) hO hkn holen (r := mo)
  have hap1 := w_append s 0 (tailAt l (kn + 1)) ⟨3, 0⟩ mo hok hmo
  have hv1 := app_v hok 0 (tailAt l (kn + 1)) ⟨3, 0⟩ mo
  have hok1 := (append_ok hok 0 (tailAt l (kn + 1)) ⟨3, 0⟩ mo).1
  simp only at hch
  obtain ⟨A, hA⟩ : ∃ A, appendW s 0 (tailAt l (kn + 1)) ⟨3, 0⟩ mo = A := ⟨_, rfl⟩
  rw [hA] at hch hap1 hv1 hok1
  have hap2 := w_append A.2.2 1 (tailAt l (kn + 1)) ⟨3, 0⟩ mo hok1 hmo
  have hv2 := app_v hok1 1 (tailAt l (kn + 1)) ⟨3, 0⟩ mo
  have hok2 := (append_ok hok1 1 (tailAt l (kn + 1)) ⟨3, 0⟩ mo).1
  obtain ⟨B, hB⟩ : ∃ B, appendW A.2.2 1 (tailAt l (kn + 1)) ⟨3, 0⟩ mo = B := ⟨_, rfl⟩
  rw [hB] at hch hap2 hv2 hok2
  rw [hv] at hap1
  rw [hv1, hv] at hap2
  have hvB : B.2.2.v = s1.v := hv2.trans (hv1.trans hv)
  have hrow : (((((List.range (n + 1)).map (tailAt l)).flatMap Tl.v ++ sp).drop ((kn + 1) * 4)).take 4 = (tailAt l (kn + 1)).v) ∧ (kn + 1) * 4 + 4 ≤ (((List.range (n + 1)).map (tailAt l)).flatMap Tl.v ++ sp).length := by
    refine ⟨?_, ?_⟩
    · rw [tls_at _ _ (by rw [htl]; omega)]; simp
    · rw [List.length_append, tls_len, htl]; omega
  (repeat (with_reducible first|refine Ja ?_|refine Jb ?_|refine Jc ?_|refine Jd ?_|refine Je ?_|refine Jf ?_|refine Jg ?_|refine Jh ?_|refine Ji ?_|refine Jj ?_|refine Jk rfl ?_|refine Jl ?_|refine Jm ?_|refine Jn ?_|refine Jo ?_|refine Jp ?_|refine Jq ?_))
  refine e_mvL rfl ?_
  refine e_mvI rfl ?_
  refine e_add (a := (kn : Int)) (b := 1) rfl rfl (by omega) (by omega) ?_
  refine e_ixa rfl rfl (by omega) (by omega) ?_
  rw [show 0 + ((kn : Int) + 1).toNat * 4 = (kn + 1) * 4 by omega]
  refine e_ld (v := .agg ⟨(tailAt l (kn + 1)).v⟩) (rowM S (List.mem_append_left _ (List.mem_cons_of_mem _ hLt)) hrow.2 hrow.1) ?_
  refine e_nwE S (cs' := zT.v) rfl fun b20 w S => ?_
  refine e_st (vs := (tailAt l (kn + 1)).v) S 0 rfl rfl rfl rfl (by simp [Tl.v, Value.flat]) (by simp [zT, Tl.v]) fun w S => ?_
  obtain ⟨tT, htT⟩ : ∃ tT, after (tailAt l kn) ⟨2, 0⟩ o = tT := ⟨_, rfl⟩
  rw [htT] at S hch
  obtain ⟨tl1, htl1⟩ : ∃ tl1, tailAt l (kn + 1) = tl1 := ⟨_, rfl⟩
  rw [htl1] at S hap1 hap2 ⊢
  replace S : Dn.Sep w (((b20, .cells ⟨tl1.v⟩ 31) :: (b14, .cells ⟨tT.v⟩ 31) :: Y) ++ s.L) F := S
  (repeat (first|(with_reducible first|refine Ja ?_|refine Jb ?_|refine Jc ?_|refine Jd ?_|refine Je ?_|refine Jf ?_|refine Jg ?_|refine Jh ?_|refine Ji ?_|refine Jj ?_|refine Jk rfl ?_|refine Jl ?_|refine Jm ?_|refine Jn ?_|refine Jo ?_|refine Jp ?_|refine Jq ?_)|refine JA rfl ?_|refine JB rfl ?_|refine JC rfl ?_|refine JD rfl ?_|refine JE rfl ?_|refine JF rfl ?_|refine JG rfl ?_|refine JH rfl ?_|refine JI rfl ?_|refine J2 rfl ?_|refine J3 rfl ?_|refine J4 rfl ?_|refine J1 rfl ?_|refine J6 rfl ?_|refine J7 rfl ?_|refine JJ rfl ?_|refine JK rfl ?_|refine JQ rfl ?_|refine JL rfl rfl ?_|refine JM rfl rfl ?_|refine JN rfl ?_|refine JO rfl ?_|refine JP rfl ?_))
  refine e_ld (v := .agg ⟨tl1.v⟩) (S.row 0 rfl (by simp [Tl.v]) rfl) ?_
  (repeat (first|(with_reducible first|refine Ja ?_|refine Jb ?_|refine Jc ?_|refine Jd ?_|refine Je ?_|refine Jf ?_|refine Jg ?_|refine Jh ?_|refine Ji ?_|refine Jj ?_|refine Jk rfl ?_|refine Jl ?_|refine Jm ?_|refine Jn ?_|refine Jo ?_|refine Jp ?_|refine Jq ?_)|refine JA rfl ?_|refine JB rfl ?_|refine JC rfl ?_|refine JD rfl ?_|refine JE rfl ?_|refine JF rfl ?_|refine JG rfl ?_|refine JH rfl ?_|refine JI rfl ?_|refine J2 rfl ?_|refine J3 rfl ?_|refine J4 rfl ?_|refine J1 rfl ?_|refine J6 rfl ?_|refine J7 rfl ?_|refine JJ rfl ?_|refine JK rfl ?_|refine JQ rfl ?_|refine JL rfl rfl ?_|refine JM rfl rfl ?_|refine JN rfl ?_|refine JO rfl ?_|refine JP rfl ?_))
  refine e_call (L2 := _ :: _ :: Y) rfl hap1 S ?_
  rintro _ _ w ⟨rfl, rfl⟩ S
  refine e_mvT rfl ?_
  refine e_p (v := .agg ⟨A.1.v⟩) rfl ?_
  refine e_p (v := .int .i64 A.2.1) rfl ?_
  refine e_nwE S (cs' := zT.v) rfl fun b21 w S => ?_
  refine e_st (vs := A.1.v) S 0 rfl rfl rfl rfl (by simp [Tl.v, Value.flat]) (by simp [zT, Tl.v]) fun w S => ?_
  refine e_mvI rfl ?_
  replace S : Dn.Sep w (((b21, .cells ⟨A.1.v⟩ 31) :: (b20, .cells ⟨tl1.v⟩ 31) :: (b14, .cells ⟨tT.v⟩ 31) :: Y) ++ A.2.2.L) F := S
  (repeat (first|(with_reducible first|refine Ja ?_|refine Jb ?_|refine Jc ?_|refine Jd ?_|refine Je ?_|refine Jf ?_|refine Jg ?_|refine Jh ?_|refine Ji ?_|refine Jj ?_|refine Jk rfl ?_|refine Jl ?_|refine Jm ?_|refine Jn ?_|refine Jo ?_|refine Jp ?_|refine Jq ?_)|refine JA rfl ?_|refine JB rfl ?_|refine JC rfl ?_|refine JD rfl ?_|refine JE rfl ?_|refine JF rfl ?_|refine JG rfl ?_|refine JH rfl ?_|refine JI rfl ?_|refine J2 rfl ?_|refine J3 rfl ?_|refine J4 rfl ?_|refine J1 rfl ?_|refine J6 rfl ?_|refine J7 rfl ?_|refine JJ rfl ?_|refine JK rfl ?_|refine JQ rfl ?_|refine JL rfl rfl ?_|refine JM rfl rfl ?_|refine JN rfl ?_|refine JO rfl ?_|refine JP rfl ?_))
  refine e_ld (v := .agg ⟨tl1.v⟩) (S.row 1 rfl (by simp [Tl.v]) rfl) ?_
  (repeat (first|(with_reducible first|refine Ja ?_|refine Jb ?_|refine Jc ?_|refine Jd ?_|refine Je ?_|refine Jf ?_|refine Jg ?_|refine Jh ?_|refine Ji ?_|refine Jj ?_|refine Jk rfl ?_|refine Jl ?_|refine Jm ?_|refine Jn ?_|refine Jo ?_|refine Jp ?_|refine Jq ?_)|refine JA rfl ?_|refine JB rfl ?_|refine JC rfl ?_|refine JD rfl ?_|refine JE rfl ?_|refine JF rfl ?_|refine JG rfl ?_|refine JH rfl ?_|refine JI rfl ?_|refine J2 rfl ?_|refine J3 rfl ?_|refine J4 rfl ?_|refine J1 rfl ?_|refine J6 rfl ?_|refine J7 rfl ?_|refine JJ rfl ?_|refine JK rfl ?_|refine JQ rfl ?_|refine JL rfl rfl ?_|refine JM rfl rfl ?_|refine JN rfl ?_|refine JO rfl ?_|refine JP rfl ?_))
  refine e_call (L2 := _ :: _ :: _ :: Y) rfl hap2 S ?_
  rintro _ _ w ⟨rfl, rfl⟩ S
  refine e_mvT rfl ?_
  refine e_p (v := .agg ⟨B.1.v⟩) rfl ?_
  refine e_p (v := .int .i64 B.2.1) rfl ?_
  refine e_nwE S (cs' := zT.v) rfl fun b23 w S => ?_
  refine e_st (vs := B.1.v) S 0 rfl rfl rfl rfl (by simp [Tl.v, Value.flat]) (by simp [zT, Tl.v]) fun w S => ?_
  refine e_mvI rfl ?_
  replace S : Dn.Sep w (((b23, .cells ⟨B.1.v⟩ 31) :: (b21, .cells ⟨A.1.v⟩ 31) :: (b14, .cells ⟨tT.v⟩ 31) :: Y) ++ B.2.2.L) F := by
    have S9 : Dn.Sep w ((b23, .cells ⟨B.1.v⟩ 31) :: (b21, .cells ⟨A.1.v⟩ 31) :: (b20, .cells ⟨tl1.v⟩ 31) :: (b14, .cells ⟨tT.v⟩ 31) :: (Y ++ B.2.2.L)) F := S
    exact Sep.drop (L2 := [_]) (S9.perm ((List.Perm.cons _ (List.Perm.swap _ _ _)).trans (List.Perm.swap _ _ _)))
  (repeat (with_reducible first|refine Ja ?_|refine Jb ?_|refine Jc ?_|refine Jd ?_|refine Je ?_|refine Jf ?_|refine Jg ?_|refine Jh ?_|refine Ji ?_|refine Jj ?_|refine Jk rfl ?_|refine Jl ?_|refine Jm ?_|refine Jn ?_|refine Jo ?_|refine Jp ?_|refine Jq ?_))
  refine e_mvI rfl ?_
  refine e_p (cmp_neqD rfl rfl) ?_
  refine e_mvB rfl ?_
  rcases hch with ⟨k1, k2⟩ | ⟨k1, k2, k3, k4, k5⟩
  · rw [decide_eq_false k1]
    (repeat (first|(with_reducible first|refine Ja ?_|refine Jb ?_|refine Jc ?_|refine Jd ?_|refine Je ?_|refine Jf ?_|refine Jg ?_|refine Jh ?_|refine Ji ?_|refine Jj ?_|refine Jk rfl ?_|refine Jl ?_|refine Jm ?_|refine Jn ?_|refine Jo ?_|refine Jp ?_|refine Jq ?_)|refine JA rfl ?_|refine JB rfl ?_|refine JC rfl ?_|refine JD rfl ?_|refine JE rfl ?_|refine JF rfl ?_|refine JG rfl ?_|refine JH rfl ?_|refine JI rfl ?_|refine J2 rfl ?_|refine J3 rfl ?_|refine J4 rfl ?_|refine J1 rfl ?_|refine J6 rfl ?_|refine J7 rfl ?_|refine JJ rfl ?_|refine JK rfl ?_|refine JQ rfl ?_|refine JL rfl rfl ?_|refine JM rfl rfl ?_|refine JN rfl ?_|refine JO rfl ?_|refine JP rfl ?_))
    refine e_callP rfl l_sanity S fun w S => ?_
    (repeat (with_reducible first|refine Ja ?_|refine Jb ?_|refine Jc ?_|refine Jd ?_|refine Je ?_|refine Jf ?_|refine Jg ?_|refine Jh ?_|refine Ji ?_|refine Jj ?_|refine Jk rfl ?_|refine Jl ?_|refine Jm ?_|refine Jn ?_|refine Jo ?_|refine Jp ?_|refine Jq ?_))
    refine e_mvB rfl ?_
    refine e_gdT rfl ?_
    refine e_mvI rfl ?_
    refine e_gdT rfl ?_
    refine e_mvI rfl ?_
    refine e_gdT rfl ?_
    refine e_p (cmp_eqlD rfl rfl) ?_
    rw [decide_eq_true k2.symm]
    (repeat (first|(with_reducible first|refine Ja ?_|refine Jb ?_|refine Jc ?_|refine Jd ?_|refine Je ?_|refine Jf ?_|refine Jg ?_|refine Jh ?_|refine Ji ?_|refine Jj ?_|refine Jk rfl ?_|refine Jl ?_|refine Jm ?_|refine Jn ?_|refine Jo ?_|refine Jp ?_|refine Jq ?_)|refine JA rfl ?_|refine JB rfl ?_|refine JC rfl ?_|refine JD rfl ?_|refine JE rfl ?_|refine JF rfl ?_|refine JG rfl ?_|refine JH rfl ?_|refine JI rfl ?_|refine J2 rfl ?_|refine J3 rfl ?_|refine J4 rfl ?_|refine J1 rfl ?_|refine J6 rfl ?_|refine J7 rfl ?_|refine JJ rfl ?_|refine JK rfl ?_|refine JQ rfl ?_|refine JL rfl rfl ?_|refine JM rfl rfl ?_|refine JN rfl ?_|refine JO rfl ?_|refine JP rfl ?_))
    exact f_ret rfl rfl (hQ _ _ _ rfl S)
  rw [decide_eq_true k1, k2]
  (repeat (first|(with_reducible first|refine Ja ?_|refine Jb ?_|refine Jc ?_|refine Jd ?_|refine Je ?_|refine Jf ?_|refine Jg ?_|refine Jh ?_|refine Ji ?_|refine Jj ?_|refine Jk rfl ?_|refine Jl ?_|refine Jm ?_|refine Jn ?_|refine Jo ?_|refine Jp ?_|refine Jq ?_)|refine JA rfl ?_|refine JB rfl ?_|refine JC rfl ?_|refine JD rfl ?_|refine JE rfl ?_|refine JF rfl ?_|refine JG rfl ?_|refine JH rfl ?_|refine JI rfl ?_|refine J2 rfl ?_|refine J3 rfl ?_|refine J4 rfl ?_|refine J1 rfl ?_|refine J6 rfl ?_|refine J7 rfl ?_|refine JJ rfl ?_|refine JK rfl ?_|refine JQ rfl ?_|refine JL rfl rfl ?_|refine JM rfl rfl ?_|refine JN rfl ?_|refine JO rfl ?_|refine JP rfl ?_))
  have la : (l.take (kn + 1) ++ [mo]).length = kn + 2 := by simp; omega
  have lb : (l.take kn ++ [o]).length = kn + 1 := by simp; omega
  have hsc0 := w_scan B.2.2 0 zT hok2
  rw [k4, hvB] at hsc0
  simp only [la] at hsc0
  have hsc1 := w_scan B.2.2 1 zT hok2
  rw [k5, hvB] at hsc1
  simp only [lb] at hsc1
  refine e_call (L2 := _ :: _ :: _ :: Y) rfl hsc0 S ?_
  rintro _ _ w ⟨ada, capa, La, rfl, rfl, hOa⟩ S
  refine e_mvT rfl ?_
  refine e_p (v := .slice ada (kn + 2) capa) rfl ?_
  refine e_p (v := .agg ⟨A.1.v⟩) rfl ?_
  refine e_p (v := .int .i64 0) rfl ?_
  refine e_nwE S (cs' := zT.v) rfl fun b26 w S => ?_
  refine e_mvL rfl ?_
  refine e_st (vs := A.1.v) S 0 rfl rfl rfl rfl (by simp [Tl.v, Value.flat]) (by simp [zT, Tl.v]) fun w S => ?_
  refine e_mvI rfl ?_
  obtain ⟨HD, hHD⟩ : ∃ HD, [(b26, Obj.cells ⟨A.1.v⟩ 31), (b23, .cells ⟨B.1.v⟩ 31), (b21, .cells ⟨A.1.v⟩ 31), (b14, .cells ⟨tT.v⟩ 31)] = HD := ⟨_, rfl⟩
  replace S : Dn.Sep w ((HD ++ (Y ++ La)) ++ B.2.2.L) F := by
    have S9 : Dn.Sep w ([(b26, Obj.cells ⟨A.1.v⟩ 31), (b23, .cells ⟨B.1.v⟩ 31), (b21, .cells ⟨A.1.v⟩ 31), (b14, .cells ⟨tT.v⟩ 31)] ++ (Y ++ (B.2.2.L ++ La))) F := S
    rw [hHD] at S9
    rw [List.append_assoc, List.append_assoc]
    exact S9.perm ((List.Perm.refl _).append ((List.Perm.refl _).append List.perm_append_comm))
  (repeat (first|(with_reducible first|refine Ja ?_|refine Jb ?_|refine Jc ?_|refine Jd ?_|refine Je ?_|refine Jf ?_|refine Jg ?_|refine Jh ?_|refine Ji ?_|refine Jj ?_|refine Jk rfl ?_|refine Jl ?_|refine Jm ?_|refine Jn ?_|refine Jo ?_|refine Jp ?_|refine Jq ?_)|refine JA rfl ?_|refine JB rfl ?_|refine JC rfl ?_|refine JD rfl ?_|refine JE rfl ?_|refine JF rfl ?_|refine JG rfl ?_|refine JH rfl ?_|refine JI rfl ?_|refine J2 rfl ?_|refine J3 rfl ?_|refine J4 rfl ?_|refine J1 rfl ?_|refine J6 rfl ?_|refine J7 rfl ?_|refine JJ rfl ?_|refine JK rfl ?_|refine JQ rfl ?_|refine JL rfl rfl ?_|refine JM rfl rfl ?_|refine JN rfl ?_|refine JO rfl ?_|refine JP rfl ?_))
  refine e_call (L2 := _ ++ (Y ++ La)) rfl hsc1 S ?_
  rintro _ _ w ⟨adb, capb, Lb, rfl, rfl, hOb⟩ S
  refine e_mvT rfl ?_
  refine e_p (v := .slice adb (kn + 1) capb) rfl ?_
  refine e_p (v := .agg ⟨tT.v⟩) rfl ?_
  refine e_p (v := .int .i64 0) rfl ?_
  refine e_nwE S (cs' := zT.v) rfl fun b29 w S => ?_
  refine e_mvL rfl ?_
  refine e_st (vs := tT.v) S 0 rfl rfl rfl rfl (by simp [Tl.v, Value.flat]) (by simp [zT, Tl.v]) fun w S => ?_
  refine e_mvI rfl ?_
  replace S : Dn.Sep w ((b29, .cells ⟨tT.v⟩ 31) :: ((HD ++ (Y ++ La)) ++ (B.2.2.L ++ Lb))) F := S
  obtain ⟨ba', csa, loa, hia, rfl, eLa, hga⟩ := OwnT.get hOa (by omega)
  obtain ⟨bb, csb, lob, hib, rfl, eLb, hgb⟩ := OwnT.get hOb (by omega)
  obtain ⟨ZZ, hZZ⟩ : ∃ ZZ, ((b29, Obj.cells ⟨tT.v⟩ 31) :: ((HD ++ (Y ++ La)) ++ (B.2.2.L ++ Lb))) = ZZ := ⟨_, rfl⟩
  have m29 : (b29, Obj.cells ⟨tT.v⟩ 31) ∈ ZZ := by rw [← hZZ]; simp
  have m26 : (b26, Obj.cells ⟨A.1.v⟩ 31) ∈ ZZ := by rw [← hZZ, ← hHD]; simp
  have m23 : (b23, Obj.cells ⟨B.1.v⟩ 31) ∈ ZZ := by rw [← hZZ, ← hHD]; simp
  have m21 : (b21, Obj.cells ⟨A.1.v⟩ 31) ∈ ZZ := by rw [← hZZ, ← hHD]; simp
  have m14 : (b14, Obj.cells ⟨tT.v⟩ 31) ∈ ZZ := by rw [← hZZ, ← hHD]; simp
  have ma : (ba', Obj.cells ⟨csa⟩ 9 (loa, hia)) ∈ ZZ := by rw [← hZZ, eLa]; simp
  have mb : (bb, Obj.cells ⟨csb⟩ 9 (lob, hib)) ∈ ZZ := by rw [← hZZ, eLb]; simp
  rw [hZZ] at S
  clear hZZ
  have rowT : ∀ {w : World} {b : Nat} {t : Tl}, Dn.Sep w ZZ F → (b, Obj.cells ⟨t.v⟩ 31) ∈ ZZ → ldV (some 4) (.pointer (some ⟨b, 0, none⟩)) w = some (.agg ⟨t.v⟩) := fun {w b t} S h => rowM S h (by simp [Tl.v]) rfl
  (repeat (first|(with_reducible first|refine Ja ?_|refine Jb ?_|refine Jc ?_|refine Jd ?_|refine Je ?_|refine Jf ?_|refine Jg ?_|refine Jh ?_|refine Ji ?_|refine Jj ?_|refine Jk rfl ?_|refine Jl ?_|refine Jm ?_|refine Jn ?_|refine Jo ?_|refine Jp ?_|refine Jq ?_)|refine JA rfl ?_|refine JB rfl ?_|refine JC rfl ?_|refine JD rfl ?_|refine JE rfl ?_|refine JF rfl ?_|refine JG rfl ?_|refine JH rfl ?_|refine JI rfl ?_|refine J2 rfl ?_|refine J3 rfl ?_|refine J4 rfl ?_|refine J1 rfl ?_|refine J6 rfl ?_|refine J7 rfl ?_|refine JJ rfl ?_|refine JK rfl ?_|refine JQ rfl ?_|refine JL rfl rfl ?_|refine JM rfl rfl ?_|refine JN rfl ?_|refine JO rfl ?_|refine JP rfl ?_))
  refine e_callP rfl l_sanity S fun w S => ?_
  (repeat (first|(with_reducible first|refine Ja ?_|refine Jb ?_|refine Jc ?_|refine Jd ?_|refine Je ?_|refine Jf ?_|refine Jg ?_|refine Jh ?_|refine Ji ?_|refine Jj ?_|refine Jk rfl ?_|refine Jl ?_|refine Jm ?_|refine Jn ?_|refine Jo ?_|refine Jp ?_|refine Jq ?_)|refine JA rfl ?_|refine JB rfl ?_|refine JC rfl ?_|refine JD rfl ?_|refine JE rfl ?_|refine JF rfl ?_|refine JG rfl ?_|refine JH rfl ?_|refine JI rfl ?_|refine J2 rfl ?_|refine J3 rfl ?_|refine J4 rfl ?_|refine J1 rfl ?_|refine J6 rfl ?_|refine J7 rfl ?_|refine JJ rfl ?_|refine JK rfl ?_|refine JQ rfl ?_|refine JL rfl rfl ?_|refine JM rfl rfl ?_|refine JN rfl ?_|refine JO rfl ?_|refine JP rfl ?_))
  refine e_ld (v := .agg ⟨A.1.v⟩) (rowT S m21) ?_
  refine e_gdT rfl ?_
  refine e_ld (v := .agg ⟨B.1.v⟩) (rowT S m23) ?_
  refine e_gdT rfl ?_
  refine e_p (eqc_tl rfl rfl) ?_
  rw [decide_eq_true k3]
  (repeat (with_reducible first|refine Ja ?_|refine Jb ?_|refine Jc ?_|refine Jd ?_|refine Je ?_|refine Jf ?_|refine Jg ?_|refine Jh ?_|refine Ji ?_|refine Jj ?_|refine Jk rfl ?_|refine Jl ?_|refine Jm ?_|refine Jn ?_|refine Jo ?_|refine Jp ?_|refine Jq ?_))
  refine e_pkTB rfl rfl ?_
  refine e_mvB rfl ?_
  refine e_gdT rfl ?_
  refine e_mvI rfl ?_
  refine e_gdT rfl ?_
  refine e_p (v := .bool true) rfl ?_
  refine e_pkTB rfl rfl ?_
  refine e_mvB rfl ?_
  refine e_gdT rfl ?_
  refine e_mvI rfl ?_
  refine e_gdT rfl ?_
  refine e_p (v := .bool true) rfl ?_
  refine e_pkTB rfl rfl ?_
  refine e_mvB rfl ?_
  refine e_gdT rfl ?_
  refine e_mvL rfl ?_
  refine e_gdT rfl ?_
  refine e_p (v := .int .i64 ((kn : Int) + 2)) rfl ?_
  refine e_gdT rfl ?_
  refine e_mvI rfl ?_
  refine e_gdT rfl ?_
  refine e_add (a := (kn : Int)) (b := 2) rfl rfl (by omega) (by omega) ?_
  refine e_gdT rfl ?_
  refine e_p (cmp_eqlD rfl rfl) ?_
  rw [decide_eq_true rfl]
  refine e_pkTB rfl rfl ?_
  refine e_mvB rfl ?_
  refine e_gdT rfl ?_
  refine e_mvL rfl ?_
  refine e_gdT rfl ?_
  refine e_mvI rfl ?_
  refine e_gdT rfl ?_
  refine e_add (a := (kn : Int)) (b := 1) rfl rfl (by omega) (by omega) ?_
  refine e_gdT rfl ?_
  refine e_ixa rfl rfl (by omega) (by omega) ?_
  rw [show 0 + ((kn : Int) + 1).toNat * 1 = kn + 1 by omega]
  refine e_gdT rfl ?_
  refine e_ld (v := strV mo) (cellM S ma (hga (kn + 1) mo (take_snoc_get (by omega)))) ?_
  refine e_gdT rfl ?_
  refine e_mvS rfl ?_
  refine e_gdT rfl ?_
  refine e_p (cmpS_eql (a := mo) (b := mo) rfl rfl) ?_
  rw [decide_eq_true rfl]
  refine e_pkTB rfl rfl ?_
  refine e_mvB rfl ?_
  refine e_gdT rfl ?_
  refine e_ld (v := .agg ⟨A.1.v⟩) (rowT S m26) ?_
  refine e_gdT rfl ?_
  refine e_ld (v := .agg ⟨A.1.v⟩) (rowT S m21) ?_
  refine e_gdT rfl ?_
  refine e_p (eqc_tl rfl rfl) ?_
  rw [decide_eq_true rfl]
  refine e_pkTB rfl rfl ?_
  refine e_mvB rfl ?_
  refine e_gdT rfl ?_
  refine e_mvL rfl ?_
  refine e_gdT rfl ?_
  refine e_p (v := .int .i64 ((kn : Int) + 1)) rfl ?_
  refine e_gdT rfl ?_
  refine e_mvI rfl ?_
  refine e_gdT rfl ?_
  refine e_add (a := (kn : Int)) (b := 1) rfl rfl (by omega) (by omega) ?_
  refine e_gdT rfl ?_
  refine e_p (cmp_eqlD rfl rfl) ?_
  rw [decide_eq_true rfl]
  refine e_pkTB rfl rfl ?_
  refine e_mvB rfl ?_
  refine e_gdT rfl ?_
  refine e_mvL rfl ?_
  refine e_gdT rfl ?_
  refine e_mvI rfl ?_
  refine e_gdT rfl ?_
  refine e_ixa rfl rfl (by omega) (by omega) ?_
  rw [show 0 + (kn : Int).toNat * 1 = kn by omega]
  refine e_gdT rfl ?_
  refine e_ld (v := strV o) (cellM S mb (hgb kn o (take_snoc_get (by omega)))) ?_
  refine e_gdT rfl ?_
  refine e_mvS rfl ?_
  refine e_gdT rfl ?_
  refine e_p (cmpS_eql (a := o) (b := o) rfl rfl) ?_
  rw [decide_eq_true rfl]
  refine e_pkTB rfl rfl ?_
  refine e_mvB rfl ?_
  refine e_gdT rfl ?_
  refine e_ld (v := .agg ⟨tT.v⟩) (rowT S m29) ?_
  refine e_gdT rfl ?_
  refine e_ld (v := .agg ⟨tT.v⟩) (rowT S m14) ?_
  refine e_gdT rfl ?_
  refine e_p (eqc_tl rfl rfl) ?_
  rw [decide_eq_true rfl]
  (repeat (first|(with_reducible first|refine Ja ?_|refine Jb ?_|refine Jc ?_|refine Jd ?_|refine Je ?_|refine Jf ?_|refine Jg ?_|refine Jh ?_|refine Ji ?_|refine Jj ?_|refine Jk rfl ?_|refine Jl ?_|refine Jm ?_|refine Jn ?_|refine Jo ?_|refine Jp ?_|refine Jq ?_)|refine JA rfl ?_|refine JB rfl ?_|refine JC rfl ?_|refine JD rfl ?_|refine JE rfl ?_|refine JF rfl ?_|refine JG rfl ?_|refine JH rfl ?_|refine JI rfl ?_|refine J2 rfl ?_|refine J3 rfl ?_|refine J4 rfl ?_|refine J1 rfl ?_|refine J6 rfl ?_|refine J7 rfl ?_|refine JJ rfl ?_|refine JK rfl ?_|refine JQ rfl ?_|refine JL rfl rfl ?_|refine JM rfl rfl ?_|refine JN rfl ?_|refine JO rfl ?_|refine JP rfl ?_))
  exact f_ret rfl rfl (hQ _ _ _ rfl S)

end Go.Proofs.Ytgendpinmmmfjaa

/- The law WalChains holds of every input: the call returns true and leaves its arguments as they were. -/
namespace Go.Proofs.Ytgendpinmmmfjaa.walChains
open Go.ChangeShapes Go.WideShapes Go.ChangeAt Go.RowKit
open Go.ChangeMaps (open_string shut_string)
set_option maxRecDepth 100000
theorem own : ownKnob Try.prog.godebug = none := by kernel_rfl
theorem laidOut : laidOutB Try.prog = true := by kernel_rfl
theorem lifted (os : Os) (started : os.Started) (H : Type) (enc : TypeId × Value → H) :
    ReturnsInHanded {} Try.checked os 6 .any (Rows.walChainsSpec.pre6 enc Try.prog Try.f6 Rows.walChainsRow.domain false) (Rows.walChainsSpec.post enc Try.prog Try.f6 false true false false) := by
  refine returnsInHanded_of_change_sized (C := Try.checked) own started (by kernel_rfl) Try.func6
    (ChangeSpec.witness6 (enc := enc) (C := Try.checked) false ⟨#[], #[.int .i64 0, .slice none 0 0, .string ByteArray.empty, .string ByteArray.empty, .int .i64 0], []⟩ 8 (by kernel_rfl) (by kernel_rfl) (by kernel_rfl) (by kernel_rfl)) ?_
  intro W base args ds gs before hval0 hW hcnd hsz0 _
  have hsz : (DataW.weightsEach Try.prog (Try.f6.params.toList ++ Rows.walChainsSpec.plain.varTypes Try.prog) (ds ++ gs)).all (· ≤ reachBytes) = true := hsz0
  have hval : ∀ (j : Nat) t v, Try.f6.params[j]? = some t → args[j]? = some v → Value.okWide Try.prog W .any base t v := hval0
  have hW' := hW
  obtain ⟨p, q, hA0, hV, rfl, hfz, hnd⟩ := hW
  have hA : DataW.TrodAll enc Try.prog W 0 (fun _ => true) true Try.f6.params.toList args.toList ds p := hA0
  rw [Try.params6] at hA hval hsz
  obtain ⟨v0, vs0, d0, ds0, p0, q0, hargs, rfl, rfl, h0, r0⟩ := trodAll_cons hA
  obtain ⟨v1, vs1, d1, ds1, p1, q1, rfl, rfl, rfl, h1, r1⟩ := trodAll_cons r0
  obtain ⟨v2, vs2, d2, ds2, p2, q2, rfl, rfl, rfl, h2, r2⟩ := trodAll_cons r1
  obtain ⟨v3, vs3, d3, ds3, p3, q3, rfl, rfl, rfl, h3, r3⟩ := trodAll_cons r2
  obtain ⟨v4, vs4, d4, ds4, p4, q4, rfl, rfl, rfl, h4, r4⟩ := trodAll_cons r3
  obtain ⟨rfl, rfl, rfl⟩ := trodAll_nil r4
  obtain rfl : args = #[v0, v1, v2, v3, v4] := by cases args; simp_all
  obtain ⟨rfl, rfl⟩ := trodVars_none hV
  obtain ⟨a0, rfl, rfl, rfl, w0⟩ := open_int Try.underlying3 (hval 0 3 v0 rfl rfl) h0
  obtain ⟨a1, len1, cap1, rfl⟩ := okWide_slice Try.underlying22 (hval 1 22 v1 rfl rfl)
  have k1 := h1
  have lt1 : ∀ x ∈ p1, x.block < W.heap.size := by obtain ⟨m, hm⟩ := k1; exact DataW.trod_lt m _ _ _ hm
  obtain ⟨l1, rfl, y1, z1, F1⟩ := Dn.open_strsF Try.underlying22 Try.underlying9 (by kernel_rfl) (by kernel_rfl) h1 hsz (j := 1) rfl rfl
  obtain ⟨a2, rfl, rfl, rfl, y2⟩ := open_string Try.underlying9 (hval 2 9 v2 rfl rfl) h2
  have w2 : a2.size ≤ 140737488351232 := by
    have z := sized_string hsz (j := 2) (t := 9) rfl rfl
    rw [Array.length_toList] at z
    exact z
  obtain ⟨a3, rfl, rfl, rfl, y3⟩ := open_string Try.underlying9 (hval 3 9 v3 rfl rfl) h3
  have w3 : a3.size ≤ 140737488351232 := by
    have z := sized_string hsz (j := 3) (t := 9) rfl rfl
    rw [Array.length_toList] at z
    exact z
  obtain ⟨a4, rfl, rfl, rfl, w4⟩ := open_int Try.underlying3 (hval 4 3 v4 rfl rfl) h4
  clear hA0 hval0 hsz0 hsz
  refine Calls.mono (Dn.calls_of (W := W) (law_chains a0 a1 cap1 l1 a2.data.toList a3.data.toList a4 (by omega) (fun r hr => by have := z1 r hr; omega) (by have e : a2.data.toList.length = a2.size := rfl; omega) (by have e : a3.data.toList.length = a3.size := rfl; omega)) F1) fun e W' ⟨he, bel⟩ => ?_
  subst he
  exact ⟨_, rfl, _, _, _, [], _, [], hW', trodAll_mk1 (shut_bool Try.underlying4 _), (trodAll_cons_mk (shut_int Try.underlying3 w0) (trodAll_cons_mk (Below.trod laidOut (by kernel_rfl) (of_decide_eq_true (by kernel_rfl)) k1 bel lt1) (trodAll_cons_mk (shut_string Try.underlying9 y2) (trodAll_cons_mk (shut_string Try.underlying9 y3) (trodAll_cons_mk (shut_int Try.underlying3 w4) trodAll_mk0))))), rfl, bel.frame _, fun h => by cases h⟩
theorem over : Rows.walChainsRow.holds Try.pinned (OpenSpec.ofChange Rows.walChainsSpec) :=
  OpenClaim.holds_of_wide 6 Try.f6 rfl rfl rfl rfl rfl rfl rfl ⟨rfl, rfl, rfl, rfl, rfl⟩ rfl rfl rfl rfl rfl (by kernel_rfl) Try.func6 (by kernel_rfl)
    (of_decide_eq_true (by kernel_rfl)) (by unfold Func.isWrapper; first | (rw [if_pos (by decide +kernel)]; kernel_rfl) | (rw [if_neg (by decide +kernel)]; exact ⟨rfl, rfl⟩))
    (fun os started H enc _ => lifted os started H enc)
theorem proved : Rows.WalChainsSaid := over
end Go.Proofs.Ytgendpinmmmfjaa.walChains
namespace Go.Proofs.Ytgendpinmmmfjaa
/-- The row, under a short name, for the claim. -/
theorem walChains_holds : Rows.WalChainsSaid := walChains.proved
#print axioms walChains_holds
end Go.Proofs.Ytgendpinmmmfjaa
