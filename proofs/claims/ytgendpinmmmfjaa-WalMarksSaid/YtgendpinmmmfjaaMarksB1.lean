/- The law WalMarks holds of every input: the call returns true and leaves its arguments as they were. -/
import Derived.Test.YtgendpinmmmfjaaBaseMB5
import Derived.Test.YtgendpinmmmfjaaRows
set_option linter.unusedVariables false
set_option linter.unusedSimpArgs false
/-
  The walk of WalMarks.
-/
namespace Go.Proofs.Ytgendpinmmmfjaa
open Dn
attribute [local irreducible] Evs Ev EvT DSpec PSpec CallTo
set_option maxRecDepth 100000
set_option maxHeartbeats 4000000

theorem fuse_mk {s : Sh} {c : Cfg} {lo n : Nat} (h : Mk s c lo n) (k : Int) (hk : k < 9223372036854775808) : Mk { s with fused := decide (0 ≤ k), left := k } c lo n :=
  ⟨⟨⟨h.std.ok.cfg, h.std.ok.len, fun hf => ⟨of_decide_eq_true hf, hk⟩, h.std.ok.dks, h.std.ok.szs⟩, h.std.inn, h.std.arm⟩, fun b hb => h.wf b hb, h.cfg, h.off, h.rg⟩
theorem ar_rem2 (a : Nat) : arV .rem (.int .i64 (a : Int)) (.int .i64 2) = some (.int .i64 ((a % 2 : Nat) : Int)) := by
  rw [ar_remI _ _ (by omega)]
  rfl

theorem law_marks (first n fuse : Int) (adp : Option Addr) (capp : Nat) (picks : List Int) (hfu : fuse < 9223372036854775808) (hbp : picks.length < 4611686018427387904) (hcp : picks.length ≤ capp) :
    DSpecF Try.prog 9 [.int .i64 first, .int .i64 n, .int .i64 fuse, .slice adp picks.length capp] [] (fun F => FSl F adp (picks.map (Value.int .i64))) fun v _ => v = .bool true := by
  refine specF_of mix Try.func9 c9_eq rfl rfl fun w F Q hFp S hQ => ?_
  (repeat (first|(with_reducible first|refine Ja ?_|refine Jb ?_|refine Jc ?_|refine Jd ?_|refine Je ?_|refine Jf ?_|refine Jg ?_|refine Jh ?_|refine Ji ?_|refine Jj ?_|refine Jk rfl ?_|refine Jl ?_|refine Jm ?_|refine Jn ?_|refine Jo ?_|refine Jp ?_|refine Jq ?_)|refine JA rfl ?_|refine JB rfl ?_|refine JC rfl ?_|refine JD rfl ?_|refine JE rfl ?_|refine JF rfl ?_|refine JG rfl ?_|refine JH rfl ?_|refine JI rfl ?_|refine J2 rfl ?_|refine J3 rfl ?_|refine J4 rfl ?_|refine J1 rfl ?_|refine J6 rfl ?_|refine J7 rfl ?_|refine JJ rfl ?_|refine JK rfl ?_|refine JQ rfl ?_|refine JL rfl rfl ?_|refine JM rfl rfl ?_|refine JN rfl ?_|refine JO rfl ?_|refine JP rfl ?_))
  refine e_brD rfl (fun h1 => ?_) (fun h1 => ?_)
  · (repeat (first|(with_reducible first|refine Ja ?_|refine Jb ?_|refine Jc ?_|refine Jd ?_|refine Je ?_|refine Jf ?_|refine Jg ?_|refine Jh ?_|refine Ji ?_|refine Jj ?_|refine Jk rfl ?_|refine Jl ?_|refine Jm ?_|refine Jn ?_|refine Jo ?_|refine Jp ?_|refine Jq ?_)|refine JA rfl ?_|refine JB rfl ?_|refine JC rfl ?_|refine JD rfl ?_|refine JE rfl ?_|refine JF rfl ?_|refine JG rfl ?_|refine JH rfl ?_|refine JI rfl ?_|refine J2 rfl ?_|refine J3 rfl ?_|refine J4 rfl ?_|refine J1 rfl ?_|refine J6 rfl ?_|refine J7 rfl ?_|refine JJ rfl ?_|refine JK rfl ?_|refine JQ rfl ?_|refine JL rfl rfl ?_|refine JM rfl rfl ?_|refine JN rfl ?_|refine JO rfl ?_|refine JP rfl ?_))
    refine e_callP rfl l_sanity S fun w S => ?_
    (repeat (first|(with_reducible first|refine Ja ?_|refine Jb ?_|refine Jc ?_|refine Jd ?_|refine Je ?_|refine Jf ?_|refine Jg ?_|refine Jh ?_|refine Ji ?_|refine Jj ?_|refine Jk rfl ?_|refine Jl ?_|refine Jm ?_|refine Jn ?_|refine Jo ?_|refine Jp ?_|refine Jq ?_)|refine JA rfl ?_|refine JB rfl ?_|refine JC rfl ?_|refine JD rfl ?_|refine JE rfl ?_|refine JF rfl ?_|refine JG rfl ?_|refine JH rfl ?_|refine JI rfl ?_|refine J2 rfl ?_|refine J3 rfl ?_|refine J4 rfl ?_|refine J1 rfl ?_|refine J6 rfl ?_|refine J7 rfl ?_|refine JJ rfl ?_|refine JK rfl ?_|refine JQ rfl ?_|refine JL rfl rfl ?_|refine JM rfl rfl ?_|refine JN rfl ?_|refine JO rfl ?_|refine JP rfl ?_))
    exact f_ret rfl rfl (hQ _ _ _ rfl S)
  (repeat (first|(with_reducible first|refine Ja ?_|refine Jb ?_|refine Jc ?_|refine Jd ?_|refine Je ?_|refine Jf ?_|refine Jg ?_|refine Jh ?_|refine Ji ?_|refine Jj ?_|refine Jk rfl ?_|refine Jl ?_|refine Jm ?_|refine Jn ?_|refine Jo ?_|refine Jp ?_|refine Jq ?_)|refine JA rfl ?_|refine JB rfl ?_|refine JC rfl ?_|refine JD rfl ?_|refine JE rfl ?_|refine JF rfl ?_|refine JG rfl ?_|refine JH rfl ?_|refine JI rfl ?_|refine J2 rfl ?_|refine J3 rfl ?_|refine J4 rfl ?_|refine J1 rfl ?_|refine J6 rfl ?_|refine J7 rfl ?_|refine JJ rfl ?_|refine JK rfl ?_|refine JQ rfl ?_|refine JL rfl rfl ?_|refine JM rfl rfl ?_|refine JN rfl ?_|refine JO rfl ?_|refine JP rfl ?_))
  refine e_brD rfl (fun h2 => ?_) (fun h2 => ?_)
  · (repeat (first|(with_reducible first|refine Ja ?_|refine Jb ?_|refine Jc ?_|refine Jd ?_|refine Je ?_|refine Jf ?_|refine Jg ?_|refine Jh ?_|refine Ji ?_|refine Jj ?_|refine Jk rfl ?_|refine Jl ?_|refine Jm ?_|refine Jn ?_|refine Jo ?_|refine Jp ?_|refine Jq ?_)|refine JA rfl ?_|refine JB rfl ?_|refine JC rfl ?_|refine JD rfl ?_|refine JE rfl ?_|refine JF rfl ?_|refine JG rfl ?_|refine JH rfl ?_|refine JI rfl ?_|refine J2 rfl ?_|refine J3 rfl ?_|refine J4 rfl ?_|refine J1 rfl ?_|refine J6 rfl ?_|refine J7 rfl ?_|refine JJ rfl ?_|refine JK rfl ?_|refine JQ rfl ?_|refine JL rfl rfl ?_|refine JM rfl rfl ?_|refine JN rfl ?_|refine JO rfl ?_|refine JP rfl ?_))
    refine e_callP rfl l_sanity S fun w S => ?_
    (repeat (first|(with_reducible first|refine Ja ?_|refine Jb ?_|refine Jc ?_|refine Jd ?_|refine Je ?_|refine Jf ?_|refine Jg ?_|refine Jh ?_|refine Ji ?_|refine Jj ?_|refine Jk rfl ?_|refine Jl ?_|refine Jm ?_|refine Jn ?_|refine Jo ?_|refine Jp ?_|refine Jq ?_)|refine JA rfl ?_|refine JB rfl ?_|refine JC rfl ?_|refine JD rfl ?_|refine JE rfl ?_|refine JF rfl ?_|refine JG rfl ?_|refine JH rfl ?_|refine JI rfl ?_|refine J2 rfl ?_|refine J3 rfl ?_|refine J4 rfl ?_|refine J1 rfl ?_|refine J6 rfl ?_|refine J7 rfl ?_|refine JJ rfl ?_|refine JK rfl ?_|refine JQ rfl ?_|refine JL rfl rfl ?_|refine JM rfl rfl ?_|refine JN rfl ?_|refine JO rfl ?_|refine JP rfl ?_))
    exact f_ret rfl rfl (hQ _ _ _ rfl S)
  (repeat (first|(with_reducible first|refine Ja ?_|refine Jb ?_|refine Jc ?_|refine Jd ?_|refine Je ?_|refine Jf ?_|refine Jg ?_|refine Jh ?_|refine Ji ?_|refine Jj ?_|refine Jk rfl ?_|refine Jl ?_|refine Jm ?_|refine Jn ?_|refine Jo ?_|refine Jp ?_|refine Jq ?_)|refine JA rfl ?_|refine JB rfl ?_|refine JC rfl ?_|refine JD rfl ?_|refine JE rfl ?_|refine JF rfl ?_|refine JG rfl ?_|refine JH rfl ?_|refine JI rfl ?_|refine J2 rfl ?_|refine J3 rfl ?_|refine J4 rfl ?_|refine J1 rfl ?_|refine J6 rfl ?_|refine J7 rfl ?_|refine JJ rfl ?_|refine JK rfl ?_|refine JQ rfl ?_|refine JL rfl rfl ?_|refine JM rfl rfl ?_|refine JN rfl ?_|refine JO rfl ?_|refine JP rfl ?_))
  refine e_brD rfl (fun h3 => ?_) (fun h3 => ?_)
  · (repeat (first|(with_reducible first|refine Ja ?_|refine Jb ?_|refine Jc ?_|refine Jd ?_|refine Je ?_|refine Jf ?_|refine Jg ?_|refine Jh ?_|refine Ji ?_|refine Jj ?_|refine Jk rfl ?_|refine Jl ?_|refine Jm ?_|refine Jn ?_|refine Jo ?_|refine Jp ?_|refine Jq ?_)|refine JA rfl ?_|refine JB rfl ?_|refine JC rfl ?_|refine JD rfl ?_|refine JE rfl ?_|refine JF rfl ?_|refine JG rfl ?_|refine JH rfl ?_|refine JI rfl ?_|refine J2 rfl ?_|refine J3 rfl ?_|refine J4 rfl ?_|refine J1 rfl ?_|refine J6 rfl ?_|refine J7 rfl ?_|refine JJ rfl ?_|refine JK rfl ?_|refine JQ rfl ?_|refine JL rfl rfl ?_|refine JM rfl rfl ?_|refine JN rfl ?_|refine JO rfl ?_|refine JP rfl ?_))
    refine e_callP rfl l_sanity S fun w S => ?_
    (repeat (first|(with_reducible first|refine Ja ?_|refine Jb ?_|refine Jc ?_|refine Jd ?_|refine Je ?_|refine Jf ?_|refine Jg ?_|refine Jh ?_|refine Ji ?_|refine Jj ?_|refine Jk rfl ?_|refine Jl ?_|refine Jm ?_|refine Jn ?_|refine Jo ?_|refine Jp ?_|refine Jq ?_)|refine JA rfl ?_|refine JB rfl ?_|refine JC rfl ?_|refine JD rfl ?_|refine JE rfl ?_|refine JF rfl ?_|refine JG rfl ?_|refine JH rfl ?_|refine JI rfl ?_|refine J2 rfl ?_|refine J3 rfl ?_|refine J4 rfl ?_|refine J1 rfl ?_|refine J6 rfl ?_|refine J7 rfl ?_|refine JJ rfl ?_|refine JK rfl ?_|refine JQ rfl ?_|refine JL rfl rfl ?_|refine JM rfl rfl ?_|refine JN rfl ?_|refine JO rfl ?_|refine JP rfl ?_))
    exact f_ret rfl rfl (hQ _ _ _ rfl S)
  (repeat (first|(with_reducible first|refine Ja ?_|refine Jb ?_|refine Jc ?_|refine Jd ?_|refine Je ?_|refine Jf ?_|refine Jg ?_|refine Jh ?_|refine Ji ?_|refine Jj ?_|refine Jk rfl ?_|refine Jl ?_|refine Jm ?_|refine Jn ?_|refine Jo ?_|refine Jp ?_|refine Jq ?_)|refine JA rfl ?_|refine JB rfl ?_|refine JC rfl ?_|refine JD rfl ?_|refine JE rfl ?_|refine JF rfl ?_|refine JG rfl ?_|refine JH rfl ?_|refine JI rfl ?_|refine J2 rfl ?_|refine J3 rfl ?_|refine J4 rfl ?_|refine J1 rfl ?_|refine J6 rfl ?_|refine J7 rfl ?_|refine JJ rfl ?_|refine JK rfl ?_|refine JQ rfl ?_|refine JL rfl rfl ?_|refine JM rfl rfl ?_|refine JN rfl ?_|refine JO rfl ?_|refine JP rfl ?_))
  refine s_iteD rfl (fun h4 => ?_) (fun h4 => ?_)
  · (repeat (first|(with_reducible first|refine Ja ?_|refine Jb ?_|refine Jc ?_|refine Jd ?_|refine Je ?_|refine Jf ?_|refine Jg ?_|refine Jh ?_|refine Ji ?_|refine Jj ?_|refine Jk rfl ?_|refine Jl ?_|refine Jm ?_|refine Jn ?_|refine Jo ?_|refine Jp ?_|refine Jq ?_)|refine JA rfl ?_|refine JB rfl ?_|refine JC rfl ?_|refine JD rfl ?_|refine JE rfl ?_|refine JF rfl ?_|refine JG rfl ?_|refine JH rfl ?_|refine JI rfl ?_|refine J2 rfl ?_|refine J3 rfl ?_|refine J4 rfl ?_|refine J1 rfl ?_|refine J6 rfl ?_|refine J7 rfl ?_|refine JJ rfl ?_|refine JK rfl ?_|refine JQ rfl ?_|refine JL rfl rfl ?_|refine JM rfl rfl ?_|refine JN rfl ?_|refine JO rfl ?_|refine JP rfl ?_))
    refine e_callP rfl l_sanity S fun w S => ?_
    (repeat (first|(with_reducible first|refine Ja ?_|refine Jb ?_|refine Jc ?_|refine Jd ?_|refine Je ?_|refine Jf ?_|refine Jg ?_|refine Jh ?_|refine Ji ?_|refine Jj ?_|refine Jk rfl ?_|refine Jl ?_|refine Jm ?_|refine Jn ?_|refine Jo ?_|refine Jp ?_|refine Jq ?_)|refine JA rfl ?_|refine JB rfl ?_|refine JC rfl ?_|refine JD rfl ?_|refine JE rfl ?_|refine JF rfl ?_|refine JG rfl ?_|refine JH rfl ?_|refine JI rfl ?_|refine J2 rfl ?_|refine J3 rfl ?_|refine J4 rfl ?_|refine J1 rfl ?_|refine J6 rfl ?_|refine J7 rfl ?_|refine JJ rfl ?_|refine JK rfl ?_|refine JQ rfl ?_|refine JL rfl rfl ?_|refine JM rfl rfl ?_|refine JN rfl ?_|refine JO rfl ?_|refine JP rfl ?_))
    exact f_ret rfl rfl (hQ _ _ _ rfl S)
  obtain ⟨b, rfl⟩ : ∃ b : Nat, first = ((b + 3 : Nat) : Int) := ⟨(first - 3).toNat, by omega⟩
  obtain ⟨n, rfl⟩ : ∃ k : Nat, n = (k : Int) := ⟨n.toNat, by omega⟩
  have hb1 : 1 ≤ b := by omega
  have hb2 : b + 3 ≤ 2147483648 := by omega
  have hn : n ≤ 40 := by omega
  obtain ⟨hc, ht⟩ := lawCfg_ok (n := 1) (by omega) (by omega)
  (repeat (first|(with_reducible first|refine Ja ?_|refine Jb ?_|refine Jc ?_|refine Jd ?_|refine Je ?_|refine Jf ?_|refine Jg ?_|refine Jh ?_|refine Ji ?_|refine Jj ?_|refine Jk rfl ?_|refine Jl ?_|refine Jm ?_|refine Jn ?_|refine Jo ?_|refine Jp ?_|refine Jq ?_)|refine JA rfl ?_|refine JB rfl ?_|refine JC rfl ?_|refine JD rfl ?_|refine JE rfl ?_|refine JF rfl ?_|refine JG rfl ?_|refine JH rfl ?_|refine JI rfl ?_|refine J2 rfl ?_|refine J3 rfl ?_|refine J4 rfl ?_|refine J1 rfl ?_|refine J6 rfl ?_|refine J7 rfl ?_|refine JJ rfl ?_|refine JK rfl ?_|refine JQ rfl ?_|refine JL rfl rfl ?_|refine JM rfl rfl ?_|refine JN rfl ?_|refine JO rfl ?_|refine JP rfl ?_))
  refine e_callP rfl (l_config 1 (by omega) (by omega)) S fun w S => ?_
  have hnew := sh_new (lawCfg 1)
  refine e_callN rfl hnew S ?_
  rintro v L w hv S
  rw [if_pos hc, if_neg (by omega)] at hv
  obtain ⟨s0, rfl, rfl, hfr⟩ := hv
  replace S : Dn.Sep w s0.L F := S
  have hlog : (lawCfg 1).log = 4 := rfl
  have hdk : 1 ≤ (lawCfg 1).disks := by show (1 : Int) ≤ 2; omega
  have hct : 4 ≤ (lawCfg 1).total := by unfold Cfg.total lawCfg; simp only; omega
  obtain ⟨c, hcE⟩ : ∃ c, lawCfg 1 = c := ⟨_, rfl⟩
  rw [hcE] at hc ht hfr hlog hdk hct
  refine e_mvT rfl ?_
  refine e_p (v := s0.v) rfl ?_
  refine e_p (v := .int .i64 0) rfl ?_
  refine e_p (v := s0.v) rfl ?_
  refine e_mvI rfl ?_
  (repeat (with_reducible first|refine Ja ?_|refine Jb ?_|refine Jc ?_|refine Jd ?_|refine Je ?_|refine Jf ?_|refine Jg ?_|refine Jh ?_|refine Ji ?_|refine Jj ?_|refine Jk rfl ?_|refine Jl ?_|refine Jm ?_|refine Jn ?_|refine Jo ?_|refine Jp ?_|refine Jq ?_))
  refine e_mvI rfl ?_
  refine e_p (v := .bool false) rfl ?_
  refine e_mvB rfl ?_
  refine e_gdT rfl ?_
  refine e_p (v := s0.v) rfl ?_
  refine e_gdT rfl ?_
  refine e_p (v := .bool false) rfl ?_
  refine e_pkFB rfl rfl ?_
  (repeat (with_reducible first|refine Jc ?_|refine Jd ?_|refine Je ?_|refine Jf ?_|refine Jg ?_|refine Jh ?_|refine Ji ?_|refine Jj ?_|refine Jk rfl ?_|refine Jl ?_|refine Jm ?_|refine Jn ?_|refine Jp ?_|refine Jq ?_))
  refine s_iteF rfl ?_
  have hpre : Mk s0 c b b := ⟨fresh_std hc hfr, fresh_wf hfr, hfr.cfg, hfr.off, fun q h1 h2 => by omega⟩
  (repeat (with_reducible first|refine Ja ?_|refine Jb ?_|refine Jc ?_|refine Jd ?_|refine Je ?_|refine Jf ?_|refine Jg ?_|refine Jh ?_|refine Ji ?_|refine Jj ?_|refine Jk rfl ?_|refine Jl ?_|refine Jm ?_|refine Jn ?_|refine Jo ?_|refine Jp ?_|refine Jq ?_))
  refine e_mvI rfl ?_
  refine e_sub (a := ((b + 3 : Nat) : Int)) (b := 3) rfl rfl (by omega) (by omega) ?_
  rw [show (((b + 3 : Nat) : Int) - 3) = ((b + 0 : Nat) : Int) by omega]
  (repeat (with_reducible first|refine Ja ?_|refine Jb ?_|refine Jc ?_|refine Jd ?_|refine Je ?_|refine Jf ?_|refine Jg ?_|refine Jh ?_|refine Ji ?_|refine Jj ?_|refine Jk rfl ?_|refine Jl ?_|refine Jm ?_|refine Jn ?_|refine Jo ?_|refine Jp ?_|refine Jq ?_))
  refine e_mvI rfl ?_
  (repeat (with_reducible first|refine Ja ?_|refine Jb ?_|refine Jc ?_|refine Jd ?_|refine Je ?_|refine Jf ?_|refine Jg ?_|refine Jh ?_|refine Ji ?_|refine Jj ?_|refine Jk rfl ?_|refine Jl ?_|refine Jm ?_|refine Jn ?_|refine Jo ?_|refine Jp ?_|refine Jq ?_))
  refine s_loop (σ := Sh × Nat) (fun q => [(11, .int .i64 ((b + q.2 : Nat) : Int)), (0, .int .i64 ((b + 3 : Nat) : Int)), (1, .int .i64 (n : Int)), (2, .int .i64 fuse), (3, .slice adp picks.length capp), (9, s0.v)])
    (fun q w => q.2 ≤ 3 ∧ q.1.q = s0.q ∧ q.1.fused = false ∧ Mk q.1 c b (b + q.2) ∧ Dn.Sep w q.1.L F) (fun q => 3 - q.2) (s0, 0) ⟨rfl, rfl, rfl, rfl, rfl, rfl, trivial⟩ rfl ⟨by simp, rfl, hfr.fused, hpre, S⟩ ?_
  rintro gg ⟨s, k⟩ w ⟨hk, hsq, hfu0, hP, S⟩
  simp only [setL] at hk hsq hfu0 hP S ⊢
  have hsv : s.v = s0.v := by simp only [Sh.v, hsq]
  (repeat (first|(with_reducible first|refine Ja ?_|refine Jb ?_|refine Jc ?_|refine Jd ?_|refine Je ?_|refine Jf ?_|refine Jg ?_|refine Jh ?_|refine Ji ?_|refine Jj ?_|refine Jk rfl ?_|refine Jl ?_|refine Jm ?_|refine Jn ?_|refine Jo ?_|refine Jp ?_|refine Jq ?_)|refine JA rfl ?_|refine JB rfl ?_|refine JC rfl ?_|refine JD rfl ?_|refine JE rfl ?_|refine JF rfl ?_|refine JG rfl ?_|refine JH rfl ?_|refine JI rfl ?_|refine J2 rfl ?_|refine J3 rfl ?_|refine J4 rfl ?_|refine J1 rfl ?_|refine J6 rfl ?_|refine J7 rfl ?_|refine JJ rfl ?_|refine JK rfl ?_|refine JQ rfl ?_|refine JL rfl rfl ?_|refine JM rfl rfl ?_|refine JN rfl ?_|refine JO rfl ?_|refine JP rfl ?_))
  refine s_iteD rfl (fun h => ?_) (fun h => ?_)
  · have hk3 : k < 3 := by omega
    obtain ⟨a1, a2, a3, a4, a5⟩ := mk_step hdk hlog hct hP
    rcases a5 with ⟨_, e, _⟩ | ⟨_, _, e, _⟩ | ⟨e1, e2, e3, e4⟩
    · rw [hfu0] at e; cases e
    · rw [hfu0] at e; cases e
    have hmk := w_mark s 0 ((b + k : Nat) : Int) hP.std.ok
    rw [markW_eq hP.std.ok (by omega) (by omega) (by rw [hP.cfg]; exact hlog), hsv] at hmk
    simp only [e1] at hmk
    obtain ⟨u, hu⟩ : ∃ u, s.wrS (plW 0 (mkI (b + k))) (mkS (b + k)) = u := ⟨_, rfl⟩
    rw [hu] at hmk a1 a2 a3 a4 e2 e3 e4
    have huv : u.v = s0.v := by simp only [Sh.v, a3, hsq]
    have hfl := sh_flush u 0 a1.ok a2
    rw [huv, e2] at hfl
    (repeat (with_reducible first|refine Ja ?_|refine Jb ?_|refine Jc ?_|refine Jd ?_|refine Je ?_|refine Jf ?_|refine Jg ?_|refine Jh ?_|refine Ji ?_|refine Jj ?_|refine Jk rfl ?_|refine Jl ?_|refine Jm ?_|refine Jn ?_|refine Jo ?_|refine Jp ?_|refine Jq ?_))
    refine e_p (v := s0.v) rfl ?_
    refine e_mvI rfl ?_
    refine e_call (L2 := []) rfl hmk S ?_
    rintro _ _ w ⟨rfl, rfl⟩ S
    refine e_p (v := .bool false) rfl ?_
    refine e_mvB rfl ?_
    refine e_gdT rfl ?_
    refine e_p (v := s0.v) rfl ?_
    refine e_gdT rfl ?_
    refine e_call (L2 := []) rfl hfl S ?_
    rintro _ _ w ⟨rfl, rfl⟩ S
    refine e_gdT rfl ?_
    refine e_p (v := .bool false) rfl ?_
    refine e_pkFB rfl rfl ?_
    (repeat (first|(with_reducible first|refine Ja ?_|refine Jb ?_|refine Jc ?_|refine Jd ?_|refine Je ?_|refine Jf ?_|refine Jg ?_|refine Jh ?_|refine Ji ?_|refine Jj ?_|refine Jk rfl ?_|refine Jl ?_|refine Jm ?_|refine Jn ?_|refine Jo ?_|refine Jp ?_|refine Jq ?_)|refine JA rfl ?_|refine JB rfl ?_|refine JC rfl ?_|refine JD rfl ?_|refine JE rfl ?_|refine JF rfl ?_|refine JG rfl ?_|refine JH rfl ?_|refine JI rfl ?_|refine J2 rfl ?_|refine J3 rfl ?_|refine J4 rfl ?_|refine J1 rfl ?_|refine J6 rfl ?_|refine J7 rfl ?_|refine JJ rfl ?_|refine JK rfl ?_|refine JQ rfl ?_|refine JL rfl rfl ?_|refine JM rfl rfl ?_|refine JN rfl ?_|refine JO rfl ?_|refine JP rfl ?_))
    refine e_add (a := ((b + k : Nat) : Int)) (b := 1) rfl rfl (by omega) (by omega) ?_
    rw [show (((b + k : Nat) : Int) + 1) = ((b + (k + 1) : Nat) : Int) by omega]
    (repeat (first|(with_reducible first|refine Ja ?_|refine Jb ?_|refine Jc ?_|refine Jd ?_|refine Je ?_|refine Jf ?_|refine Jg ?_|refine Jh ?_|refine Ji ?_|refine Jj ?_|refine Jk rfl ?_|refine Jl ?_|refine Jm ?_|refine Jn ?_|refine Jo ?_|refine Jp ?_|refine Jq ?_)|refine JA rfl ?_|refine JB rfl ?_|refine JC rfl ?_|refine JD rfl ?_|refine JE rfl ?_|refine JF rfl ?_|refine JG rfl ?_|refine JH rfl ?_|refine JI rfl ?_|refine J2 rfl ?_|refine J3 rfl ?_|refine J4 rfl ?_|refine J1 rfl ?_|refine J6 rfl ?_|refine J7 rfl ?_|refine JJ rfl ?_|refine JK rfl ?_|refine JQ rfl ?_|refine JL rfl rfl ?_|refine JM rfl rfl ?_|refine JN rfl ?_|refine JO rfl ?_|refine JP rfl ?_))
    exact ⟨rfl, (u.flS 0, k + 1), ⟨rfl, rfl, rfl, rfl, rfl, rfl, trivial⟩, ⟨by simp only; omega, a4.trans hsq, e3.trans hfu0, e4, S⟩, by simp only; omega⟩
  have hk3 : k = 3 := by omega
  subst hk3
  have hP1 := fuse_mk hP fuse hfu
  have hfs := sh_fuse s fuse
  rw [hsv] at hfs
  obtain ⟨s1, hs1⟩ : ∃ s1 : Sh, ({ s with fused := decide (0 ≤ fuse), left := fuse } : Sh) = s1 := ⟨_, rfl⟩
  have hq1 : s1.q = s0.q := by rw [← hs1]; exact hsq
  rw [hs1] at hP1 hfs
  (repeat (first|(with_reducible first|refine Ja ?_|refine Jb ?_|refine Jc ?_|refine Jd ?_|refine Je ?_|refine Jf ?_|refine Jg ?_|refine Jh ?_|refine Ji ?_|refine Jj ?_|refine Jk rfl ?_|refine Jl ?_|refine Jm ?_|refine Jn ?_|refine Jo ?_|refine Jp ?_|refine Jq ?_)|refine JA rfl ?_|refine JB rfl ?_|refine JC rfl ?_|refine JD rfl ?_|refine JE rfl ?_|refine JF rfl ?_|refine JG rfl ?_|refine JH rfl ?_|refine JI rfl ?_|refine J2 rfl ?_|refine J3 rfl ?_|refine J4 rfl ?_|refine J1 rfl ?_|refine J6 rfl ?_|refine J7 rfl ?_|refine JJ rfl ?_|refine JK rfl ?_|refine JQ rfl ?_|refine JL rfl rfl ?_|refine JM rfl rfl ?_|refine JN rfl ?_|refine JO rfl ?_|refine JP rfl ?_))
  refine e_call (L2 := []) rfl hfs S ?_
  rintro _ _ w rfl S
  replace S : Dn.Sep w s1.L F := S
  (repeat (with_reducible first|refine Ja ?_|refine Jb ?_|refine Jc ?_|refine Jd ?_|refine Je ?_|refine Jf ?_|refine Jg ?_|refine Jh ?_|refine Ji ?_|refine Jj ?_|refine Jk rfl ?_|refine Jl ?_|refine Jm ?_|refine Jn ?_|refine Jo ?_|refine Jp ?_|refine Jq ?_))
  refine e_mvI rfl ?_
  refine e_sub (a := ((b + 3 : Nat) : Int)) (b := 1) rfl rfl (by omega) (by omega) ?_
  rw [show (((b + 3 : Nat) : Int) - 1) = ((b + 0 + 2 : Nat) : Int) by omega]
  refine e_mvI rfl ?_
  (repeat (with_reducible first|refine Jc ?_|refine Jd ?_|refine Je ?_|refine Jf ?_|refine Jg ?_|refine Jh ?_|refine Ji ?_|refine Jj ?_|refine Jk rfl ?_|refine Jl ?_|refine Jm ?_|refine Jn ?_|refine Jp ?_|refine Jq ?_))
  refine s_cut (σ := Sh × Nat) (fun q => [(12, .int .i64 ((b + q.2 + 2 : Nat) : Int)), (9, s0.v), (3, .slice adp picks.length capp)])
    (fun q w => q.2 ≤ 40 ∧ q.1.q = s0.q ∧ MkP q.1 c (b + q.2) ∧ Dn.Sep w q.1.L F) ?_ ?_
  · (repeat (with_reducible first|refine Ja ?_|refine Jb ?_|refine Jc ?_|refine Jd ?_|refine Je ?_|refine Jf ?_|refine Jg ?_|refine Jh ?_|refine Ji ?_|refine Jj ?_|refine Jk rfl ?_|refine Jl ?_|refine Jm ?_|refine Jn ?_|refine Jo ?_|refine Jp ?_|refine Jq ?_))
    refine e_mvI rfl ?_
    (repeat (with_reducible first|refine Ja ?_|refine Jb ?_|refine Jc ?_|refine Jd ?_|refine Je ?_|refine Jf ?_|refine Jg ?_|refine Jh ?_|refine Ji ?_|refine Jj ?_|refine Jk rfl ?_|refine Jl ?_|refine Jm ?_|refine Jn ?_|refine Jo ?_|refine Jp ?_|refine Jq ?_))
    refine s_loop (σ := Sh × Nat) (fun q => [(13, .int .i64 (q.2 : Int)), (12, .int .i64 ((b + q.2 + 2 : Nat) : Int)), (0, .int .i64 ((b + 3 : Nat) : Int)), (1, .int .i64 (n : Int)), (3, .slice adp picks.length capp), (9, s0.v)])
      (fun q w => q.2 ≤ n ∧ q.1.q = s0.q ∧ Mk q.1 c b (b + q.2 + 3) ∧ Dn.Sep w q.1.L F) (fun q => n - q.2) (s1, 0) ⟨rfl, rfl, rfl, rfl, rfl, rfl, trivial⟩ rfl ⟨by simp, hq1, hP1, S⟩ ?_
    rintro gg ⟨s, j⟩ w ⟨hj, hsq, hP, S⟩
    simp only [setL] at hj hsq hP S ⊢
    have hsv : s.v = s0.v := by simp only [Sh.v, hsq]
    (repeat (first|(with_reducible first|refine Ja ?_|refine Jb ?_|refine Jc ?_|refine Jd ?_|refine Je ?_|refine Jf ?_|refine Jg ?_|refine Jh ?_|refine Ji ?_|refine Jj ?_|refine Jk rfl ?_|refine Jl ?_|refine Jm ?_|refine Jn ?_|refine Jo ?_|refine Jp ?_|refine Jq ?_)|refine JA rfl ?_|refine JB rfl ?_|refine JC rfl ?_|refine JD rfl ?_|refine JE rfl ?_|refine JF rfl ?_|refine JG rfl ?_|refine JH rfl ?_|refine JI rfl ?_|refine J2 rfl ?_|refine J3 rfl ?_|refine J4 rfl ?_|refine J1 rfl ?_|refine J6 rfl ?_|refine J7 rfl ?_|refine JJ rfl ?_|refine JK rfl ?_|refine JQ rfl ?_|refine JL rfl rfl ?_|refine JM rfl rfl ?_|refine JN rfl ?_|refine JO rfl ?_|refine JP rfl ?_))
    refine s_iteD rfl (fun h => ?_) (fun h => ?_)
    rotate_left
    · (repeat (first|(with_reducible first|refine Ja ?_|refine Jb ?_|refine Jc ?_|refine Jd ?_|refine Je ?_|refine Jf ?_|refine Jg ?_|refine Jh ?_|refine Ji ?_|refine Jj ?_|refine Jk rfl ?_|refine Jl ?_|refine Jm ?_|refine Jn ?_|refine Jo ?_|refine Jp ?_|refine Jq ?_)|refine JA rfl ?_|refine JB rfl ?_|refine JC rfl ?_|refine JD rfl ?_|refine JE rfl ?_|refine JF rfl ?_|refine JG rfl ?_|refine JH rfl ?_|refine JI rfl ?_|refine J2 rfl ?_|refine J3 rfl ?_|refine J4 rfl ?_|refine J1 rfl ?_|refine J6 rfl ?_|refine J7 rfl ?_|refine JJ rfl ?_|refine JK rfl ?_|refine JQ rfl ?_|refine JL rfl rfl ?_|refine JM rfl rfl ?_|refine JN rfl ?_|refine JO rfl ?_|refine JP rfl ?_))
      exact ⟨rfl, (s, j), ⟨rfl, rfl, rfl, trivial⟩, by simp only; omega, hsq, hP.p (by omega), S⟩
    have hjn : j < n := by omega
    obtain ⟨a1, a2, a3, a4, a5⟩ := mk_step hdk hlog hct hP
    have hmk := w_mark s 0 ((b + j + 3 : Nat) : Int) hP.std.ok
    rw [markW_eq hP.std.ok (by omega) (by omega) (by rw [hP.cfg]; exact hlog), hsv] at hmk
    simp only at hmk
    obtain ⟨E, hE⟩ : ∃ E, s.wrE (plW 0 (mkI (b + j + 3))) (mkS (b + j + 3)) = E := ⟨_, rfl⟩
    obtain ⟨u, hu⟩ : ∃ u, s.wrS (plW 0 (mkI (b + j + 3))) (mkS (b + j + 3)) = u := ⟨_, rfl⟩
    rw [hu, hE] at hmk a5
    rw [hu] at a1 a2 a3 a4
    have huv : u.v = s0.v := by simp only [Sh.v, a3, hsq]
    have hfl := sh_flush u 0 a1.ok a2
    rw [huv] at hfl
    (repeat (with_reducible first|refine Ja ?_|refine Jb ?_|refine Jc ?_|refine Jd ?_|refine Je ?_|refine Jf ?_|refine Jg ?_|refine Jh ?_|refine Ji ?_|refine Jj ?_|refine Jk rfl ?_|refine Jl ?_|refine Jm ?_|refine Jn ?_|refine Jo ?_|refine Jp ?_|refine Jq ?_))
    refine e_p (v := s0.v) rfl ?_
    refine e_mvI rfl ?_
    refine e_mvI rfl ?_
    refine e_add (a := ((b + 3 : Nat) : Int)) (b := (j : Int)) rfl rfl (by omega) (by omega) ?_
    rw [show (((b + 3 : Nat) : Int) + (j : Int)) = ((b + j + 3 : Nat) : Int) by omega]
    refine e_call (L2 := []) rfl hmk S ?_
    rintro _ _ w ⟨rfl, rfl⟩ S
    refine e_p (cmp_neqD rfl rfl) ?_
    rcases a5 with ⟨e1, _, e3⟩ | ⟨e1, e2, _, e3⟩ | ⟨e1, e2, e3, e4⟩
    · rw [decide_eq_false e1]
      refine e_mvB (b := true) rfl ?_
      (repeat (first|(with_reducible first|refine Ja ?_|refine Jb ?_|refine Jc ?_|refine Jd ?_|refine Je ?_|refine Jf ?_|refine Jg ?_|refine Jh ?_|refine Ji ?_|refine Jj ?_|refine Jk rfl ?_|refine Jl ?_|refine Jm ?_|refine Jn ?_|refine Jo ?_|refine Jp ?_|refine Jq ?_)|refine JA rfl ?_|refine JB rfl ?_|refine JC rfl ?_|refine JD rfl ?_|refine JE rfl ?_|refine JF rfl ?_|refine JG rfl ?_|refine JH rfl ?_|refine JI rfl ?_|refine J2 rfl ?_|refine J3 rfl ?_|refine J4 rfl ?_|refine J1 rfl ?_|refine J6 rfl ?_|refine J7 rfl ?_|refine JJ rfl ?_|refine JK rfl ?_|refine JQ rfl ?_|refine JL rfl rfl ?_|refine JM rfl rfl ?_|refine JN rfl ?_|refine JO rfl ?_|refine JP rfl ?_))
      exact ⟨rfl, (u, j), ⟨rfl, rfl, rfl, trivial⟩, by simp only; omega, a3.trans hsq, e3 (b + j) rfl (by omega), S⟩
    · rw [decide_eq_true e1]
      refine e_mvB (b := false) rfl ?_
      refine e_gdT rfl ?_
      refine e_p (v := s0.v) rfl ?_
      refine e_gdT rfl ?_
      refine e_call (L2 := []) rfl hfl S ?_
      rintro _ _ w ⟨rfl, rfl⟩ S
      refine e_gdT rfl ?_
      refine e_p (cmp_neqD rfl rfl) ?_
      rw [decide_eq_false e2]
      refine e_pkFB (b := true) rfl rfl ?_
      (repeat (first|(with_reducible first|refine Ja ?_|refine Jb ?_|refine Jc ?_|refine Jd ?_|refine Je ?_|refine Jf ?_|refine Jg ?_|refine Jh ?_|refine Ji ?_|refine Jj ?_|refine Jk rfl ?_|refine Jl ?_|refine Jm ?_|refine Jn ?_|refine Jo ?_|refine Jp ?_|refine Jq ?_)|refine JA rfl ?_|refine JB rfl ?_|refine JC rfl ?_|refine JD rfl ?_|refine JE rfl ?_|refine JF rfl ?_|refine JG rfl ?_|refine JH rfl ?_|refine JI rfl ?_|refine J2 rfl ?_|refine J3 rfl ?_|refine J4 rfl ?_|refine J1 rfl ?_|refine J6 rfl ?_|refine J7 rfl ?_|refine JJ rfl ?_|refine JK rfl ?_|refine JQ rfl ?_|refine JL rfl rfl ?_|refine JM rfl rfl ?_|refine JN rfl ?_|refine JO rfl ?_|refine JP rfl ?_))
      exact ⟨rfl, (u.flS 0, j), ⟨rfl, rfl, rfl, trivial⟩, by simp only; omega, a4.trans hsq, e3 (b + j) rfl (by omega), S⟩
    · rw [decide_eq_true e1]
      refine e_mvB (b := false) rfl ?_
      refine e_gdT rfl ?_
      refine e_p (v := s0.v) rfl ?_
      refine e_gdT rfl ?_
      refine e_call (L2 := []) rfl hfl S ?_
      rintro _ _ w ⟨rfl, rfl⟩ S
      refine e_gdT rfl ?_
      refine e_p (cmp_neqD rfl rfl) ?_
      rw [decide_eq_true e2]
      refine e_pkFB (b := false) rfl rfl ?_
      (repeat (first|(with_reducible first|refine Ja ?_|refine Jb ?_|refine Jc ?_|refine Jd ?_|refine Je ?_|refine Jf ?_|refine Jg ?_|refine Jh ?_|refine Ji ?_|refine Jj ?_|refine Jk rfl ?_|refine Jl ?_|refine Jm ?_|refine Jn ?_|refine Jo ?_|refine Jp ?_|refine Jq ?_)|refine JA rfl ?_|refine JB rfl ?_|refine JC rfl ?_|refine JD rfl ?_|refine JE rfl ?_|refine JF rfl ?_|refine JG rfl ?_|refine JH rfl ?_|refine JI rfl ?_|refine J2 rfl ?_|refine J3 rfl ?_|refine J4 rfl ?_|refine J1 rfl ?_|refine J6 rfl ?_|refine J7 rfl ?_|refine JJ rfl ?_|refine JK rfl ?_|refine JQ rfl ?_|refine JL rfl rfl ?_|refine JM rfl rfl ?_|refine JN rfl ?_|refine JO rfl ?_|refine JP rfl ?_))
      refine e_add (a := ((b + 3 : Nat) : Int)) (b := (j : Int)) rfl rfl (by omega) (by omega) ?_
      rw [show (((b + 3 : Nat) : Int) + (j : Int)) = ((b + (j + 1) + 2 : Nat) : Int) by omega]
      (repeat (first|(with_reducible first|refine Ja ?_|refine Jb ?_|refine Jc ?_|refine Jd ?_|refine Je ?_|refine Jf ?_|refine Jg ?_|refine Jh ?_|refine Ji ?_|refine Jj ?_|refine Jk rfl ?_|refine Jl ?_|refine Jm ?_|refine Jn ?_|refine Jo ?_|refine Jp ?_|refine Jq ?_)|refine JA rfl ?_|refine JB rfl ?_|refine JC rfl ?_|refine JD rfl ?_|refine JE rfl ?_|refine JF rfl ?_|refine JG rfl ?_|refine JH rfl ?_|refine JI rfl ?_|refine J2 rfl ?_|refine J3 rfl ?_|refine J4 rfl ?_|refine J1 rfl ?_|refine J6 rfl ?_|refine J7 rfl ?_|refine JJ rfl ?_|refine JK rfl ?_|refine JQ rfl ?_|refine JL rfl rfl ?_|refine JM rfl rfl ?_|refine JN rfl ?_|refine JO rfl ?_|refine JP rfl ?_))
      refine e_add (a := (j : Int)) (b := 1) rfl rfl (by omega) (by omega) ?_
      (repeat (first|(with_reducible first|refine Ja ?_|refine Jb ?_|refine Jc ?_|refine Jd ?_|refine Je ?_|refine Jf ?_|refine Jg ?_|refine Jh ?_|refine Ji ?_|refine Jj ?_|refine Jk rfl ?_|refine Jl ?_|refine Jm ?_|refine Jn ?_|refine Jo ?_|refine Jp ?_|refine Jq ?_)|refine JA rfl ?_|refine JB rfl ?_|refine JC rfl ?_|refine JD rfl ?_|refine JE rfl ?_|refine JF rfl ?_|refine JG rfl ?_|refine JH rfl ?_|refine JI rfl ?_|refine J2 rfl ?_|refine J3 rfl ?_|refine J4 rfl ?_|refine J1 rfl ?_|refine J6 rfl ?_|refine J7 rfl ?_|refine JJ rfl ?_|refine JK rfl ?_|refine JQ rfl ?_|refine JL rfl rfl ?_|refine JM rfl rfl ?_|refine JN rfl ?_|refine JO rfl ?_|refine JP rfl ?_))
      exact ⟨rfl, (u.flS 0, j + 1), ⟨rfl, rfl, rfl, rfl, rfl, rfl, trivial⟩, ⟨by simp only; omega, a4.trans hsq, by simp only; rw [show b + (j + 1) + 3 = b + j + 3 + 1 by omega]; exact e4, S⟩, by simp only; omega⟩
  rintro gg ⟨s, j⟩ w ⟨hj, hsq, hP, S⟩
  simp only [setL] at hj hsq hP S ⊢
  have hsv : s.v = s0.v := by simp only [Sh.v, hsq]
  have hmt := sh_mount s adp capp picks hP.std.ok hP.wf hcp (by omega)
  rw [hsv] at hmt
  obtain ⟨on2, cfg2, q2, m, hm, hrun⟩ := mk_mount hdk (by omega) (by omega) hP picks
  obtain ⟨u, hu⟩ : ∃ u, mountW s picks = u := ⟨_, rfl⟩
  rw [hu] at hmt on2 cfg2 q2 hrun
  have huv : u.v = s0.v := by simp only [Sh.v, q2, hsq]
  have hmd := w_marked u 0 on2.std.ok
  rw [markedW_eq on2 (by rw [cfg2]; exact hdk) (by rw [cfg2]; exact hlog), hrun, huv] at hmd
  simp only at hmd
  (repeat (first|(with_reducible first|refine Ja ?_|refine Jb ?_|refine Jc ?_|refine Jd ?_|refine Je ?_|refine Jf ?_|refine Jg ?_|refine Jh ?_|refine Ji ?_|refine Jj ?_|refine Jk rfl ?_|refine Jl ?_|refine Jm ?_|refine Jn ?_|refine Jo ?_|refine Jp ?_|refine Jq ?_)|refine JA rfl ?_|refine JB rfl ?_|refine JC rfl ?_|refine JD rfl ?_|refine JE rfl ?_|refine JF rfl ?_|refine JG rfl ?_|refine JH rfl ?_|refine JI rfl ?_|refine J2 rfl ?_|refine J3 rfl ?_|refine J4 rfl ?_|refine J1 rfl ?_|refine J6 rfl ?_|refine J7 rfl ?_|refine JJ rfl ?_|refine JK rfl ?_|refine JQ rfl ?_|refine JL rfl rfl ?_|refine JM rfl rfl ?_|refine JN rfl ?_|refine JO rfl ?_|refine JP rfl ?_))
  refine e_callF (L2 := []) (L1 := s.L) rfl hmt S (by simpa using hFp.add (L2 := []) S) ?_
  rintro _ _ w rfl S
  (repeat (first|(with_reducible first|refine Ja ?_|refine Jb ?_|refine Jc ?_|refine Jd ?_|refine Je ?_|refine Jf ?_|refine Jg ?_|refine Jh ?_|refine Ji ?_|refine Jj ?_|refine Jk rfl ?_|refine Jl ?_|refine Jm ?_|refine Jn ?_|refine Jo ?_|refine Jp ?_|refine Jq ?_)|refine JA rfl ?_|refine JB rfl ?_|refine JC rfl ?_|refine JD rfl ?_|refine JE rfl ?_|refine JF rfl ?_|refine JG rfl ?_|refine JH rfl ?_|refine JI rfl ?_|refine J2 rfl ?_|refine J3 rfl ?_|refine J4 rfl ?_|refine J1 rfl ?_|refine J6 rfl ?_|refine J7 rfl ?_|refine JJ rfl ?_|refine JK rfl ?_|refine JQ rfl ?_|refine JL rfl rfl ?_|refine JM rfl rfl ?_|refine JN rfl ?_|refine JO rfl ?_|refine JP rfl ?_))
  refine e_call (L2 := []) rfl hmd S ?_
  rintro _ _ w ⟨rfl, rfl⟩ S
  refine e_mvT rfl ?_
  refine e_p (v := .int .i64 (m : Int)) rfl ?_
  refine e_p (v := .int .i64 ((m : Int) - 1 + ((m % 2 : Nat) : Int))) rfl ?_
  refine e_p (v := .int .i64 0) rfl ?_
  refine e_mvI rfl ?_
  refine e_mvI rfl ?_
  refine e_mvI rfl ?_
  (repeat (with_reducible first|refine Ja ?_|refine Jb ?_|refine Jc ?_|refine Jd ?_|refine Je ?_|refine Jf ?_|refine Jg ?_|refine Jh ?_|refine Ji ?_|refine Jj ?_|refine Jk rfl ?_|refine Jl ?_|refine Jm ?_|refine Jn ?_|refine Jo ?_|refine Jp ?_|refine Jq ?_))
  refine e_callP rfl l_sanity S fun w S => ?_
  refine e_mvB rfl ?_
  refine e_gdT rfl ?_
  refine e_mvI rfl ?_
  refine e_gdT rfl ?_
  refine e_p (v := .bool true) rfl ?_
  refine e_pkTB rfl rfl ?_
  refine e_mvB rfl ?_
  refine e_gdT rfl ?_
  refine e_mvI rfl ?_
  refine e_gdT rfl ?_
  refine e_mvI rfl ?_
  refine e_gdT rfl ?_
  refine e_p (cmp_eqlD rfl rfl) ?_
  rcases hm with hm | hm
  · rw [decide_eq_true (show (m : Int) = ((b + j + 2 : Nat) : Int) by omega)]
    refine e_gdT rfl ?_
    refine e_mvB rfl ?_
    refine e_gdF rfl ?_
    refine e_gdF rfl ?_
    refine e_gdF rfl ?_
    refine e_gdF rfl ?_
    refine e_gdT rfl ?_
    refine e_pkTB rfl rfl ?_
    refine e_pkTB rfl rfl ?_
    refine e_mvB rfl ?_
    refine e_gdT rfl ?_
    refine e_mvI rfl ?_
    refine e_gdT rfl ?_
    refine e_mvI rfl ?_
    refine e_gdT rfl ?_
    refine e_sub (a := (m : Int)) (b := 1) rfl rfl (by omega) (by omega) ?_
    refine e_gdT rfl ?_
    refine e_mvI rfl ?_
    refine e_gdT rfl ?_
    refine e_arv rfl rfl (ar_rem2 m) ?_
    refine e_gdT rfl ?_
    refine e_add (a := (m : Int) - 1) (b := ((m % 2 : Nat) : Int)) rfl rfl (by omega) (by omega) ?_
    refine e_gdT rfl ?_
    refine e_p (cmp_eqlD rfl rfl) ?_
    rw [decide_eq_true rfl]
    refine e_pkTB rfl rfl ?_
    (repeat (first|(with_reducible first|refine Ja ?_|refine Jb ?_|refine Jc ?_|refine Jd ?_|refine Je ?_|refine Jf ?_|refine Jg ?_|refine Jh ?_|refine Ji ?_|refine Jj ?_|refine Jk rfl ?_|refine Jl ?_|refine Jm ?_|refine Jn ?_|refine Jo ?_|refine Jp ?_|refine Jq ?_)|refine JA rfl ?_|refine JB rfl ?_|refine JC rfl ?_|refine JD rfl ?_|refine JE rfl ?_|refine JF rfl ?_|refine JG rfl ?_|refine JH rfl ?_|refine JI rfl ?_|refine J2 rfl ?_|refine J3 rfl ?_|refine J4 rfl ?_|refine J1 rfl ?_|refine J6 rfl ?_|refine J7 rfl ?_|refine JJ rfl ?_|refine JK rfl ?_|refine JQ rfl ?_|refine JL rfl rfl ?_|refine JM rfl rfl ?_|refine JN rfl ?_|refine JO rfl ?_|refine JP rfl ?_))
    exact f_ret rfl rfl (hQ _ _ _ rfl S)
  · rw [decide_eq_false (show ¬ (m : Int) = ((b + j + 2 : Nat) : Int) by omega)]
    refine e_gdT rfl ?_
    refine e_mvB rfl ?_
    refine e_gdT rfl ?_
    refine e_mvI rfl ?_
    refine e_gdT rfl ?_
    refine e_mvI rfl ?_
    refine e_gdT rfl ?_
    refine e_add (a := ((b + j + 2 : Nat) : Int)) (b := 1) rfl rfl (by omega) (by omega) ?_
    refine e_gdT rfl ?_
    refine e_p (cmp_eqlD rfl rfl) ?_
    rw [decide_eq_true (show (m : Int) = ((b + j + 2 : Nat) : Int) + 1 by omega)]
    refine e_gdT rfl ?_
    refine e_pkFB rfl rfl ?_
    refine e_pkTB rfl rfl ?_
    refine e_mvB rfl ?_
    refine e_gdT rfl ?_
    refine e_mvI rfl ?_
    refine e_gdT rfl ?_
    refine e_mvI rfl ?_
    refine e_gdT rfl ?_
    refine e_sub (a := (m : Int)) (b := 1) rfl rfl (by omega) (by omega) ?_
    refine e_gdT rfl ?_
    refine e_mvI rfl ?_
    refine e_gdT rfl ?_
    refine e_arv rfl rfl (ar_rem2 m) ?_
    refine e_gdT rfl ?_
    refine e_add (a := (m : Int) - 1) (b := ((m % 2 : Nat) : Int)) rfl rfl (by omega) (by omega) ?_
    refine e_gdT rfl ?_
    refine e_p (cmp_eqlD rfl rfl) ?_
    rw [decide_eq_true rfl]
    refine e_pkTB rfl rfl ?_
    (repeat (first|(with_reducible first|refine Ja ?_|refine Jb ?_|refine Jc ?_|refine Jd ?_|refine Je ?_|refine Jf ?_|refine Jg ?_|refine Jh ?_|refine Ji ?_|refine Jj ?_|refine Jk rfl ?_|refine Jl ?_|refine Jm ?_|refine Jn ?_|refine Jo ?_|refine Jp ?_|refine Jq ?_)|refine JA rfl ?_|refine JB rfl ?_|refine JC rfl ?_|refine JD rfl ?_|refine JE rfl ?_|refine JF rfl ?_|refine JG rfl ?_|refine JH rfl ?_|refine JI rfl ?_|refine J2 rfl ?_|refine J3 rfl ?_|refine J4 rfl ?_|refine J1 rfl ?_|refine J6 rfl ?_|refine J7 rfl ?_|refine JJ rfl ?_|refine JK rfl ?_|refine JQ rfl ?_|refine JL rfl rfl ?_|refine JM rfl rfl ?_|refine JN rfl ?_|refine JO rfl ?_|refine JP rfl ?_))
    exact f_ret rfl rfl (hQ _ _ _ rfl S)

end Go.Proofs.Ytgendpinmmmfjaa

/- The law WalMarks holds of every input: the call returns true and leaves its arguments as they were. -/
namespace Go.Proofs.Ytgendpinmmmfjaa.walMarks
open Go.ChangeShapes Go.WideShapes Go.ChangeAt Go.RowKit
open Go.ChangeMaps (open_string shut_string)
set_option maxRecDepth 100000
theorem own : ownKnob Try.prog.godebug = none := by kernel_rfl
theorem laidOut : laidOutB Try.prog = true := by kernel_rfl
theorem lifted (os : Os) (started : os.Started) (H : Type) (enc : TypeId × Value → H) :
    ReturnsInHanded {} Try.checked os 9 .any (Rows.walMarksSpec.pre6 enc Try.prog Try.f9 Rows.walMarksRow.domain false) (Rows.walMarksSpec.post enc Try.prog Try.f9 false true false false) := by
  refine returnsInHanded_of_change_sized (C := Try.checked) own started (by kernel_rfl) Try.func9
    (ChangeSpec.witness6 (enc := enc) (C := Try.checked) false ⟨#[], #[.int .i64 0, .int .i64 0, .int .i64 0, .slice none 0 0], []⟩ 8 (by kernel_rfl) (by kernel_rfl) (by kernel_rfl) (by kernel_rfl)) ?_
  intro W base args ds gs before hval0 hW hcnd hsz0 _
  have hsz : (DataW.weightsEach Try.prog (Try.f9.params.toList ++ Rows.walMarksSpec.plain.varTypes Try.prog) (ds ++ gs)).all (· ≤ reachBytes) = true := hsz0
  have hval : ∀ (j : Nat) t v, Try.f9.params[j]? = some t → args[j]? = some v → Value.okWide Try.prog W .any base t v := hval0
  have hW' := hW
  obtain ⟨p, q, hA0, hV, rfl, hfz, hnd⟩ := hW
  have hA : DataW.TrodAll enc Try.prog W 0 (fun _ => true) true Try.f9.params.toList args.toList ds p := hA0
  rw [Try.params9] at hA hval hsz
  obtain ⟨v0, vs0, d0, ds0, p0, q0, hargs, rfl, rfl, h0, r0⟩ := trodAll_cons hA
  obtain ⟨v1, vs1, d1, ds1, p1, q1, rfl, rfl, rfl, h1, r1⟩ := trodAll_cons r0
  obtain ⟨v2, vs2, d2, ds2, p2, q2, rfl, rfl, rfl, h2, r2⟩ := trodAll_cons r1
  obtain ⟨v3, vs3, d3, ds3, p3, q3, rfl, rfl, rfl, h3, r3⟩ := trodAll_cons r2
  obtain ⟨rfl, rfl, rfl⟩ := trodAll_nil r3
  obtain rfl : args = #[v0, v1, v2, v3] := by cases args; simp_all
  obtain ⟨rfl, rfl⟩ := trodVars_none hV
  obtain ⟨a0, rfl, rfl, rfl, w0⟩ := open_int Try.underlying3 (hval 0 3 v0 rfl rfl) h0
  obtain ⟨a1, rfl, rfl, rfl, w1⟩ := open_int Try.underlying3 (hval 1 3 v1 rfl rfl) h1
  obtain ⟨a2, rfl, rfl, rfl, w2⟩ := open_int Try.underlying3 (hval 2 3 v2 rfl rfl) h2
  obtain ⟨a3, len3, cap3, rfl⟩ := okWide_slice Try.underlying49 (hval 3 49 v3 rfl rfl)
  have k3 := h3
  have lt3 : ∀ x ∈ p3, x.block < W.heap.size := by obtain ⟨m, hm⟩ := k3; exact DataW.trod_lt m _ _ _ hm
  have cp3 := Dn.open_capF Try.underlying49 h3
  obtain ⟨l3, rfl, y3, z3, F3⟩ := Dn.open_intsF Try.underlying49 Try.underlying3 (by kernel_rfl) (by kernel_rfl) h3 hsz (j := 3) rfl rfl
  clear hA0 hval0 hsz0 hsz
  refine Calls.mono (Dn.calls_of (W := W) (law_marks a0 a1 a2 a3 cap3 l3 (Dn.int_rng w2).2 (by omega) y3) F3) fun e W' ⟨he, bel⟩ => ?_
  subst he
  exact ⟨_, rfl, _, _, _, [], _, [], hW', trodAll_mk1 (shut_bool Try.underlying4 _), (trodAll_cons_mk (shut_int Try.underlying3 w0) (trodAll_cons_mk (shut_int Try.underlying3 w1) (trodAll_cons_mk (shut_int Try.underlying3 w2) (trodAll_cons_mk (Below.trod laidOut (by kernel_rfl) (of_decide_eq_true (by kernel_rfl)) k3 bel lt3) trodAll_mk0)))), rfl, bel.frame _, fun h => by cases h⟩
theorem over : Rows.walMarksRow.holds Try.pinned (OpenSpec.ofChange Rows.walMarksSpec) :=
  OpenClaim.holds_of_wide 9 Try.f9 rfl rfl rfl rfl rfl rfl rfl ⟨rfl, rfl, rfl, rfl, rfl⟩ rfl rfl rfl rfl rfl (by kernel_rfl) Try.func9 (by kernel_rfl)
    (of_decide_eq_true (by kernel_rfl)) (by unfold Func.isWrapper; first | (rw [if_pos (by decide +kernel)]; kernel_rfl) | (rw [if_neg (by decide +kernel)]; exact ⟨rfl, rfl⟩))
    (fun os started H enc _ => lifted os started H enc)
theorem proved : Rows.WalMarksSaid := over
end Go.Proofs.Ytgendpinmmmfjaa.walMarks
namespace Go.Proofs.Ytgendpinmmmfjaa
/-- The row, under a short name, for the claim. -/
theorem walMarks_holds : Rows.WalMarksSaid := walMarks.proved
#print axioms walMarks_holds
end Go.Proofs.Ytgendpinmmmfjaa
