/- The law WalCrash holds of every input: the call returns true and leaves its arguments as they were. -/
import Derived.Test.YtgendpinmmmfjaaBaseCB6
import Derived.Test.YtgendpinmmmfjaaRows
set_option linter.unusedVariables false
set_option linter.unusedSimpArgs false
/-
  The walk of WalCrash.
-/
namespace Go.Proofs.Ytgendpinmmmfjaa
open Dn
attribute [local irreducible] Evs Ev EvT DSpec PSpec CallTo
set_option maxRecDepth 100000
set_option maxHeartbeats 4000000

theorem l_configW (n : Int) : PSpec Try.prog 19 [.int .i64 n] (.agg ⟨(⟨2, 1, 1, 0, IntKind.i64.wrap (n + 3), 1⟩ : Cfg).v⟩) := by
  refine pspec_of mix Try.func19 c19_eq rfl rfl fun w F Q S hQ => ?_
  (repeat (first|(with_reducible first|refine Ja ?_|refine Jb ?_|refine Jc ?_|refine Jd ?_|refine Je ?_|refine Jf ?_|refine Jg ?_|refine Jh ?_|refine Ji ?_|refine Jj ?_|refine Jk rfl ?_|refine Jl ?_|refine Jm ?_|refine Jn ?_|refine Jo ?_|refine Jp ?_|refine Jq ?_)|refine JA rfl ?_|refine JB rfl ?_|refine JC rfl ?_|refine JD rfl ?_|refine JE rfl ?_|refine JF rfl ?_|refine JG rfl ?_|refine JH rfl ?_|refine JI rfl ?_|refine J2 rfl ?_|refine J3 rfl ?_|refine J4 rfl ?_|refine J1 rfl ?_|refine J6 rfl ?_|refine J7 rfl ?_|refine JJ rfl ?_|refine JK rfl ?_|refine JQ rfl ?_|refine JL rfl rfl ?_|refine JM rfl rfl ?_|refine JN rfl ?_|refine JO rfl ?_|refine JP rfl ?_))
  refine e_nw S fun b w S => ?_
  (repeat (first|(with_reducible first|refine Ja ?_|refine Jb ?_|refine Jc ?_|refine Jd ?_|refine Je ?_|refine Jf ?_|refine Jg ?_|refine Jh ?_|refine Ji ?_|refine Jj ?_|refine Jk rfl ?_|refine Jl ?_|refine Jm ?_|refine Jn ?_|refine Jo ?_|refine Jp ?_|refine Jq ?_)|refine JA rfl ?_|refine JB rfl ?_|refine JC rfl ?_|refine JD rfl ?_|refine JE rfl ?_|refine JF rfl ?_|refine JG rfl ?_|refine JH rfl ?_|refine JI rfl ?_|refine J2 rfl ?_|refine J3 rfl ?_|refine J4 rfl ?_|refine J1 rfl ?_|refine J6 rfl ?_|refine J7 rfl ?_|refine JJ rfl ?_|refine JK rfl ?_|refine JQ rfl ?_|refine JL rfl rfl ?_|refine JM rfl rfl ?_|refine JN rfl ?_|refine JO rfl ?_|refine JP rfl ?_))
  refine e_arv (u := .int .i64 n) (v := .int .i64 3) (r := .int .i64 (IntKind.i64.wrap (n + 3))) rfl rfl rfl ?_
  (repeat (first|(with_reducible first|refine Ja ?_|refine Jb ?_|refine Jc ?_|refine Jd ?_|refine Je ?_|refine Jf ?_|refine Jg ?_|refine Jh ?_|refine Ji ?_|refine Jj ?_|refine Jk rfl ?_|refine Jl ?_|refine Jm ?_|refine Jn ?_|refine Jo ?_|refine Jp ?_|refine Jq ?_)|refine JA rfl ?_|refine JB rfl ?_|refine JC rfl ?_|refine JD rfl ?_|refine JE rfl ?_|refine JF rfl ?_|refine JG rfl ?_|refine JH rfl ?_|refine JI rfl ?_|refine J2 rfl ?_|refine J3 rfl ?_|refine J4 rfl ?_|refine J1 rfl ?_|refine J6 rfl ?_|refine J7 rfl ?_|refine JJ rfl ?_|refine JK rfl ?_|refine JQ rfl ?_|refine JL rfl rfl ?_|refine JM rfl rfl ?_|refine JN rfl ?_|refine JO rfl ?_|refine JP rfl ?_))
  refine e_st (vs := (⟨2, 1, 1, 0, IntKind.i64.wrap (n + 3), 1⟩ : Cfg).v) S 0 rfl rfl rfl rfl (by simp [Cfg.v, Value.flat]) (by simp) fun w S => ?_
  (repeat (first|(with_reducible first|refine Ja ?_|refine Jb ?_|refine Jc ?_|refine Jd ?_|refine Je ?_|refine Jf ?_|refine Jg ?_|refine Jh ?_|refine Ji ?_|refine Jj ?_|refine Jk rfl ?_|refine Jl ?_|refine Jm ?_|refine Jn ?_|refine Jo ?_|refine Jp ?_|refine Jq ?_)|refine JA rfl ?_|refine JB rfl ?_|refine JC rfl ?_|refine JD rfl ?_|refine JE rfl ?_|refine JF rfl ?_|refine JG rfl ?_|refine JH rfl ?_|refine JI rfl ?_|refine J2 rfl ?_|refine J3 rfl ?_|refine J4 rfl ?_|refine J1 rfl ?_|refine J6 rfl ?_|refine J7 rfl ?_|refine JJ rfl ?_|refine JK rfl ?_|refine JQ rfl ?_|refine JL rfl rfl ?_|refine JM rfl rfl ?_|refine JN rfl ?_|refine JO rfl ?_|refine JP rfl ?_))
  exact f_ret rfl (rvs1 (S.row (vs := (⟨2, 1, 1, 0, IntKind.i64.wrap (n + 3), 1⟩ : Cfg).v) 0 rfl (by simp [putAt, Cfg.v]) rfl)) (hQ _ _ _ rfl S)

theorem fresh_pre {s : Sh} {c : Cfg} (hc : c.ok) (hdk : 1 ≤ c.disks) (h : ShFresh s c) (l : List Sec) (n : Int) (hn : n < 9223372036854775808) : PreOn { s with fused := decide (0 ≤ n), left := n } c l 0 0 := by
  have hst := fresh_std hc h
  have hz : ∀ j, 0 ≤ j → j < c.total → s.vw 0 j = zsec ∧ s.dv 0 j = zsec := by
    intro j h1 h2
    refine ⟨fresh_vw hc h (by omega) ⟨h1, h2⟩, ?_⟩
    have hl := h.len
    obtain ⟨st, hb⟩ := dk_at (s := s) (d := (0 : Int).toNat) (by omega)
    obtain ⟨k1, k2, k3⟩ := (h.bay _ (List.mem_of_getElem? hb)).2
    simp only at k1 k2 k3
    unfold Sh.dv Dk.sec
    rw [k1]
    simp only [List.getD_eq_getElem?_getD]
    rw [List.getElem?_eq_getElem (by simp; omega)]
    simp
  refine ⟨⟨⟨⟨hst.ok.cfg, hst.ok.len, fun hf => ⟨of_decide_eq_true hf, hn⟩, hst.ok.dks, hst.ok.szs⟩, hst.inn, hst.arm⟩, fun b hb => fresh_wf h b hb, h.cfg, Nat.zero_le _, Nat.le_refl _, fun q hq => by omega, fun q hq => by omega, fun q hq => by omega, fun j h1 h2 => hz j (by have := tail_nonneg l 0; omega) h2⟩, h.off, fun q hq => by omega, zT_ok2⟩

theorem law_crash (size : Int) (ad : Option Addr) (cap : Nat) (l : List Sec) (adf : Option Addr) (capf : Nat) (fl : List Bool) (fuse : Int) (adp : Option Addr) (capp : Nat) (picks : List Int)
    (hz : -9223372036854775808 ≤ size) (hb : l.length < 4611686018427387904) (hbc : l.length ≤ cap) (hr : ∀ r ∈ l, r.length < 4611686018427387904) (hbf : fl.length < 4611686018427387904) (hfu : fuse < 9223372036854775808) (hbp : picks.length < 4611686018427387904) (hcp : picks.length ≤ capp) :
    DSpecF Try.prog 8 [.int .i64 size, .slice ad l.length cap, .slice adf fl.length capf, .int .i64 fuse, .slice adp picks.length capp] [] (fun F => FSl F ad (l.map strV) ∧ FSl F adf (fl.map Value.bool) ∧ FSl F adp (picks.map (Value.int .i64))) fun v _ => v = .bool true := by
  refine specF_of mix Try.func8 c8_eq rfl rfl fun w F Q ⟨hF, hFb, hFp⟩ S hQ => ?_
  obtain ⟨c, hcE⟩ : ∃ c : Cfg, c = ⟨2, 1, 1, 0, IntKind.i64.wrap (size + 3), 1⟩ := ⟨_, rfl⟩
  have hcfg := l_configW size
  rw [← hcE] at hcfg
  have hdk : 1 ≤ c.disks := by rw [hcE]; show (1 : Int) ≤ 2; omega
  (repeat (first|(with_reducible first|refine Ja ?_|refine Jb ?_|refine Jc ?_|refine Jd ?_|refine Je ?_|refine Jf ?_|refine Jg ?_|refine Jh ?_|refine Ji ?_|refine Jj ?_|refine Jk rfl ?_|refine Jl ?_|refine Jm ?_|refine Jn ?_|refine Jo ?_|refine Jp ?_|refine Jq ?_)|refine JA rfl ?_|refine JB rfl ?_|refine JC rfl ?_|refine JD rfl ?_|refine JE rfl ?_|refine JF rfl ?_|refine JG rfl ?_|refine JH rfl ?_|refine JI rfl ?_|refine J2 rfl ?_|refine J3 rfl ?_|refine J4 rfl ?_|refine J1 rfl ?_|refine J6 rfl ?_|refine J7 rfl ?_|refine JJ rfl ?_|refine JK rfl ?_|refine JQ rfl ?_|refine JL rfl rfl ?_|refine JM rfl rfl ?_|refine JN rfl ?_|refine JO rfl ?_|refine JP rfl ?_))
  refine e_callP rfl hcfg S fun w S => ?_
  have hnew := sh_new c
  refine e_callN rfl hnew S ?_
  rintro v L w hv S
  by_cases hgood : c.ok ∧ c.total ≤ 65536
  case neg =>
    have hv' : ∃ k : Int, k ≠ 0 ∧ v = .tuple ⟨[.pointer none, .int .i64 k]⟩ := by
      by_cases h1 : c.ok
      · have h2 : ¬ c.total ≤ 65536 := fun h => hgood ⟨h1, h⟩
        rw [if_pos h1, if_pos (by omega)] at hv
        exact ⟨2, by decide, hv.1⟩
      · rw [if_neg h1] at hv
        exact ⟨1, by decide, hv.1⟩
    obtain ⟨k, hk, rfl⟩ := hv'
    refine e_mvT rfl ?_
    refine e_p (v := .pointer none) rfl ?_
    refine e_p (v := .int .i64 k) rfl ?_
    (repeat (with_reducible first|refine Ja ?_|refine Jb ?_|refine Jc ?_|refine Jd ?_|refine Je ?_|refine Jf ?_|refine Jg ?_|refine Jh ?_|refine Ji ?_|refine Jj ?_|refine Jk rfl ?_|refine Jl ?_|refine Jm ?_|refine Jn ?_|refine Jo ?_|refine Jp ?_|refine Jq ?_))
    refine e_mvP rfl ?_
    refine e_mvI rfl ?_
    (repeat (with_reducible first|refine Ja ?_|refine Jb ?_|refine Jc ?_|refine Jd ?_|refine Je ?_|refine Jf ?_|refine Jg ?_|refine Jh ?_|refine Ji ?_|refine Jj ?_|refine Jk rfl ?_|refine Jl ?_|refine Jm ?_|refine Jn ?_|refine Jo ?_|refine Jp ?_|refine Jq ?_))
    refine e_mvI rfl ?_
    refine e_p (cmp_neqD rfl rfl) ?_
    rw [decide_eq_false hk]
    (repeat (first|(with_reducible first|refine Ja ?_|refine Jb ?_|refine Jc ?_|refine Jd ?_|refine Je ?_|refine Jf ?_|refine Jg ?_|refine Jh ?_|refine Ji ?_|refine Jj ?_|refine Jk rfl ?_|refine Jl ?_|refine Jm ?_|refine Jn ?_|refine Jo ?_|refine Jp ?_|refine Jq ?_)|refine JA rfl ?_|refine JB rfl ?_|refine JC rfl ?_|refine JD rfl ?_|refine JE rfl ?_|refine JF rfl ?_|refine JG rfl ?_|refine JH rfl ?_|refine JI rfl ?_|refine J2 rfl ?_|refine J3 rfl ?_|refine J4 rfl ?_|refine J1 rfl ?_|refine J6 rfl ?_|refine J7 rfl ?_|refine JJ rfl ?_|refine JK rfl ?_|refine JQ rfl ?_|refine JL rfl rfl ?_|refine JM rfl rfl ?_|refine JN rfl ?_|refine JO rfl ?_|refine JP rfl ?_))
    refine e_callP rfl l_sanity S fun w S => ?_
    (repeat (first|(with_reducible first|refine Ja ?_|refine Jb ?_|refine Jc ?_|refine Jd ?_|refine Je ?_|refine Jf ?_|refine Jg ?_|refine Jh ?_|refine Ji ?_|refine Jj ?_|refine Jk rfl ?_|refine Jl ?_|refine Jm ?_|refine Jn ?_|refine Jo ?_|refine Jp ?_|refine Jq ?_)|refine JA rfl ?_|refine JB rfl ?_|refine JC rfl ?_|refine JD rfl ?_|refine JE rfl ?_|refine JF rfl ?_|refine JG rfl ?_|refine JH rfl ?_|refine JI rfl ?_|refine J2 rfl ?_|refine J3 rfl ?_|refine J4 rfl ?_|refine J1 rfl ?_|refine J6 rfl ?_|refine J7 rfl ?_|refine JJ rfl ?_|refine JK rfl ?_|refine JQ rfl ?_|refine JL rfl rfl ?_|refine JM rfl rfl ?_|refine JN rfl ?_|refine JO rfl ?_|refine JP rfl ?_))
    exact f_ret rfl rfl (hQ _ _ _ rfl S)
  obtain ⟨hc, ht⟩ := hgood
  rw [if_pos hc, if_neg (by omega)] at hv
  obtain ⟨s0, rfl, rfl, hfr⟩ := hv
  replace S : Dn.Sep w s0.L F := S
  refine e_mvT rfl ?_
  refine e_p (v := s0.v) rfl ?_
  refine e_p (v := .int .i64 0) rfl ?_
  refine e_p (v := s0.v) rfl ?_
  refine e_mvI rfl ?_
  (repeat (first|(with_reducible first|refine Ja ?_|refine Jb ?_|refine Jc ?_|refine Jd ?_|refine Je ?_|refine Jf ?_|refine Jg ?_|refine Jh ?_|refine Ji ?_|refine Jj ?_|refine Jk rfl ?_|refine Jl ?_|refine Jm ?_|refine Jn ?_|refine Jo ?_|refine Jp ?_|refine Jq ?_)|refine JA rfl ?_|refine JB rfl ?_|refine JC rfl ?_|refine JD rfl ?_|refine JE rfl ?_|refine JF rfl ?_|refine JG rfl ?_|refine JH rfl ?_|refine JI rfl ?_|refine J2 rfl ?_|refine J3 rfl ?_|refine J4 rfl ?_|refine J1 rfl ?_|refine J6 rfl ?_|refine J7 rfl ?_|refine JJ rfl ?_|refine JK rfl ?_|refine JQ rfl ?_|refine JL rfl rfl ?_|refine JM rfl rfl ?_|refine JN rfl ?_|refine JO rfl ?_|refine JP rfl ?_))
  refine e_brD rfl (fun h1 => ?_) (fun h1 => ?_)
  · (repeat (first|(with_reducible first|refine Ja ?_|refine Jb ?_|refine Jc ?_|refine Jd ?_|refine Je ?_|refine Jf ?_|refine Jg ?_|refine Jh ?_|refine Ji ?_|refine Jj ?_|refine Jk rfl ?_|refine Jl ?_|refine Jm ?_|refine Jn ?_|refine Jo ?_|refine Jp ?_|refine Jq ?_)|refine JA rfl ?_|refine JB rfl ?_|refine JC rfl ?_|refine JD rfl ?_|refine JE rfl ?_|refine JF rfl ?_|refine JG rfl ?_|refine JH rfl ?_|refine JI rfl ?_|refine J2 rfl ?_|refine J3 rfl ?_|refine J4 rfl ?_|refine J1 rfl ?_|refine J6 rfl ?_|refine J7 rfl ?_|refine JJ rfl ?_|refine JK rfl ?_|refine JQ rfl ?_|refine JL rfl rfl ?_|refine JM rfl rfl ?_|refine JN rfl ?_|refine JO rfl ?_|refine JP rfl ?_))
    refine e_callP rfl l_sanity S fun w S => ?_
    (repeat (first|(with_reducible first|refine Ja ?_|refine Jb ?_|refine Jc ?_|refine Jd ?_|refine Je ?_|refine Jf ?_|refine Jg ?_|refine Jh ?_|refine Ji ?_|refine Jj ?_|refine Jk rfl ?_|refine Jl ?_|refine Jm ?_|refine Jn ?_|refine Jo ?_|refine Jp ?_|refine Jq ?_)|refine JA rfl ?_|refine JB rfl ?_|refine JC rfl ?_|refine JD rfl ?_|refine JE rfl ?_|refine JF rfl ?_|refine JG rfl ?_|refine JH rfl ?_|refine JI rfl ?_|refine J2 rfl ?_|refine J3 rfl ?_|refine J4 rfl ?_|refine J1 rfl ?_|refine J6 rfl ?_|refine J7 rfl ?_|refine JJ rfl ?_|refine JK rfl ?_|refine JQ rfl ?_|refine JL rfl rfl ?_|refine JM rfl rfl ?_|refine JN rfl ?_|refine JO rfl ?_|refine JP rfl ?_))
    exact f_ret rfl rfl (hQ _ _ _ rfl S)
  (repeat (with_reducible first|refine Ja ?_|refine Jb ?_|refine Jc ?_|refine Jd ?_|refine Je ?_|refine Jf ?_|refine Jg ?_|refine Jh ?_|refine Ji ?_|refine Jj ?_|refine Jk rfl ?_|refine Jl ?_|refine Jm ?_|refine Jn ?_|refine Jo ?_|refine Jp ?_|refine Jq ?_))
  refine e_gdT rfl ?_
  refine e_mvL rfl ?_
  refine e_gdT rfl ?_
  refine e_p (v := .int .i64 ((l.length : Nat) : Int)) rfl ?_
  (repeat (first|(with_reducible first|refine Ja ?_|refine Jb ?_|refine Jc ?_|refine Jd ?_|refine Je ?_|refine Jf ?_|refine Jg ?_|refine Jh ?_|refine Ji ?_|refine Jj ?_|refine Jk rfl ?_|refine Jl ?_|refine Jm ?_|refine Jn ?_|refine Jo ?_|refine Jp ?_|refine Jq ?_)|refine JA rfl ?_|refine JB rfl ?_|refine JC rfl ?_|refine JD rfl ?_|refine JE rfl ?_|refine JF rfl ?_|refine JG rfl ?_|refine JH rfl ?_|refine JI rfl ?_|refine J2 rfl ?_|refine J3 rfl ?_|refine J4 rfl ?_|refine J1 rfl ?_|refine J6 rfl ?_|refine J7 rfl ?_|refine JJ rfl ?_|refine JK rfl ?_|refine JQ rfl ?_|refine JL rfl rfl ?_|refine JM rfl rfl ?_|refine JN rfl ?_|refine JO rfl ?_|refine JP rfl ?_))
  refine s_iteD rfl (fun h2 => ?_) (fun h2 => ?_)
  · (repeat (first|(with_reducible first|refine Ja ?_|refine Jb ?_|refine Jc ?_|refine Jd ?_|refine Je ?_|refine Jf ?_|refine Jg ?_|refine Jh ?_|refine Ji ?_|refine Jj ?_|refine Jk rfl ?_|refine Jl ?_|refine Jm ?_|refine Jn ?_|refine Jo ?_|refine Jp ?_|refine Jq ?_)|refine JA rfl ?_|refine JB rfl ?_|refine JC rfl ?_|refine JD rfl ?_|refine JE rfl ?_|refine JF rfl ?_|refine JG rfl ?_|refine JH rfl ?_|refine JI rfl ?_|refine J2 rfl ?_|refine J3 rfl ?_|refine J4 rfl ?_|refine J1 rfl ?_|refine J6 rfl ?_|refine J7 rfl ?_|refine JJ rfl ?_|refine JK rfl ?_|refine JQ rfl ?_|refine JL rfl rfl ?_|refine JM rfl rfl ?_|refine JN rfl ?_|refine JO rfl ?_|refine JP rfl ?_))
    refine e_callP rfl l_sanity S fun w S => ?_
    (repeat (first|(with_reducible first|refine Ja ?_|refine Jb ?_|refine Jc ?_|refine Jd ?_|refine Je ?_|refine Jf ?_|refine Jg ?_|refine Jh ?_|refine Ji ?_|refine Jj ?_|refine Jk rfl ?_|refine Jl ?_|refine Jm ?_|refine Jn ?_|refine Jo ?_|refine Jp ?_|refine Jq ?_)|refine JA rfl ?_|refine JB rfl ?_|refine JC rfl ?_|refine JD rfl ?_|refine JE rfl ?_|refine JF rfl ?_|refine JG rfl ?_|refine JH rfl ?_|refine JI rfl ?_|refine J2 rfl ?_|refine J3 rfl ?_|refine J4 rfl ?_|refine J1 rfl ?_|refine J6 rfl ?_|refine J7 rfl ?_|refine JJ rfl ?_|refine JK rfl ?_|refine JQ rfl ?_|refine JL rfl rfl ?_|refine JM rfl rfl ?_|refine JN rfl ?_|refine JO rfl ?_|refine JP rfl ?_))
    exact f_ret rfl rfl (hQ _ _ _ rfl S)
  have hl : l.length ≤ 40 := by omega
  (repeat (first|(with_reducible first|refine Ja ?_|refine Jb ?_|refine Jc ?_|refine Jd ?_|refine Je ?_|refine Jf ?_|refine Jg ?_|refine Jh ?_|refine Ji ?_|refine Jj ?_|refine Jk rfl ?_|refine Jl ?_|refine Jm ?_|refine Jn ?_|refine Jo ?_|refine Jp ?_|refine Jq ?_)|refine JA rfl ?_|refine JB rfl ?_|refine JC rfl ?_|refine JD rfl ?_|refine JE rfl ?_|refine JF rfl ?_|refine JG rfl ?_|refine JH rfl ?_|refine JI rfl ?_|refine J2 rfl ?_|refine J3 rfl ?_|refine J4 rfl ?_|refine J1 rfl ?_|refine J6 rfl ?_|refine J7 rfl ?_|refine JJ rfl ?_|refine JK rfl ?_|refine JQ rfl ?_|refine JL rfl rfl ?_|refine JM rfl rfl ?_|refine JN rfl ?_|refine JO rfl ?_|refine JP rfl ?_))
  refine e_call (L2 := []) rfl (sh_fuse s0 fuse) S ?_
  rintro _ _ w rfl S
  have hpre := fresh_pre hc hdk hfr l fuse hfu
  obtain ⟨s1, hs1⟩ : ∃ s1 : Sh, ({ s0 with fused := decide (0 ≤ fuse), left := fuse } : Sh) = s1 := ⟨_, rfl⟩
  have hq1 : s1.v = s0.v := by rw [← hs1]; rfl
  rw [hs1] at hpre S
  replace S : Dn.Sep w s1.L F := S
  (repeat (with_reducible first|refine Ja ?_|refine Jb ?_|refine Jc ?_|refine Jd ?_|refine Je ?_|refine Jf ?_|refine Jg ?_|refine Jh ?_|refine Ji ?_|refine Jj ?_|refine Jk rfl ?_|refine Jl ?_|refine Jm ?_|refine Jn ?_|refine Jo ?_|refine Jp ?_|refine Jq ?_))
  refine e_p (v := .agg ⟨zT.v⟩) rfl ?_
  (repeat (with_reducible first|refine Ja ?_|refine Jb ?_|refine Jc ?_|refine Jd ?_|refine Je ?_|refine Jf ?_|refine Jg ?_|refine Jh ?_|refine Ji ?_|refine Jj ?_|refine Jk rfl ?_|refine Jl ?_|refine Jm ?_|refine Jn ?_|refine Jo ?_|refine Jp ?_|refine Jq ?_))
  refine e_nwE S (cs' := zT.v) rfl fun bt w S => ?_
  (repeat (with_reducible first|refine Ja ?_|refine Jb ?_|refine Jc ?_|refine Jd ?_|refine Je ?_|refine Jf ?_|refine Jg ?_|refine Jh ?_|refine Ji ?_|refine Jj ?_|refine Jk rfl ?_|refine Jl ?_|refine Jm ?_|refine Jn ?_|refine Jo ?_|refine Jp ?_|refine Jq ?_))
  refine e_st (vs := zT.v) S 0 rfl rfl rfl rfl (by simp [Tl.v, Value.flat, zT]) (by simp [zT, Tl.v]) fun w S => ?_
  replace S : Dn.Sep w ((bt, .cells ⟨zT.v⟩ 31) :: s1.L) F := S
  (repeat (with_reducible first|refine Jc ?_|refine Jd ?_|refine Je ?_|refine Jf ?_|refine Jg ?_|refine Jh ?_|refine Ji ?_|refine Jj ?_|refine Jk rfl ?_|refine Jl ?_|refine Jm ?_|refine Jn ?_|refine Jp ?_|refine Jq ?_))
  refine s_seq ?_
  refine s_ops ?_
  refine e_mvI rfl ?_
  (repeat (with_reducible first|refine Jc ?_|refine Jd ?_|refine Je ?_|refine Jf ?_|refine Jg ?_|refine Jh ?_|refine Ji ?_|refine Jj ?_|refine Jk rfl ?_|refine Jl ?_|refine Jm ?_|refine Jn ?_|refine Jp ?_|refine Jq ?_))
  refine s_seq ?_
  refine s_ops ?_
  refine e_mvI rfl ?_
  (repeat (with_reducible first|refine Jc ?_|refine Jd ?_|refine Je ?_|refine Jf ?_|refine Jg ?_|refine Jh ?_|refine Ji ?_|refine Jj ?_|refine Jk rfl ?_|refine Jl ?_|refine Jm ?_|refine Jn ?_|refine Jp ?_|refine Jq ?_))
  refine s_cut (σ := Sh × Tl × Nat × Nat) (fun q => [(11, s0.v), (13, .pointer (some ⟨bt, 0, none⟩)), (14, .int .i64 (q.2.2.1 : Int)), (15, .int .i64 (q.2.2.2 : Int)), (1, .slice ad l.length cap), (4, .slice adp picks.length capp)])
    (fun q w => q.1.q = s0.q ∧ Pre q.1 c l q.2.2.1 q.2.2.2 ∧ Dn.Sep w ((bt, .cells ⟨q.2.1.v⟩ 31) :: q.1.L) F) ?_ ?_
  · (repeat (with_reducible first|refine Ja ?_|refine Jb ?_|refine Jc ?_|refine Jd ?_|refine Je ?_|refine Jf ?_|refine Jg ?_|refine Jh ?_|refine Ji ?_|refine Jj ?_|refine Jk rfl ?_|refine Jl ?_|refine Jm ?_|refine Jn ?_|refine Jo ?_|refine Jp ?_|refine Jq ?_))
    refine e_mvI rfl ?_
    (repeat (with_reducible first|refine Ja ?_|refine Jb ?_|refine Jc ?_|refine Jd ?_|refine Je ?_|refine Jf ?_|refine Jg ?_|refine Jh ?_|refine Ji ?_|refine Jj ?_|refine Jk rfl ?_|refine Jl ?_|refine Jm ?_|refine Jn ?_|refine Jo ?_|refine Jp ?_|refine Jq ?_))
    refine s_loop (σ := Sh × Nat × Nat) (fun q => [(16, .int .i64 (q.2.2 : Int)), (11, s0.v), (13, .pointer (some ⟨bt, 0, none⟩)), (14, .int .i64 (q.2.1 : Int)), (15, .int .i64 (q.2.2 : Int)), (1, .slice ad l.length cap), (2, .slice adf fl.length capf), (4, .slice adp picks.length capp)])
      (fun q w => q.2.2 ≤ l.length ∧ q.1.q = s0.q ∧ PreOn q.1 c l q.2.1 q.2.2 ∧ Dn.Sep w ((bt, .cells ⟨(tailAt l q.2.2).v⟩ 31) :: q.1.L) F) (fun q => l.length - q.2.2) (s1, 0, 0) ⟨rfl, rfl, rfl, rfl, rfl, rfl, rfl, rfl, trivial⟩ rfl ⟨by simp, by rw [← hs1], hpre, S⟩ ?_
    rintro gg ⟨s, sf, i⟩ w ⟨hi, hsq, hP, S⟩
    simp only [setL] at hi hsq hP S ⊢
    have hsv : s.v = s0.v := by simp only [Sh.v, hsq]
    (repeat (first|(with_reducible first|refine Ja ?_|refine Jb ?_|refine Jc ?_|refine Jd ?_|refine Je ?_|refine Jf ?_|refine Jg ?_|refine Jh ?_|refine Ji ?_|refine Jj ?_|refine Jk rfl ?_|refine Jl ?_|refine Jm ?_|refine Jn ?_|refine Jo ?_|refine Jp ?_|refine Jq ?_)|refine JA rfl ?_|refine JB rfl ?_|refine JC rfl ?_|refine JD rfl ?_|refine JE rfl ?_|refine JF rfl ?_|refine JG rfl ?_|refine JH rfl ?_|refine JI rfl ?_|refine J2 rfl ?_|refine J3 rfl ?_|refine J4 rfl ?_|refine J1 rfl ?_|refine J6 rfl ?_|refine J7 rfl ?_|refine JJ rfl ?_|refine JK rfl ?_|refine JQ rfl ?_|refine JL rfl rfl ?_|refine JM rfl rfl ?_|refine JN rfl ?_|refine JO rfl ?_|refine JP rfl ?_))
    refine s_iteD rfl (fun h => ?_) (fun h => ?_)
    rotate_left
    · (repeat (first|(with_reducible first|refine Ja ?_|refine Jb ?_|refine Jc ?_|refine Jd ?_|refine Je ?_|refine Jf ?_|refine Jg ?_|refine Jh ?_|refine Ji ?_|refine Jj ?_|refine Jk rfl ?_|refine Jl ?_|refine Jm ?_|refine Jn ?_|refine Jo ?_|refine Jp ?_|refine Jq ?_)|refine JA rfl ?_|refine JB rfl ?_|refine JC rfl ?_|refine JD rfl ?_|refine JE rfl ?_|refine JF rfl ?_|refine JG rfl ?_|refine JH rfl ?_|refine JI rfl ?_|refine J2 rfl ?_|refine J3 rfl ?_|refine J4 rfl ?_|refine J1 rfl ?_|refine J6 rfl ?_|refine J7 rfl ?_|refine JJ rfl ?_|refine JK rfl ?_|refine JQ rfl ?_|refine JL rfl rfl ?_|refine JM rfl rfl ?_|refine JN rfl ?_|refine JO rfl ?_|refine JP rfl ?_))
      exact ⟨rfl, (s, tailAt l i, sf, i), ⟨rfl, rfl, rfl, rfl, rfl, rfl, trivial⟩, hsq, hP.pre, S⟩
    have hi' : i < l.length := by omega
    have hgt : l.getD i [] = l[i] := by simp [hi']
    have hap := w_append s 0 (tailAt l i) ⟨1, (i : Int) + 1⟩ l[i] hP.pre.std.ok (hr _ (List.getElem_mem _))
    have hpa := pre_append hdk hP hi' (by omega)
    simp only at hpa
    rw [hgt] at hpa
    have hqA := (append_ok hP.pre.std.ok 0 (tailAt l i) ⟨1, (i : Int) + 1⟩ l[i]).2.2
    obtain ⟨A, hA⟩ : ∃ A, appendW s 0 (tailAt l i) ⟨1, (i : Int) + 1⟩ l[i] = A := ⟨_, rfl⟩
    rw [hA] at hap hpa hqA
    rw [hsv] at hap
    obtain ⟨ba, off, rfl, hcell⟩ := hF i _ (strV_get hi')
    (repeat (with_reducible first|refine Ja ?_|refine Jb ?_|refine Jc ?_|refine Jd ?_|refine Je ?_|refine Jf ?_|refine Jg ?_|refine Jh ?_|refine Ji ?_|refine Jj ?_|refine Jk rfl ?_|refine Jl ?_|refine Jm ?_|refine Jn ?_|refine Jo ?_|refine Jp ?_|refine Jq ?_))
    replace S := S.drew
    (repeat (first|(with_reducible first|refine Ja ?_|refine Jb ?_|refine Jc ?_|refine Jd ?_|refine Je ?_|refine Jf ?_|refine Jg ?_|refine Jh ?_|refine Ji ?_|refine Jj ?_|refine Jk rfl ?_|refine Jl ?_|refine Jm ?_|refine Jn ?_|refine Jo ?_|refine Jp ?_|refine Jq ?_)|refine JA rfl ?_|refine JB rfl ?_|refine JC rfl ?_|refine JD rfl ?_|refine JE rfl ?_|refine JF rfl ?_|refine JG rfl ?_|refine JH rfl ?_|refine JI rfl ?_|refine J2 rfl ?_|refine J3 rfl ?_|refine J4 rfl ?_|refine J1 rfl ?_|refine J6 rfl ?_|refine J7 rfl ?_|refine JJ rfl ?_|refine JK rfl ?_|refine JQ rfl ?_|refine JL rfl rfl ?_|refine JM rfl rfl ?_|refine JN rfl ?_|refine JO rfl ?_|refine JP rfl ?_))
    refine e_ld (v := .agg ⟨(tailAt l i).v⟩) (S.row 0 rfl (by simp [Tl.v]) rfl) ?_
    (repeat (first|(with_reducible first|refine Ja ?_|refine Jb ?_|refine Jc ?_|refine Jd ?_|refine Je ?_|refine Jf ?_|refine Jg ?_|refine Jh ?_|refine Ji ?_|refine Jj ?_|refine Jk rfl ?_|refine Jl ?_|refine Jm ?_|refine Jn ?_|refine Jo ?_|refine Jp ?_|refine Jq ?_)|refine JA rfl ?_|refine JB rfl ?_|refine JC rfl ?_|refine JD rfl ?_|refine JE rfl ?_|refine JF rfl ?_|refine JG rfl ?_|refine JH rfl ?_|refine JI rfl ?_|refine J2 rfl ?_|refine J3 rfl ?_|refine J4 rfl ?_|refine J1 rfl ?_|refine J6 rfl ?_|refine J7 rfl ?_|refine JJ rfl ?_|refine JK rfl ?_|refine JQ rfl ?_|refine JL rfl rfl ?_|refine JM rfl rfl ?_|refine JN rfl ?_|refine JO rfl ?_|refine JP rfl ?_))
    refine e_add (a := (i : Int)) (b := 1) rfl rfl (by omega) (by omega) ?_
    (repeat (first|(with_reducible first|refine Ja ?_|refine Jb ?_|refine Jc ?_|refine Jd ?_|refine Je ?_|refine Jf ?_|refine Jg ?_|refine Jh ?_|refine Ji ?_|refine Jj ?_|refine Jk rfl ?_|refine Jl ?_|refine Jm ?_|refine Jn ?_|refine Jo ?_|refine Jp ?_|refine Jq ?_)|refine JA rfl ?_|refine JB rfl ?_|refine JC rfl ?_|refine JD rfl ?_|refine JE rfl ?_|refine JF rfl ?_|refine JG rfl ?_|refine JH rfl ?_|refine JI rfl ?_|refine J2 rfl ?_|refine J3 rfl ?_|refine J4 rfl ?_|refine J1 rfl ?_|refine J6 rfl ?_|refine J7 rfl ?_|refine JJ rfl ?_|refine JK rfl ?_|refine JQ rfl ?_|refine JL rfl rfl ?_|refine JM rfl rfl ?_|refine JN rfl ?_|refine JO rfl ?_|refine JP rfl ?_))
    refine e_ixa rfl rfl (by omega) (by omega) ?_
    rw [show off + (i : Int).toNat * 1 = off + i by omega]
    (repeat (first|(with_reducible first|refine Ja ?_|refine Jb ?_|refine Jc ?_|refine Jd ?_|refine Je ?_|refine Jf ?_|refine Jg ?_|refine Jh ?_|refine Ji ?_|refine Jj ?_|refine Jk rfl ?_|refine Jl ?_|refine Jm ?_|refine Jn ?_|refine Jo ?_|refine Jp ?_|refine Jq ?_)|refine JA rfl ?_|refine JB rfl ?_|refine JC rfl ?_|refine JD rfl ?_|refine JE rfl ?_|refine JF rfl ?_|refine JG rfl ?_|refine JH rfl ?_|refine JI rfl ?_|refine J2 rfl ?_|refine J3 rfl ?_|refine J4 rfl ?_|refine J1 rfl ?_|refine J6 rfl ?_|refine J7 rfl ?_|refine JJ rfl ?_|refine JK rfl ?_|refine JQ rfl ?_|refine JL rfl rfl ?_|refine JM rfl rfl ?_|refine JN rfl ?_|refine JO rfl ?_|refine JP rfl ?_))
    refine e_ld (v := strV l[i]) (S.fc hcell) ?_
    (repeat (with_reducible first|refine Ja ?_|refine Jb ?_|refine Jc ?_|refine Jd ?_|refine Je ?_|refine Jf ?_|refine Jg ?_|refine Jh ?_|refine Ji ?_|refine Jj ?_|refine Jk rfl ?_|refine Jl ?_|refine Jm ?_|refine Jn ?_|refine Jo ?_|refine Jp ?_|refine Jq ?_))
    refine t_alt ?_ ?_
    all_goals
      (repeat (with_reducible first|refine Ja ?_|refine Jb ?_|refine Jc ?_|refine Jd ?_|refine Je ?_|refine Jf ?_|refine Jg ?_|refine Jh ?_|refine Ji ?_|refine Jj ?_|refine Jk rfl ?_|refine Jl ?_|refine Jm ?_|refine Jn ?_|refine Jo ?_|refine Jp ?_|refine Jq ?_))
      first
        | (refine e_call (L2 := [(bt, _)]) rfl hap S ?_
           rintro _ _ w ⟨rfl, rfl⟩ S
           (repeat (with_reducible first|refine Ja ?_|refine Jb ?_|refine Jc ?_|refine Jd ?_|refine Je ?_|refine Jf ?_|refine Jg ?_|refine Jh ?_|refine Ji ?_|refine Jj ?_|refine Jk rfl ?_|refine Jl ?_|refine Jm ?_|refine Jn ?_|refine Jo ?_|refine Jp ?_|refine Jq ?_))
           refine e_mvT rfl ?_
           (repeat (with_reducible first|refine Ja ?_|refine Jb ?_|refine Jc ?_|refine Jd ?_|refine Je ?_|refine Jf ?_|refine Jg ?_|refine Jh ?_|refine Ji ?_|refine Jj ?_|refine Jk rfl ?_|refine Jl ?_|refine Jm ?_|refine Jn ?_|refine Jo ?_|refine Jp ?_|refine Jq ?_))
           refine e_p (v := .agg ⟨A.1.v⟩) rfl ?_
           (repeat (with_reducible first|refine Ja ?_|refine Jb ?_|refine Jc ?_|refine Jd ?_|refine Je ?_|refine Jf ?_|refine Jg ?_|refine Jh ?_|refine Ji ?_|refine Jj ?_|refine Jk rfl ?_|refine Jl ?_|refine Jm ?_|refine Jn ?_|refine Jo ?_|refine Jp ?_|refine Jq ?_))
           refine e_p (v := .int .i64 A.2.1) rfl ?_
           (repeat (with_reducible first|refine Ja ?_|refine Jb ?_|refine Jc ?_|refine Jd ?_|refine Je ?_|refine Jf ?_|refine Jg ?_|refine Jh ?_|refine Ji ?_|refine Jj ?_|refine Jk rfl ?_|refine Jl ?_|refine Jm ?_|refine Jn ?_|refine Jo ?_|refine Jp ?_|refine Jq ?_))
           refine e_nwE S (cs' := zT.v) rfl fun b12 w S => ?_)
        | (refine e_nwE S (cs' := zT.v) rfl fun b12 w S => ?_
           (repeat (with_reducible first|refine Ja ?_|refine Jb ?_|refine Jc ?_|refine Jd ?_|refine Je ?_|refine Jf ?_|refine Jg ?_|refine Jh ?_|refine Ji ?_|refine Jj ?_|refine Jk rfl ?_|refine Jl ?_|refine Jm ?_|refine Jn ?_|refine Jo ?_|refine Jp ?_|refine Jq ?_))
           refine e_call (L2 := [(b12, _), (bt, _)]) rfl hap S ?_
           rintro _ _ w ⟨rfl, rfl⟩ S
           (repeat (with_reducible first|refine Ja ?_|refine Jb ?_|refine Jc ?_|refine Jd ?_|refine Je ?_|refine Jf ?_|refine Jg ?_|refine Jh ?_|refine Ji ?_|refine Jj ?_|refine Jk rfl ?_|refine Jl ?_|refine Jm ?_|refine Jn ?_|refine Jo ?_|refine Jp ?_|refine Jq ?_))
           refine e_mvT rfl ?_
           (repeat (with_reducible first|refine Ja ?_|refine Jb ?_|refine Jc ?_|refine Jd ?_|refine Je ?_|refine Jf ?_|refine Jg ?_|refine Jh ?_|refine Ji ?_|refine Jj ?_|refine Jk rfl ?_|refine Jl ?_|refine Jm ?_|refine Jn ?_|refine Jo ?_|refine Jp ?_|refine Jq ?_))
           refine e_p (v := .agg ⟨A.1.v⟩) rfl ?_
           (repeat (with_reducible first|refine Ja ?_|refine Jb ?_|refine Jc ?_|refine Jd ?_|refine Je ?_|refine Jf ?_|refine Jg ?_|refine Jh ?_|refine Ji ?_|refine Jj ?_|refine Jk rfl ?_|refine Jl ?_|refine Jm ?_|refine Jn ?_|refine Jo ?_|refine Jp ?_|refine Jq ?_))
           refine e_p (v := .int .i64 A.2.1) rfl ?_)
      (repeat (with_reducible first|refine Ja ?_|refine Jb ?_|refine Jc ?_|refine Jd ?_|refine Je ?_|refine Jf ?_|refine Jg ?_|refine Jh ?_|refine Ji ?_|refine Jj ?_|refine Jk rfl ?_|refine Jl ?_|refine Jm ?_|refine Jn ?_|refine Jo ?_|refine Jp ?_|refine Jq ?_))
      refine e_st (vs := A.1.v) S 0 rfl rfl rfl rfl (by simp [Tl.v, Value.flat]) (by simp [zT, Tl.v]) fun w S => ?_
      replace S : Dn.Sep w ((b12, .cells ⟨A.1.v⟩ 31) :: (bt, Obj.cells ⟨(tailAt l i).v⟩ 31) :: A.2.2.L) F := S
      (repeat (with_reducible first|refine Ja ?_|refine Jb ?_|refine Jc ?_|refine Jd ?_|refine Je ?_|refine Jf ?_|refine Jg ?_|refine Jh ?_|refine Ji ?_|refine Jj ?_|refine Jk rfl ?_|refine Jl ?_|refine Jm ?_|refine Jn ?_|refine Jo ?_|refine Jp ?_|refine Jq ?_))
      refine e_mvI rfl ?_
      (repeat (with_reducible first|refine Ja ?_|refine Jb ?_|refine Jc ?_|refine Jd ?_|refine Je ?_|refine Jf ?_|refine Jg ?_|refine Jh ?_|refine Ji ?_|refine Jj ?_|refine Jk rfl ?_|refine Jl ?_|refine Jm ?_|refine Jn ?_|refine Jo ?_|refine Jp ?_|refine Jq ?_))
      refine e_mvI rfl ?_
      refine e_p (cmp_eqlD rfl rfl) ?_
      (repeat (with_reducible first|refine Ja ?_|refine Jb ?_|refine Jc ?_|refine Jd ?_|refine Je ?_|refine Jf ?_|refine Jg ?_|refine Jh ?_|refine Ji ?_|refine Jj ?_|refine Jk rfl ?_|refine Jl ?_|refine Jm ?_|refine Jn ?_|refine Jo ?_|refine Jp ?_|refine Jq ?_))
      refine s_iteD rfl (fun he => ?_) (fun he => ?_)
      · have hP2 : Pre A.2.2 c l sf (i + 1) := by
          rcases hpa with ⟨_, h2, _⟩ | ⟨h1, _⟩ | ⟨_, h2⟩
          · exact absurd he h2
          · rw [h1] at he; exact absurd he (by decide)
          · exact h2
        (repeat (first|(with_reducible first|refine Ja ?_|refine Jb ?_|refine Jc ?_|refine Jd ?_|refine Je ?_|refine Jf ?_|refine Jg ?_|refine Jh ?_|refine Ji ?_|refine Jj ?_|refine Jk rfl ?_|refine Jl ?_|refine Jm ?_|refine Jn ?_|refine Jo ?_|refine Jp ?_|refine Jq ?_)|refine JA rfl ?_|refine JB rfl ?_|refine JC rfl ?_|refine JD rfl ?_|refine JE rfl ?_|refine JF rfl ?_|refine JG rfl ?_|refine JH rfl ?_|refine JI rfl ?_|refine J2 rfl ?_|refine J3 rfl ?_|refine J4 rfl ?_|refine J1 rfl ?_|refine J6 rfl ?_|refine J7 rfl ?_|refine JJ rfl ?_|refine JK rfl ?_|refine JQ rfl ?_|refine JL rfl rfl ?_|refine JM rfl rfl ?_|refine JN rfl ?_|refine JO rfl ?_|refine JP rfl ?_))
        refine e_add (a := (i : Int)) (b := 1) rfl rfl (by omega) (by omega) ?_
        (repeat (first|(with_reducible first|refine Ja ?_|refine Jb ?_|refine Jc ?_|refine Jd ?_|refine Je ?_|refine Jf ?_|refine Jg ?_|refine Jh ?_|refine Ji ?_|refine Jj ?_|refine Jk rfl ?_|refine Jl ?_|refine Jm ?_|refine Jn ?_|refine Jo ?_|refine Jp ?_|refine Jq ?_)|refine JA rfl ?_|refine JB rfl ?_|refine JC rfl ?_|refine JD rfl ?_|refine JE rfl ?_|refine JF rfl ?_|refine JG rfl ?_|refine JH rfl ?_|refine JI rfl ?_|refine J2 rfl ?_|refine J3 rfl ?_|refine J4 rfl ?_|refine J1 rfl ?_|refine J6 rfl ?_|refine J7 rfl ?_|refine JJ rfl ?_|refine JK rfl ?_|refine JQ rfl ?_|refine JL rfl rfl ?_|refine JM rfl rfl ?_|refine JN rfl ?_|refine JO rfl ?_|refine JP rfl ?_))
        exact ⟨rfl, (A.2.2, tailAt l i, sf, i + 1), ⟨rfl, rfl, rfl, rfl, rfl, rfl, trivial⟩, hqA.trans hsq, hP2, Sep.drop (L2 := [(b12, .cells ⟨A.1.v⟩ 31)]) S⟩
      (repeat (with_reducible first|refine Ja ?_|refine Jb ?_|refine Jc ?_|refine Jd ?_|refine Je ?_|refine Jf ?_|refine Jg ?_|refine Jh ?_|refine Ji ?_|refine Jj ?_|refine Jk rfl ?_|refine Jl ?_|refine Jm ?_|refine Jn ?_|refine Jo ?_|refine Jp ?_|refine Jq ?_))
      refine e_mvI rfl ?_
      refine e_p (cmp_neqD rfl rfl) ?_
      (repeat (with_reducible first|refine Ja ?_|refine Jb ?_|refine Jc ?_|refine Jd ?_|refine Je ?_|refine Jf ?_|refine Jg ?_|refine Jh ?_|refine Ji ?_|refine Jj ?_|refine Jk rfl ?_|refine Jl ?_|refine Jm ?_|refine Jn ?_|refine Jo ?_|refine Jp ?_|refine Jq ?_))
      refine s_iteN rfl (fun he2 => ?_) (fun he2 => ?_)
      · have hP2 : A.2.2 = s := by
          rcases hpa with ⟨_, _, h2⟩ | ⟨h1, _⟩ | ⟨h1, _⟩
          · exact h2
          · exact absurd h1 he2
          · exact absurd h1 he
        rw [hP2] at S
        (repeat (first|(with_reducible first|refine Ja ?_|refine Jb ?_|refine Jc ?_|refine Jd ?_|refine Je ?_|refine Jf ?_|refine Jg ?_|refine Jh ?_|refine Ji ?_|refine Jj ?_|refine Jk rfl ?_|refine Jl ?_|refine Jm ?_|refine Jn ?_|refine Jo ?_|refine Jp ?_|refine Jq ?_)|refine JA rfl ?_|refine JB rfl ?_|refine JC rfl ?_|refine JD rfl ?_|refine JE rfl ?_|refine JF rfl ?_|refine JG rfl ?_|refine JH rfl ?_|refine JI rfl ?_|refine J2 rfl ?_|refine J3 rfl ?_|refine J4 rfl ?_|refine J1 rfl ?_|refine J6 rfl ?_|refine J7 rfl ?_|refine JJ rfl ?_|refine JK rfl ?_|refine JQ rfl ?_|refine JL rfl rfl ?_|refine JM rfl rfl ?_|refine JN rfl ?_|refine JO rfl ?_|refine JP rfl ?_))
        exact ⟨rfl, (s, tailAt l i, sf, i), ⟨rfl, rfl, rfl, rfl, rfl, rfl, trivial⟩, hsq, hP.pre, Sep.drop (L2 := [(b12, .cells ⟨A.1.v⟩ 31)]) S⟩
      have hP2 : A.1 = tailAt l (i + 1) ∧ PreOn A.2.2 c l sf (i + 1) := by
        rcases hpa with ⟨h1, _, _⟩ | ⟨_, h2⟩ | ⟨h1, _⟩
        · exact absurd (by simpa using he2) h1
        · exact h2
        · exact absurd h1 he
      obtain ⟨hA1, hP2⟩ := hP2
      have hsqA : A.2.2.q = s0.q := hqA.trans hsq
      obtain ⟨u, hu⟩ : ∃ u, A.2.2 = u := ⟨_, rfl⟩
      rw [hu] at S hP2 hsqA
      rw [hA1] at S
      have huv : u.v = s0.v := by simp only [Sh.v, hsqA]
      (repeat (with_reducible first|refine Ja ?_|refine Jb ?_|refine Jc ?_|refine Jd ?_|refine Je ?_|refine Jf ?_|refine Jg ?_|refine Jh ?_|refine Ji ?_|refine Jj ?_|refine Jk rfl ?_|refine Jl ?_|refine Jm ?_|refine Jn ?_|refine Jo ?_|refine Jp ?_|refine Jq ?_))
      refine e_ld (v := .agg ⟨(tailAt l (i + 1)).v⟩) (S.row 0 rfl (by simp [Tl.v]) rfl) ?_
      (repeat (with_reducible first|refine Ja ?_|refine Jb ?_|refine Jc ?_|refine Jd ?_|refine Je ?_|refine Jf ?_|refine Jg ?_|refine Jh ?_|refine Ji ?_|refine Jj ?_|refine Jk rfl ?_|refine Jl ?_|refine Jm ?_|refine Jn ?_|refine Jo ?_|refine Jp ?_|refine Jq ?_))
      refine e_st (vs := (tailAt l (i + 1)).v) S 1 rfl rfl rfl rfl (by simp [Tl.v, Value.flat]) (by simp [zT, Tl.v]) fun w S => ?_
      replace S : Dn.Sep w ((b12, .cells ⟨(tailAt l (i + 1)).v⟩ 31) :: (bt, Obj.cells ⟨(tailAt l (i + 1)).v⟩ 31) :: u.L) F := S
      replace S : Dn.Sep w ((bt, Obj.cells ⟨(tailAt l (i + 1)).v⟩ 31) :: u.L) F := Sep.drop (L2 := [_]) S
      (repeat (first|(with_reducible first|refine Ja ?_|refine Jb ?_|refine Jc ?_|refine Jd ?_|refine Je ?_|refine Jf ?_|refine Jg ?_|refine Jh ?_|refine Ji ?_|refine Jj ?_|refine Jk rfl ?_|refine Jl ?_|refine Jm ?_|refine Jn ?_|refine Jo ?_|refine Jp ?_|refine Jq ?_)|refine JA rfl ?_|refine JB rfl ?_|refine JC rfl ?_|refine JD rfl ?_|refine JE rfl ?_|refine JF rfl ?_|refine JG rfl ?_|refine JH rfl ?_|refine JI rfl ?_|refine J2 rfl ?_|refine J3 rfl ?_|refine J4 rfl ?_|refine J1 rfl ?_|refine J6 rfl ?_|refine J7 rfl ?_|refine JJ rfl ?_|refine JK rfl ?_|refine JQ rfl ?_|refine JL rfl rfl ?_|refine JM rfl rfl ?_|refine JN rfl ?_|refine JO rfl ?_|refine JP rfl ?_))
      refine e_add (a := (i : Int)) (b := 1) rfl rfl (by omega) (by omega) ?_
      (repeat (with_reducible first|refine Ja ?_|refine Jb ?_|refine Jc ?_|refine Jd ?_|refine Je ?_|refine Jf ?_|refine Jg ?_|refine Jh ?_|refine Ji ?_|refine Jj ?_|refine Jk rfl ?_|refine Jl ?_|refine Jm ?_|refine Jn ?_|refine Jo ?_|refine Jp ?_|refine Jq ?_))
      refine e_mvI rfl ?_
      (repeat (with_reducible first|refine Ja ?_|refine Jb ?_|refine Jc ?_|refine Jd ?_|refine Je ?_|refine Jf ?_|refine Jg ?_|refine Jh ?_|refine Ji ?_|refine Jj ?_|refine Jk rfl ?_|refine Jl ?_|refine Jm ?_|refine Jn ?_|refine Jo ?_|refine Jp ?_|refine Jq ?_))
      refine e_mvI rfl ?_
      refine e_mvL rfl ?_
      refine e_p (v := .int .i64 ((fl.length : Nat) : Int)) rfl ?_
      refine e_p (v := .bool (decide ((i : Int) < (fl.length : Int)))) rfl ?_
      refine e_mvB rfl ?_
      refine e_brD rfl (fun hlt => ?_) (fun hlt => ?_)
      rotate_left
      · (repeat (first|(with_reducible first|refine Ja ?_|refine Jb ?_|refine Jc ?_|refine Jd ?_|refine Je ?_|refine Jf ?_|refine Jg ?_|refine Jh ?_|refine Ji ?_|refine Jj ?_|refine Jk rfl ?_|refine Jl ?_|refine Jm ?_|refine Jn ?_|refine Jo ?_|refine Jp ?_|refine Jq ?_)|refine JA rfl ?_|refine JB rfl ?_|refine JC rfl ?_|refine JD rfl ?_|refine JE rfl ?_|refine JF rfl ?_|refine JG rfl ?_|refine JH rfl ?_|refine JI rfl ?_|refine J2 rfl ?_|refine J3 rfl ?_|refine J4 rfl ?_|refine J1 rfl ?_|refine J6 rfl ?_|refine J7 rfl ?_|refine JJ rfl ?_|refine JK rfl ?_|refine JQ rfl ?_|refine JL rfl rfl ?_|refine JM rfl rfl ?_|refine JN rfl ?_|refine JO rfl ?_|refine JP rfl ?_))
        refine e_add (a := (i : Int)) (b := 1) rfl rfl (by omega) (by omega) ?_
        (repeat (first|(with_reducible first|refine Ja ?_|refine Jb ?_|refine Jc ?_|refine Jd ?_|refine Je ?_|refine Jf ?_|refine Jg ?_|refine Jh ?_|refine Ji ?_|refine Jj ?_|refine Jk rfl ?_|refine Jl ?_|refine Jm ?_|refine Jn ?_|refine Jo ?_|refine Jp ?_|refine Jq ?_)|refine JA rfl ?_|refine JB rfl ?_|refine JC rfl ?_|refine JD rfl ?_|refine JE rfl ?_|refine JF rfl ?_|refine JG rfl ?_|refine JH rfl ?_|refine JI rfl ?_|refine J2 rfl ?_|refine J3 rfl ?_|refine J4 rfl ?_|refine J1 rfl ?_|refine J6 rfl ?_|refine J7 rfl ?_|refine JJ rfl ?_|refine JK rfl ?_|refine JQ rfl ?_|refine JL rfl rfl ?_|refine JM rfl rfl ?_|refine JN rfl ?_|refine JO rfl ?_|refine JP rfl ?_))
        exact ⟨rfl, (u, sf, i + 1), ⟨rfl, rfl, rfl, rfl, rfl, rfl, rfl, rfl, trivial⟩, ⟨hi', hsqA, hP2, S⟩, by simp only; omega⟩
      have hif : i < fl.length := by omega
      obtain ⟨bf, off2, rfl, hcf⟩ := hFb i (.bool fl[i]) (by simp [hif])
      refine e_gdT rfl ?_
      refine e_mvL rfl ?_
      refine e_gdT rfl ?_
      refine e_mvI rfl ?_
      refine e_gdT rfl ?_
      refine e_ixa rfl rfl (by omega) (by omega) ?_
      rw [show off2 + (i : Int).toNat * 1 = off2 + i by omega]
      refine e_gdT rfl ?_
      refine e_ld (v := .bool fl[i]) (S.fc hcf) ?_
      refine e_pkTB rfl rfl ?_
      cases hfi : fl[i]
      · (repeat (first|(with_reducible first|refine Ja ?_|refine Jb ?_|refine Jc ?_|refine Jd ?_|refine Je ?_|refine Jf ?_|refine Jg ?_|refine Jh ?_|refine Ji ?_|refine Jj ?_|refine Jk rfl ?_|refine Jl ?_|refine Jm ?_|refine Jn ?_|refine Jo ?_|refine Jp ?_|refine Jq ?_)|refine JA rfl ?_|refine JB rfl ?_|refine JC rfl ?_|refine JD rfl ?_|refine JE rfl ?_|refine JF rfl ?_|refine JG rfl ?_|refine JH rfl ?_|refine JI rfl ?_|refine J2 rfl ?_|refine J3 rfl ?_|refine J4 rfl ?_|refine J1 rfl ?_|refine J6 rfl ?_|refine J7 rfl ?_|refine JJ rfl ?_|refine JK rfl ?_|refine JQ rfl ?_|refine JL rfl rfl ?_|refine JM rfl rfl ?_|refine JN rfl ?_|refine JO rfl ?_|refine JP rfl ?_))
        refine e_add (a := (i : Int)) (b := 1) rfl rfl (by omega) (by omega) ?_
        (repeat (first|(with_reducible first|refine Ja ?_|refine Jb ?_|refine Jc ?_|refine Jd ?_|refine Je ?_|refine Jf ?_|refine Jg ?_|refine Jh ?_|refine Ji ?_|refine Jj ?_|refine Jk rfl ?_|refine Jl ?_|refine Jm ?_|refine Jn ?_|refine Jo ?_|refine Jp ?_|refine Jq ?_)|refine JA rfl ?_|refine JB rfl ?_|refine JC rfl ?_|refine JD rfl ?_|refine JE rfl ?_|refine JF rfl ?_|refine JG rfl ?_|refine JH rfl ?_|refine JI rfl ?_|refine J2 rfl ?_|refine J3 rfl ?_|refine J4 rfl ?_|refine J1 rfl ?_|refine J6 rfl ?_|refine J7 rfl ?_|refine JJ rfl ?_|refine JK rfl ?_|refine JQ rfl ?_|refine JL rfl rfl ?_|refine JM rfl rfl ?_|refine JN rfl ?_|refine JO rfl ?_|refine JP rfl ?_))
        exact ⟨rfl, (u, sf, i + 1), ⟨rfl, rfl, rfl, rfl, rfl, rfl, rfl, rfl, trivial⟩, ⟨hi', hsqA, hP2, S⟩, by simp only; omega⟩
      have hfl := sh_flush u 0 hP2.pre.std.ok hP2.pre.wf
      rw [huv] at hfl
      have hpf := pre_flush hdk hP2
      have hfq := (fl_ok hP2.pre.std.ok hP2.pre.wf 0).2.2.1
      (repeat (first|(with_reducible first|refine Ja ?_|refine Jb ?_|refine Jc ?_|refine Jd ?_|refine Je ?_|refine Jf ?_|refine Jg ?_|refine Jh ?_|refine Ji ?_|refine Jj ?_|refine Jk rfl ?_|refine Jl ?_|refine Jm ?_|refine Jn ?_|refine Jo ?_|refine Jp ?_|refine Jq ?_)|refine JA rfl ?_|refine JB rfl ?_|refine JC rfl ?_|refine JD rfl ?_|refine JE rfl ?_|refine JF rfl ?_|refine JG rfl ?_|refine JH rfl ?_|refine JI rfl ?_|refine J2 rfl ?_|refine J3 rfl ?_|refine J4 rfl ?_|refine J1 rfl ?_|refine J6 rfl ?_|refine J7 rfl ?_|refine JJ rfl ?_|refine JK rfl ?_|refine JQ rfl ?_|refine JL rfl rfl ?_|refine JM rfl rfl ?_|refine JN rfl ?_|refine JO rfl ?_|refine JP rfl ?_))
      refine e_call (L2 := [_]) rfl hfl S ?_
      rintro _ _ w ⟨rfl, rfl⟩ S
      refine e_p (cmp_neqD rfl rfl) ?_
      (repeat (with_reducible first|refine Ja ?_|refine Jb ?_|refine Jc ?_|refine Jd ?_|refine Je ?_|refine Jf ?_|refine Jg ?_|refine Jh ?_|refine Ji ?_|refine Jj ?_|refine Jk rfl ?_|refine Jl ?_|refine Jm ?_|refine Jn ?_|refine Jo ?_|refine Jp ?_|refine Jq ?_))
      refine s_iteN rfl (fun he3 => ?_) (fun he3 => ?_)
      · have hP3 : Pre (u.flS 0) c l sf (i + 1) := by
          rcases hpf with ⟨h1, _⟩ | ⟨_, h2⟩
          · exact absurd h1 he3
          · exact h2
        (repeat (first|(with_reducible first|refine Ja ?_|refine Jb ?_|refine Jc ?_|refine Jd ?_|refine Je ?_|refine Jf ?_|refine Jg ?_|refine Jh ?_|refine Ji ?_|refine Jj ?_|refine Jk rfl ?_|refine Jl ?_|refine Jm ?_|refine Jn ?_|refine Jo ?_|refine Jp ?_|refine Jq ?_)|refine JA rfl ?_|refine JB rfl ?_|refine JC rfl ?_|refine JD rfl ?_|refine JE rfl ?_|refine JF rfl ?_|refine JG rfl ?_|refine JH rfl ?_|refine JI rfl ?_|refine J2 rfl ?_|refine J3 rfl ?_|refine J4 rfl ?_|refine J1 rfl ?_|refine J6 rfl ?_|refine J7 rfl ?_|refine JJ rfl ?_|refine JK rfl ?_|refine JQ rfl ?_|refine JL rfl rfl ?_|refine JM rfl rfl ?_|refine JN rfl ?_|refine JO rfl ?_|refine JP rfl ?_))
        exact ⟨rfl, (u.flS 0, tailAt l (i + 1), sf, i + 1), ⟨rfl, rfl, rfl, rfl, rfl, rfl, trivial⟩, hfq.trans hsqA, hP3, S⟩
      have hP3 : PreOn (u.flS 0) c l (i + 1) (i + 1) := by
        rcases hpf with ⟨_, h2⟩ | ⟨h1, _⟩
        · exact h2
        · exact absurd (by simpa using he3) h1
      (repeat (first|(with_reducible first|refine Ja ?_|refine Jb ?_|refine Jc ?_|refine Jd ?_|refine Je ?_|refine Jf ?_|refine Jg ?_|refine Jh ?_|refine Ji ?_|refine Jj ?_|refine Jk rfl ?_|refine Jl ?_|refine Jm ?_|refine Jn ?_|refine Jo ?_|refine Jp ?_|refine Jq ?_)|refine JA rfl ?_|refine JB rfl ?_|refine JC rfl ?_|refine JD rfl ?_|refine JE rfl ?_|refine JF rfl ?_|refine JG rfl ?_|refine JH rfl ?_|refine JI rfl ?_|refine J2 rfl ?_|refine J3 rfl ?_|refine J4 rfl ?_|refine J1 rfl ?_|refine J6 rfl ?_|refine J7 rfl ?_|refine JJ rfl ?_|refine JK rfl ?_|refine JQ rfl ?_|refine JL rfl rfl ?_|refine JM rfl rfl ?_|refine JN rfl ?_|refine JO rfl ?_|refine JP rfl ?_))
      refine e_add (a := (i : Int)) (b := 1) rfl rfl (by omega) (by omega) ?_
      (repeat (first|(with_reducible first|refine Ja ?_|refine Jb ?_|refine Jc ?_|refine Jd ?_|refine Je ?_|refine Jf ?_|refine Jg ?_|refine Jh ?_|refine Ji ?_|refine Jj ?_|refine Jk rfl ?_|refine Jl ?_|refine Jm ?_|refine Jn ?_|refine Jo ?_|refine Jp ?_|refine Jq ?_)|refine JA rfl ?_|refine JB rfl ?_|refine JC rfl ?_|refine JD rfl ?_|refine JE rfl ?_|refine JF rfl ?_|refine JG rfl ?_|refine JH rfl ?_|refine JI rfl ?_|refine J2 rfl ?_|refine J3 rfl ?_|refine J4 rfl ?_|refine J1 rfl ?_|refine J6 rfl ?_|refine J7 rfl ?_|refine JJ rfl ?_|refine JK rfl ?_|refine JQ rfl ?_|refine JL rfl rfl ?_|refine JM rfl rfl ?_|refine JN rfl ?_|refine JO rfl ?_|refine JP rfl ?_))
      exact ⟨rfl, (u.flS 0, i + 1, i + 1), ⟨rfl, rfl, rfl, rfl, rfl, rfl, rfl, rfl, trivial⟩, ⟨hi', hfq.trans hsqA, hP3, S⟩, by simp only; omega⟩
  rintro gg ⟨s, t, sf, n⟩ w ⟨hsq, hP, S⟩
  simp only [setL] at hsq hP S ⊢
  have hsv : s.v = s0.v := by simp only [Sh.v, hsq]
  have hle := hP.le
  have hmt := sh_mount s adp capp picks hP.std.ok hP.wf hcp (by omega)
  rw [hsv] at hmt
  obtain ⟨hok2, hq2, W, t2, hsW, hWn, hsc⟩ := pre_mount hdk hP (by omega) picks
  obtain ⟨u, hu⟩ : ∃ u, mountW s picks = u := ⟨_, rfl⟩
  rw [hu] at hmt hok2 hq2 hsc
  have huv : u.v = s0.v := by simp only [Sh.v, hq2, hsq]
  have hscw := w_scan u 0 zT hok2
  rw [hsc, huv] at hscw
  have elen : (l.take W).length = W := by simp; omega
  simp only [elen] at hscw
  (repeat (first|(with_reducible first|refine Ja ?_|refine Jb ?_|refine Jc ?_|refine Jd ?_|refine Je ?_|refine Jf ?_|refine Jg ?_|refine Jh ?_|refine Ji ?_|refine Jj ?_|refine Jk rfl ?_|refine Jl ?_|refine Jm ?_|refine Jn ?_|refine Jo ?_|refine Jp ?_|refine Jq ?_)|refine JA rfl ?_|refine JB rfl ?_|refine JC rfl ?_|refine JD rfl ?_|refine JE rfl ?_|refine JF rfl ?_|refine JG rfl ?_|refine JH rfl ?_|refine JI rfl ?_|refine J2 rfl ?_|refine J3 rfl ?_|refine J4 rfl ?_|refine J1 rfl ?_|refine J6 rfl ?_|refine J7 rfl ?_|refine JJ rfl ?_|refine JK rfl ?_|refine JQ rfl ?_|refine JL rfl rfl ?_|refine JM rfl rfl ?_|refine JN rfl ?_|refine JO rfl ?_|refine JP rfl ?_))
  refine e_callF (L2 := [_]) (L1 := s.L) rfl hmt S (hFp.add (L2 := [_]) S) ?_
  rintro _ _ w rfl S
  (repeat (first|(with_reducible first|refine Ja ?_|refine Jb ?_|refine Jc ?_|refine Jd ?_|refine Je ?_|refine Jf ?_|refine Jg ?_|refine Jh ?_|refine Ji ?_|refine Jj ?_|refine Jk rfl ?_|refine Jl ?_|refine Jm ?_|refine Jn ?_|refine Jo ?_|refine Jp ?_|refine Jq ?_)|refine JA rfl ?_|refine JB rfl ?_|refine JC rfl ?_|refine JD rfl ?_|refine JE rfl ?_|refine JF rfl ?_|refine JG rfl ?_|refine JH rfl ?_|refine JI rfl ?_|refine J2 rfl ?_|refine J3 rfl ?_|refine J4 rfl ?_|refine J1 rfl ?_|refine J6 rfl ?_|refine J7 rfl ?_|refine JJ rfl ?_|refine JK rfl ?_|refine JQ rfl ?_|refine JL rfl rfl ?_|refine JM rfl rfl ?_|refine JN rfl ?_|refine JO rfl ?_|refine JP rfl ?_))
  refine e_call (L2 := [_]) rfl hscw S ?_
  rintro _ _ w ⟨ado, capo, Lo, rfl, rfl, hOo⟩ S
  refine e_mvT rfl ?_
  refine e_p (v := .slice ado W capo) rfl ?_
  refine e_p (v := .agg ⟨t2.v⟩) rfl ?_
  refine e_p (v := .int .i64 0) rfl ?_
  refine e_nwE S (cs' := zT.v) rfl fun b14 w S => ?_
  refine e_mvL rfl ?_
  refine e_st (vs := t2.v) S 0 rfl rfl rfl rfl (by simp [Tl.v, Value.flat]) (by simp [zT, Tl.v]) fun w S => ?_
  refine e_mvI rfl ?_
  replace S : Dn.Sep w ((b14, .cells ⟨t2.v⟩ 31) :: (bt, .cells ⟨t.v⟩ 31) :: (u.L ++ Lo)) F := S
  (repeat (with_reducible first|refine Ja ?_|refine Jb ?_|refine Jc ?_|refine Jd ?_|refine Je ?_|refine Jf ?_|refine Jg ?_|refine Jh ?_|refine Ji ?_|refine Jj ?_|refine Jk rfl ?_|refine Jl ?_|refine Jm ?_|refine Jn ?_|refine Jo ?_|refine Jp ?_|refine Jq ?_))
  refine e_callP rfl l_sanity S fun w S => ?_
  refine e_mvB rfl ?_
  refine e_gdT rfl ?_
  refine e_mvI rfl ?_
  refine e_gdT rfl ?_
  refine e_p (v := .bool true) rfl ?_
  refine e_pkTB rfl rfl ?_
  refine e_mvB rfl ?_
  refine e_gdT rfl ?_
  refine e_mvL rfl ?_
  refine e_gdT rfl ?_
  refine e_p (v := .int .i64 (W : Int)) rfl ?_
  refine e_gdT rfl ?_
  refine e_mvI rfl ?_
  refine e_gdT rfl ?_
  refine e_p (v := .bool (decide ((sf : Int) ≤ (W : Int)))) rfl ?_
  rw [decide_eq_true (show (sf : Int) ≤ (W : Int) by omega)]
  refine e_pkTB rfl rfl ?_
  refine e_mvB rfl ?_
  refine e_gdT rfl ?_
  refine e_mvL rfl ?_
  refine e_gdT rfl ?_
  refine e_p (v := .int .i64 (W : Int)) rfl ?_
  refine e_gdT rfl ?_
  refine e_mvI rfl ?_
  refine e_gdT rfl ?_
  refine e_p (v := .bool (decide ((W : Int) ≤ (n : Int)))) rfl ?_
  rw [decide_eq_true (show (W : Int) ≤ (n : Int) by omega)]
  refine e_pkTB rfl rfl ?_
  refine e_mvB rfl ?_
  refine e_gdT rfl ?_
  refine e_mvL rfl ?_
  refine e_gdT rfl ?_
  refine e_mvL rfl ?_
  refine e_gdT rfl ?_
  refine e_mvL rfl ?_
  refine e_gdT rfl ?_
  refine e_p (v := .int .i64 (W : Int)) rfl ?_
  refine e_gdT rfl ?_
  refine e_sll (a := 0) (b := W) rfl (bnd_s rfl rfl (by omega)) rfl ?_
  refine e_gdT rfl ?_
  have hsame := l_same ado (if cap = 0 then ad else ad.map (·.add (0 * 1))) capo (cap - 0) (l.take W) (l.take W) (by omega)
  rw [elen] at hsame
  refine e_callFN rfl hsame S ?_ ?_
  · obtain ⟨ZZ, hZZ⟩ : ∃ ZZ, ((b14, Obj.cells ⟨t2.v⟩ 31) :: (bt, .cells ⟨t.v⟩ 31) :: (u.L ++ Lo)) = ZZ := ⟨_, rfl⟩
    have m1 : ∀ x ∈ Lo, x ∈ ZZ := by intro x hx; rw [← hZZ]; simp [hx]
    rw [hZZ] at S ⊢
    have S' : Dn.Sep w (ZZ ++ []) F := by simpa using S
    refine ⟨OwnS.fsl hOo S' m1, ?_⟩
    have h9 := (hF.add (L2 := ZZ) S').drop 0 cap
    rcases h9 with h9 | ⟨_, h9⟩
    · have h10 := FSl_take h9 W
      rw [List.drop_zero] at h10
      have e : (l.map strV).take W = (l.take W).map strV := by rw [← List.map_take]
      rw [e] at h10
      exact h10
    · exact absurd rfl h9
  rintro _ _ w ⟨rfl, rfl⟩ S
  rw [decide_eq_true rfl]
  (repeat (first|(with_reducible first|refine Ja ?_|refine Jb ?_|refine Jc ?_|refine Jd ?_|refine Je ?_|refine Jf ?_|refine Jg ?_|refine Jh ?_|refine Ji ?_|refine Jj ?_|refine Jk rfl ?_|refine Jl ?_|refine Jm ?_|refine Jn ?_|refine Jo ?_|refine Jp ?_|refine Jq ?_)|refine JA rfl ?_|refine JB rfl ?_|refine JC rfl ?_|refine JD rfl ?_|refine JE rfl ?_|refine JF rfl ?_|refine JG rfl ?_|refine JH rfl ?_|refine JI rfl ?_|refine J2 rfl ?_|refine J3 rfl ?_|refine J4 rfl ?_|refine J1 rfl ?_|refine J6 rfl ?_|refine J7 rfl ?_|refine JJ rfl ?_|refine JK rfl ?_|refine JQ rfl ?_|refine JL rfl rfl ?_|refine JM rfl rfl ?_|refine JN rfl ?_|refine JO rfl ?_|refine JP rfl ?_))
  exact f_ret rfl rfl (hQ _ _ _ rfl S)

end Go.Proofs.Ytgendpinmmmfjaa

/- The law WalCrash holds of every input: the call returns true and leaves its arguments as they were. -/
namespace Go.Proofs.Ytgendpinmmmfjaa.walCrash
open Go.ChangeShapes Go.WideShapes Go.ChangeAt Go.RowKit
open Go.ChangeMaps (open_string shut_string)
set_option maxRecDepth 100000
theorem own : ownKnob Try.prog.godebug = none := by kernel_rfl
theorem laidOut : laidOutB Try.prog = true := by kernel_rfl
theorem lifted (os : Os) (started : os.Started) (H : Type) (enc : TypeId × Value → H) :
    ReturnsInHanded {} Try.checked os 8 .any (Rows.walCrashSpec.pre6 enc Try.prog Try.f8 Rows.walCrashRow.domain false) (Rows.walCrashSpec.post enc Try.prog Try.f8 false true false false) := by
  refine returnsInHanded_of_change_sized (C := Try.checked) own started (by kernel_rfl) Try.func8
    (ChangeSpec.witness6 (enc := enc) (C := Try.checked) false ⟨#[], #[.int .i64 0, .slice none 0 0, .slice none 0 0, .int .i64 0, .slice none 0 0], []⟩ 8 (by kernel_rfl) (by kernel_rfl) (by kernel_rfl) (by kernel_rfl)) ?_
  intro W base args ds gs before hval0 hW hcnd hsz0 _
  have hsz : (DataW.weightsEach Try.prog (Try.f8.params.toList ++ Rows.walCrashSpec.plain.varTypes Try.prog) (ds ++ gs)).all (· ≤ reachBytes) = true := hsz0
  have hval : ∀ (j : Nat) t v, Try.f8.params[j]? = some t → args[j]? = some v → Value.okWide Try.prog W .any base t v := hval0
  have hW' := hW
  obtain ⟨p, q, hA0, hV, rfl, hfz, hnd⟩ := hW
  have hA : DataW.TrodAll enc Try.prog W 0 (fun _ => true) true Try.f8.params.toList args.toList ds p := hA0
  rw [Try.params8] at hA hval hsz
  obtain ⟨v0, vs0, d0, ds0, p0, q0, hargs, rfl, rfl, h0, r0⟩ := trodAll_cons hA
  obtain ⟨v1, vs1, d1, ds1, p1, q1, rfl, rfl, rfl, h1, r1⟩ := trodAll_cons r0
  obtain ⟨v2, vs2, d2, ds2, p2, q2, rfl, rfl, rfl, h2, r2⟩ := trodAll_cons r1
  obtain ⟨v3, vs3, d3, ds3, p3, q3, rfl, rfl, rfl, h3, r3⟩ := trodAll_cons r2
  obtain ⟨v4, vs4, d4, ds4, p4, q4, rfl, rfl, rfl, h4, r4⟩ := trodAll_cons r3
  obtain ⟨rfl, rfl, rfl⟩ := trodAll_nil r4
  obtain rfl : args = #[v0, v1, v2, v3, v4] := by cases args; simp_all
  obtain ⟨rfl, rfl⟩ := trodVars_none hV
  obtain ⟨a0, rfl, rfl, rfl, w0⟩ := open_int Try.underlying3 (hval 0 3 v0 rfl rfl) h0
  obtain ⟨a1, len1, cap1, rfl⟩ := okWide_slice Try.underlying22 (hval 1 22 v1 rfl rfl)
  have k1 := h1
  have lt1 : ∀ x ∈ p1, x.block < W.heap.size := by obtain ⟨m, hm⟩ := k1; exact DataW.trod_lt m _ _ _ hm
  have cp1 := Dn.open_capF Try.underlying22 h1
  obtain ⟨l1, rfl, y1, z1, F1⟩ := Dn.open_strsF Try.underlying22 Try.underlying9 (by kernel_rfl) (by kernel_rfl) h1 hsz (j := 1) rfl rfl
  obtain ⟨a2, len2, cap2, rfl⟩ := okWide_slice Try.underlying48 (hval 2 48 v2 rfl rfl)
  have k2 := h2
  have lt2 : ∀ x ∈ p2, x.block < W.heap.size := by obtain ⟨m, hm⟩ := k2; exact DataW.trod_lt m _ _ _ hm
  have cp2 := Dn.open_capF Try.underlying48 h2
  obtain ⟨l2, rfl, y2, z2, F2⟩ := Dn.open_boolsF Try.underlying48 Try.underlying4 (by kernel_rfl) (by kernel_rfl) h2 hsz (j := 2) rfl rfl
  obtain ⟨a3, rfl, rfl, rfl, w3⟩ := open_int Try.underlying3 (hval 3 3 v3 rfl rfl) h3
  obtain ⟨a4, len4, cap4, rfl⟩ := okWide_slice Try.underlying49 (hval 4 49 v4 rfl rfl)
  have k4 := h4
  have lt4 : ∀ x ∈ p4, x.block < W.heap.size := by obtain ⟨m, hm⟩ := k4; exact DataW.trod_lt m _ _ _ hm
  have cp4 := Dn.open_capF Try.underlying49 h4
  obtain ⟨l4, rfl, y4, z4, F4⟩ := Dn.open_intsF Try.underlying49 Try.underlying3 (by kernel_rfl) (by kernel_rfl) h4 hsz (j := 4) rfl rfl
  clear hA0 hval0 hsz0 hsz
  refine Calls.mono (Dn.calls_of (W := W) (law_crash a0 a1 cap1 l1 a2 cap2 l2 a3 a4 cap4 l4 (Dn.int_rng w0).1 (by omega) cp1 (fun r hr => by have := z1 r hr; omega) (by omega) (Dn.int_rng w3).2 (by omega) y4) ⟨F1, F2, F4⟩) fun e W' ⟨he, bel⟩ => ?_
  subst he
  exact ⟨_, rfl, _, _, _, [], _, [], hW', trodAll_mk1 (shut_bool Try.underlying4 _), (trodAll_cons_mk (shut_int Try.underlying3 w0) (trodAll_cons_mk (Below.trod laidOut (by kernel_rfl) (of_decide_eq_true (by kernel_rfl)) k1 bel lt1) (trodAll_cons_mk (Below.trod laidOut (by kernel_rfl) (of_decide_eq_true (by kernel_rfl)) k2 bel lt2) (trodAll_cons_mk (shut_int Try.underlying3 w3) (trodAll_cons_mk (Below.trod laidOut (by kernel_rfl) (of_decide_eq_true (by kernel_rfl)) k4 bel lt4) trodAll_mk0))))), rfl, bel.frame _, fun h => by cases h⟩
theorem over : Rows.walCrashRow.holds Try.pinned (OpenSpec.ofChange Rows.walCrashSpec) :=
  OpenClaim.holds_of_wide 8 Try.f8 rfl rfl rfl rfl rfl rfl rfl ⟨rfl, rfl, rfl, rfl, rfl⟩ rfl rfl rfl rfl rfl (by kernel_rfl) Try.func8 (by kernel_rfl)
    (of_decide_eq_true (by kernel_rfl)) (by unfold Func.isWrapper; first | (rw [if_pos (by decide +kernel)]; kernel_rfl) | (rw [if_neg (by decide +kernel)]; exact ⟨rfl, rfl⟩))
    (fun os started H enc _ => lifted os started H enc)
theorem proved : Rows.WalCrashSaid := over
end Go.Proofs.Ytgendpinmmmfjaa.walCrash
namespace Go.Proofs.Ytgendpinmmmfjaa
/-- The row, under a short name, for the claim. -/
theorem walCrash_holds : Rows.WalCrashSaid := walCrash.proved
#print axioms walCrash_holds
end Go.Proofs.Ytgendpinmmmfjaa
