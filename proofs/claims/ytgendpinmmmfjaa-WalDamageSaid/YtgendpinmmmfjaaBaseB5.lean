/- Lemmas for a proof in several parts. -/
import Derived.Test.YtgendpinmmmfjaaBaseB4
set_option linter.unusedVariables false
set_option linter.unusedSimpArgs false
/-
  The walk of the laws' log.
-/
namespace Dn
open Go

/-- Records appended one after the other, till one is refused: the shelf, the tails, the records that fitted. -/
def logRun : List Sec → Nat → Sh → Tl → List Tl → List Sec → Sh × List Tl × List Sec
  | [], _, s, _, ts, ins => (s, ts, ins)
  | r :: l, i, s, t, ts, ins =>
    if (appendW s 0 t ⟨1, (i : Int) + 1⟩ r).2.1 ≠ 0 then ((appendW s 0 t ⟨1, (i : Int) + 1⟩ r).2.2, ts, ins)
    else logRun l (i + 1) (appendW s 0 t ⟨1, (i : Int) + 1⟩ r).2.2 (appendW s 0 t ⟨1, (i : Int) + 1⟩ r).1 (ts ++ [(appendW s 0 t ⟨1, (i : Int) + 1⟩ r).1]) (ins ++ [r])

theorem appW_okk {d : Int} {t : Tl} {g : Gn} {r : Sec} (hw : ∀ (s : Sh), s.ok → ∀ p b, (s.wrS p b).ok ∧ (s.wrS p b).cfg = s.cfg ∧ (s.wrS p b).q = s.q) : ∀ (k i : Nat) (s : Sh), s.ok → (appW d t g r k i s).2.ok ∧ (appW d t g r k i s).2.cfg = s.cfg ∧ (appW d t g r k i s).2.q = s.q := by
  intro k
  induction k with
  | zero => intro i s h; exact ⟨h, rfl, rfl⟩
  | succ k ih =>
    intro i s h
    obtain ⟨h1, h2, h3⟩ := hw s h (plW d (t.next + i)) (sealS (plW d (t.next + i)) g (payB t r i))
    simp only [appW]
    split
    · obtain ⟨k1, k2, k3⟩ := ih (i + 1) _ h1
      exact ⟨k1, k2.trans h2, k3.trans h3⟩
    · exact ⟨h1, h2, h3⟩
end Dn
namespace Go.Proofs.Ytgendpinmmmfjaa
open Dn
attribute [local irreducible] Evs Ev EvT DSpec PSpec CallTo
set_option maxRecDepth 10000
set_option maxHeartbeats 2000000

theorem append_ok {s : Sh} (h : s.ok) (d : Int) (t : Tl) (g : Gn) (r : Sec) : (appendW s d t g r).2.2.ok ∧ (appendW s d t g r).2.2.cfg = s.cfg ∧ (appendW s d t g r).2.2.q = s.q := by
  have := appW_okk (d := d) (t := t) (g := g) (r := r) (fun s h p b => wr_ok h p b) (sizeW r.length) 0 s h
  unfold appendW
  repeat' split
  all_goals first | exact ⟨h, rfl, rfl⟩ | exact this

theorem fresh_ok {s : Sh} {c : Cfg} (hc : c.ok) (h : ShFresh s c) : s.ok := by
  have ht : 0 ≤ c.total := by unfold Cfg.ok at hc; unfold Cfg.total; omega
  refine ⟨by rw [h.cfg]; exact hc, by rw [h.cfg]; exact h.len, by rw [h.fused]; simp, fun b hb => ?_, fun b hb => ?_⟩
  · obtain ⟨h1, h2, h3⟩ := (h.bay b hb).2
    refine ⟨fun x hx => ?_, fun e he => ?_⟩
    · rw [h1] at hx; rw [List.eq_of_mem_replicate hx]; rfl
    · rw [h2] at he; simp at he
  · obtain ⟨h1, h2, h3⟩ := (h.bay b hb).2
    rw [h1, h.cfg, List.length_replicate]; omega

def lawCfg (n : Int) : Cfg := ⟨2, 1, 1, 0, n + 3, 1⟩
theorem lawCfg_ok {n : Int} (h1 : 1 ≤ n) (h2 : n ≤ 40) : (lawCfg n).ok ∧ (lawCfg n).total ≤ 65536 := by
  unfold Cfg.ok lawCfg Cfg.total
  simp only
  refine ⟨⟨by omega, by omega, by omega, by omega, by omega, by omega, by decide⟩, by omega⟩

abbrev OwnTl (ad : Option Addr) (n cap : Nat) (l : List Tl) (Lb : List (Nat × Obj)) : Prop := OwnS 31 4 ad n cap (l.flatMap Tl.v) Lb

theorem rowM {w : World} {L : List (Nat × Obj)} {F : Fr} (S : Dn.Sep w L F) {b off ty n : Nat} {cs vs : List Value} {fr : Nat × Nat} (h : (b, .cells ⟨cs⟩ ty fr) ∈ L) (hn : off + n ≤ cs.length) (hv : (cs.drop off).take n = vs) : ldV (some n) (.pointer (some ⟨b, off, none⟩)) w = some (.agg ⟨vs⟩) := by
  simp only [ldV, rowOf_at S h hn hv]; rfl
theorem tl_len (t : Tl) : t.v.length = 4 := rfl
theorem tls_len (l : List Tl) : (l.flatMap Tl.v).length = l.length * 4 := by
  induction l with
  | nil => rfl
  | cons t l ih => simp [List.flatMap_cons, ih, tl_len]; omega
theorem tls_last (ts : List Tl) (t : Tl) (sp : List Value) : (((ts ++ [t]).flatMap Tl.v ++ sp).drop (ts.length * 4)).take 4 = t.v := by
  rw [List.flatMap_append, List.append_assoc, ← tls_len ts, List.drop_left]
  simp [Tl.v]
theorem logRun_cons {r : Sec} {l : List Sec} {i : Nat} {s : Sh} {t : Tl} {ts : List Tl} {ins : List Sec} : logRun (r :: l) i s t ts ins =
    if (appendW s 0 t ⟨1, (i : Int) + 1⟩ r).2.1 ≠ 0 then ((appendW s 0 t ⟨1, (i : Int) + 1⟩ r).2.2, ts, ins)
    else logRun l (i + 1) (appendW s 0 t ⟨1, (i : Int) + 1⟩ r).2.2 (appendW s 0 t ⟨1, (i : Int) + 1⟩ r).1 (ts ++ [(appendW s 0 t ⟨1, (i : Int) + 1⟩ r).1]) (ins ++ [r]) := rfl

theorem l_log (size : Int) (ad : Option Addr) (cap : Nat) (l : List Sec) (h1 : 1 ≤ size) (h2 : size ≤ 40) (hl : l.length ≤ 40) (hr : ∀ r ∈ l, r.length < 4611686018427387904) :
    DSpecF Try.prog 11 [.int .i64 size, .slice ad l.length cap] [] (fun F => FSl F ad (l.map strV))
      fun v L => ∃ s0 adt capt Lt adi capi Li, ShFresh s0 (lawCfg size) ∧ (logRun l 0 s0 zT [zT] []).1.v = s0.v ∧ v = .tuple ⟨[s0.v, .slice adt (logRun l 0 s0 zT [zT] []).2.1.length capt, .slice adi (logRun l 0 s0 zT [zT] []).2.2.length capi]⟩ ∧
        L = (logRun l 0 s0 zT [zT] []).1.L ++ (Lt ++ Li) ∧ OwnTl adt (logRun l 0 s0 zT [zT] []).2.1.length capt (logRun l 0 s0 zT [zT] []).2.1 Lt ∧ OwnT adi (logRun l 0 s0 zT [zT] []).2.2.length capi (logRun l 0 s0 zT [zT] []).2.2 Li := by
  refine specF_of mix Try.func11 c11_eq rfl rfl fun w F Q hF S hQ => ?_
  obtain ⟨hc, ht⟩ := lawCfg_ok h1 h2
  (repeat (first|(with_reducible first|refine Ja ?_|refine Jb ?_|refine Jc ?_|refine Jd ?_|refine Je ?_|refine Jf ?_|refine Jg ?_|refine Jh ?_|refine Ji ?_|refine Jj ?_|refine Jk rfl ?_|refine Jl ?_|refine Jm ?_|refine Jn ?_|refine Jo ?_|refine Jp ?_|refine Jq ?_)|refine JA rfl ?_|refine JB rfl ?_|refine JC rfl ?_|refine JD rfl ?_|refine JE rfl ?_|refine JF rfl ?_|refine JG rfl ?_|refine JH rfl ?_|refine JI rfl ?_|refine J2 rfl ?_|refine J3 rfl ?_|refine J4 rfl ?_|refine J1 rfl ?_|refine J6 rfl ?_|refine J7 rfl ?_|refine JJ rfl ?_|refine JK rfl ?_|refine JQ rfl ?_|refine JL rfl rfl ?_|refine JM rfl rfl ?_|refine JN rfl ?_|refine JO rfl ?_|refine JP rfl ?_))
  refine e_callP rfl (l_config size (by omega) (by omega)) S fun w S => ?_
  have hnew := sh_new (lawCfg size)
  refine e_callN rfl hnew S ?_
  rintro v L w hv S
  rw [if_pos hc, if_neg (by omega)] at hv
  obtain ⟨s0, rfl, rfl, hfr⟩ := hv
  replace S : Dn.Sep w s0.L F := S
  (repeat (first|(with_reducible first|refine Ja ?_|refine Jb ?_|refine Jc ?_|refine Jd ?_|refine Je ?_|refine Jf ?_|refine Jg ?_|refine Jh ?_|refine Ji ?_|refine Jj ?_|refine Jk rfl ?_|refine Jl ?_|refine Jm ?_|refine Jn ?_|refine Jo ?_|refine Jp ?_|refine Jq ?_)|refine JA rfl ?_|refine JB rfl ?_|refine JC rfl ?_|refine JD rfl ?_|refine JE rfl ?_|refine JF rfl ?_|refine JG rfl ?_|refine JH rfl ?_|refine JI rfl ?_|refine J2 rfl ?_|refine J3 rfl ?_|refine J4 rfl ?_|refine J1 rfl ?_|refine J6 rfl ?_|refine J7 rfl ?_|refine JJ rfl ?_|refine JK rfl ?_|refine JQ rfl ?_|refine JL rfl rfl ?_|refine JM rfl rfl ?_|refine JN rfl ?_|refine JO rfl ?_|refine JP rfl ?_))
  obtain ⟨RES, hRES⟩ : ∃ RES, logRun l 0 s0 zT [zT] [] = RES := ⟨_, rfl⟩
  refine e_bsl (size := 4) (xs := zT.v) S Try.underlying25 rfl rfl ⟨_, rfl⟩ (by omega) (by omega) (fun zs hz => (match zs, hz with | [a, b, c, e], _ => rfl)) fun bt w S => ?_
  have hO0 : OwnTl (some ⟨bt, 0, none⟩) 1 1 [zT] [(bt, .cells ⟨zT.v⟩ 31)] := OwnS.row (xs := [zT].flatMap Tl.v) rfl
  (repeat (first|(with_reducible first|refine Ja ?_|refine Jb ?_|refine Jc ?_|refine Jd ?_|refine Je ?_|refine Jf ?_|refine Jg ?_|refine Jh ?_|refine Ji ?_|refine Jj ?_|refine Jk rfl ?_|refine Jl ?_|refine Jm ?_|refine Jn ?_|refine Jo ?_|refine Jp ?_|refine Jq ?_)|refine JA rfl ?_|refine JB rfl ?_|refine JC rfl ?_|refine JD rfl ?_|refine JE rfl ?_|refine JF rfl ?_|refine JG rfl ?_|refine JH rfl ?_|refine JI rfl ?_|refine J2 rfl ?_|refine J3 rfl ?_|refine J4 rfl ?_|refine J1 rfl ?_|refine J6 rfl ?_|refine J7 rfl ?_|refine JJ rfl ?_|refine JK rfl ?_|refine JQ rfl ?_|refine JL rfl rfl ?_|refine JM rfl rfl ?_|refine JN rfl ?_|refine JO rfl ?_|refine JP rfl ?_))
  refine s_loop (σ := (Nat × Sh × Tl × List Tl × List Sec) × (Option Addr × Nat × List (Nat × Obj)) × (Option Addr × Nat × List (Nat × Obj)))
    (fun q => [(11, .int .i64 (q.1.1 : Int)), (1, .slice ad l.length cap), (7, s0.v), (9, .slice q.2.1.1 (q.1.2.2.2.1.length + 1) q.2.1.2.1), (10, .slice q.2.2.1 q.1.2.2.2.2.length q.2.2.2.1)])
    (fun q w => q.1.1 ≤ l.length ∧ q.1.2.1.ok ∧ q.1.2.1.q = s0.q ∧ logRun (l.drop q.1.1) q.1.1 q.1.2.1 q.1.2.2.1 (q.1.2.2.2.1 ++ [q.1.2.2.1]) q.1.2.2.2.2 = RES ∧ q.1.2.2.2.1.length = q.1.1 ∧ q.1.2.2.2.2.length = q.1.1 ∧
      OwnTl q.2.1.1 (q.1.2.2.2.1.length + 1) q.2.1.2.1 (q.1.2.2.2.1 ++ [q.1.2.2.1]) q.2.1.2.2 ∧ OwnT q.2.2.1 q.1.2.2.2.2.length q.2.2.2.1 q.1.2.2.2.2 q.2.2.2.2 ∧ Dn.Sep w (q.1.2.1.L ++ (q.2.1.2.2 ++ q.2.2.2.2)) F)
    (fun q => l.length - q.1.1) ((0, s0, zT, [], []), (some ⟨bt, 0, none⟩, 1, [(bt, .cells ⟨zT.v⟩ 31)]), (none, 0, []))
    ⟨rfl, rfl, rfl, rfl, rfl, trivial⟩ rfl ⟨by simp, fresh_ok hc hfr, rfl, hRES, rfl, rfl, hO0, OwnS.nil, by simpa using S⟩ ?_
  rintro gg ⟨⟨i, s, t, ts, ins⟩, ⟨adt, capt, Lt⟩, ⟨adi, capi, Li⟩⟩ w ⟨hi, hok, hsq, hres, hts, hins, hOt, hOi, S⟩
  simp only [setL] at hi hok hsq hres hts hins hOt hOi S ⊢
  have hsv : s.v = s0.v := by simp only [Sh.v, hsq]
  -- the end
  have fin : ∀ {w : World} {s' : Sh} {T : Rg}, s'.q = s0.q → T.ds = [] → T.f 4 = s0.v → T.f 5 = .slice adt (ts.length + 1) capt → T.f 6 = .slice adi ins.length capi → RES = (s', ts ++ [t], ins) → Dn.Sep w (s'.L ++ (Lt ++ Li)) F →
      finK [.t (.r 4), .t (.r 5), .t (.r 6)] Q .r T w := by
    intro w s' T hq hd e4 e5 e6 hR S
    have el : (ts ++ [t]).length = ts.length + 1 := by simp
    refine f_ret (vs := [s0.v, .slice adt (ts.length + 1) capt, .slice adi ins.length capi]) hd (rvs3 (congrArg some e4) (congrArg some e5) (congrArg some e6)) (hQ _ _ _ ⟨s0, adt, capt, Lt, adi, capi, Li, hfr, ?_, ?_, ?_, ?_, ?_⟩ S)
    · rw [hRES, hR]; simp only [Sh.v, hq]
    · rw [hRES, hR]; simp only [el]; rfl
    · rw [hRES, hR]
    · rw [hRES, hR]; simp only [el]; exact hOt
    · rw [hRES, hR]; exact hOi
  (repeat (first|(with_reducible first|refine Ja ?_|refine Jb ?_|refine Jc ?_|refine Jd ?_|refine Je ?_|refine Jf ?_|refine Jg ?_|refine Jh ?_|refine Ji ?_|refine Jj ?_|refine Jk rfl ?_|refine Jl ?_|refine Jm ?_|refine Jn ?_|refine Jo ?_|refine Jp ?_|refine Jq ?_)|refine JA rfl ?_|refine JB rfl ?_|refine JC rfl ?_|refine JD rfl ?_|refine JE rfl ?_|refine JF rfl ?_|refine JG rfl ?_|refine JH rfl ?_|refine JI rfl ?_|refine J2 rfl ?_|refine J3 rfl ?_|refine J4 rfl ?_|refine J1 rfl ?_|refine J6 rfl ?_|refine J7 rfl ?_|refine JJ rfl ?_|refine JK rfl ?_|refine JQ rfl ?_|refine JL rfl rfl ?_|refine JM rfl rfl ?_|refine JN rfl ?_|refine JO rfl ?_|refine JP rfl ?_))
  refine s_iteD rfl (fun h => ?_) (fun h => ?_)
  rotate_left
  · have hi' : i = l.length := by omega
    rw [hi', List.drop_length] at hres
    (repeat (first|(with_reducible first|refine Ja ?_|refine Jb ?_|refine Jc ?_|refine Jd ?_|refine Je ?_|refine Jf ?_|refine Jg ?_|refine Jh ?_|refine Ji ?_|refine Jj ?_|refine Jk rfl ?_|refine Jl ?_|refine Jm ?_|refine Jn ?_|refine Jo ?_|refine Jp ?_|refine Jq ?_)|refine JA rfl ?_|refine JB rfl ?_|refine JC rfl ?_|refine JD rfl ?_|refine JE rfl ?_|refine JF rfl ?_|refine JG rfl ?_|refine JH rfl ?_|refine JI rfl ?_|refine J2 rfl ?_|refine J3 rfl ?_|refine J4 rfl ?_|refine J1 rfl ?_|refine J6 rfl ?_|refine J7 rfl ?_|refine JJ rfl ?_|refine JK rfl ?_|refine JQ rfl ?_|refine JL rfl rfl ?_|refine JM rfl rfl ?_|refine JN rfl ?_|refine JO rfl ?_|refine JP rfl ?_))
    exact fin (s' := s) hsq rfl rfl rfl rfl hres.symm S
  have hi' : i < l.length := by omega
  rw [List.drop_eq_getElem_cons hi', logRun_cons] at hres
  obtain ⟨A, hA⟩ : ∃ A, appendW s 0 t ⟨1, (i : Int) + 1⟩ l[i] = A := ⟨_, rfl⟩
  have hap := w_append s 0 t ⟨1, (i : Int) + 1⟩ l[i] hok (hr _ (List.getElem_mem _))
  obtain ⟨k1, k2, k3⟩ := append_ok hok 0 t ⟨1, (i : Int) + 1⟩ l[i]
  rw [hA] at hres hap k1 k2 k3
  rw [hsv] at hap
  rcases hOt.own with ⟨_, hcp, _⟩ | ⟨bt, sp, lo, hi0, rfl, hsp, hfr0, rfl⟩
  · have := hOt.le; omega
  obtain ⟨ba, off, rfl, hcell⟩ := hF i _ (strV_get hi')
  (repeat (with_reducible first|refine Ja ?_|refine Jb ?_|refine Jc ?_|refine Jd ?_|refine Je ?_|refine Jf ?_|refine Jg ?_|refine Jh ?_|refine Ji ?_|refine Jj ?_|refine Jk rfl ?_|refine Jl ?_|refine Jm ?_|refine Jn ?_|refine Jo ?_|refine Jp ?_|refine Jq ?_))
  replace S := S.drew
  (repeat (first|(with_reducible first|refine Ja ?_|refine Jb ?_|refine Jc ?_|refine Jd ?_|refine Je ?_|refine Jf ?_|refine Jg ?_|refine Jh ?_|refine Ji ?_|refine Jj ?_|refine Jk rfl ?_|refine Jl ?_|refine Jm ?_|refine Jn ?_|refine Jo ?_|refine Jp ?_|refine Jq ?_)|refine JA rfl ?_|refine JB rfl ?_|refine JC rfl ?_|refine JD rfl ?_|refine JE rfl ?_|refine JF rfl ?_|refine JG rfl ?_|refine JH rfl ?_|refine JI rfl ?_|refine J2 rfl ?_|refine J3 rfl ?_|refine J4 rfl ?_|refine J1 rfl ?_|refine J6 rfl ?_|refine J7 rfl ?_|refine JJ rfl ?_|refine JK rfl ?_|refine JQ rfl ?_|refine JL rfl rfl ?_|refine JM rfl rfl ?_|refine JN rfl ?_|refine JO rfl ?_|refine JP rfl ?_))
  refine e_sub (a := (ts.length : Int) + 1) (b := 1) rfl rfl (by omega) (by omega) ?_
  (repeat (first|(with_reducible first|refine Ja ?_|refine Jb ?_|refine Jc ?_|refine Jd ?_|refine Je ?_|refine Jf ?_|refine Jg ?_|refine Jh ?_|refine Ji ?_|refine Jj ?_|refine Jk rfl ?_|refine Jl ?_|refine Jm ?_|refine Jn ?_|refine Jo ?_|refine Jp ?_|refine Jq ?_)|refine JA rfl ?_|refine JB rfl ?_|refine JC rfl ?_|refine JD rfl ?_|refine JE rfl ?_|refine JF rfl ?_|refine JG rfl ?_|refine JH rfl ?_|refine JI rfl ?_|refine J2 rfl ?_|refine J3 rfl ?_|refine J4 rfl ?_|refine J1 rfl ?_|refine J6 rfl ?_|refine J7 rfl ?_|refine JJ rfl ?_|refine JK rfl ?_|refine JQ rfl ?_|refine JL rfl rfl ?_|refine JM rfl rfl ?_|refine JN rfl ?_|refine JO rfl ?_|refine JP rfl ?_))
  refine e_ixa rfl rfl (by omega) (by omega) ?_
  have eoff : 0 + ((ts.length : Int) + 1 - 1).toNat * 4 = ts.length * 4 := by omega
  rw [eoff]
  (repeat (first|(with_reducible first|refine Ja ?_|refine Jb ?_|refine Jc ?_|refine Jd ?_|refine Je ?_|refine Jf ?_|refine Jg ?_|refine Jh ?_|refine Ji ?_|refine Jj ?_|refine Jk rfl ?_|refine Jl ?_|refine Jm ?_|refine Jn ?_|refine Jo ?_|refine Jp ?_|refine Jq ?_)|refine JA rfl ?_|refine JB rfl ?_|refine JC rfl ?_|refine JD rfl ?_|refine JE rfl ?_|refine JF rfl ?_|refine JG rfl ?_|refine JH rfl ?_|refine JI rfl ?_|refine J2 rfl ?_|refine J3 rfl ?_|refine J4 rfl ?_|refine J1 rfl ?_|refine J6 rfl ?_|refine J7 rfl ?_|refine JJ rfl ?_|refine JK rfl ?_|refine JQ rfl ?_|refine JL rfl rfl ?_|refine JM rfl rfl ?_|refine JN rfl ?_|refine JO rfl ?_|refine JP rfl ?_))
  refine e_ld (v := .agg ⟨t.v⟩) (rowM S (ty := 31) (fr := (lo, hi0)) (cs := (ts ++ [t]).flatMap Tl.v ++ sp) (by simp) (by rw [List.length_append, tls_len]; simp; omega) (tls_last ts t sp)) ?_
  (repeat (first|(with_reducible first|refine Ja ?_|refine Jb ?_|refine Jc ?_|refine Jd ?_|refine Je ?_|refine Jf ?_|refine Jg ?_|refine Jh ?_|refine Ji ?_|refine Jj ?_|refine Jk rfl ?_|refine Jl ?_|refine Jm ?_|refine Jn ?_|refine Jo ?_|refine Jp ?_|refine Jq ?_)|refine JA rfl ?_|refine JB rfl ?_|refine JC rfl ?_|refine JD rfl ?_|refine JE rfl ?_|refine JF rfl ?_|refine JG rfl ?_|refine JH rfl ?_|refine JI rfl ?_|refine J2 rfl ?_|refine J3 rfl ?_|refine J4 rfl ?_|refine J1 rfl ?_|refine J6 rfl ?_|refine J7 rfl ?_|refine JJ rfl ?_|refine JK rfl ?_|refine JQ rfl ?_|refine JL rfl rfl ?_|refine JM rfl rfl ?_|refine JN rfl ?_|refine JO rfl ?_|refine JP rfl ?_))
  refine e_add (a := (i : Int)) (b := 1) rfl rfl (by omega) (by omega) ?_
  (repeat (first|(with_reducible first|refine Ja ?_|refine Jb ?_|refine Jc ?_|refine Jd ?_|refine Je ?_|refine Jf ?_|refine Jg ?_|refine Jh ?_|refine Ji ?_|refine Jj ?_|refine Jk rfl ?_|refine Jl ?_|refine Jm ?_|refine Jn ?_|refine Jo ?_|refine Jp ?_|refine Jq ?_)|refine JA rfl ?_|refine JB rfl ?_|refine JC rfl ?_|refine JD rfl ?_|refine JE rfl ?_|refine JF rfl ?_|refine JG rfl ?_|refine JH rfl ?_|refine JI rfl ?_|refine J2 rfl ?_|refine J3 rfl ?_|refine J4 rfl ?_|refine J1 rfl ?_|refine J6 rfl ?_|refine J7 rfl ?_|refine JJ rfl ?_|refine JK rfl ?_|refine JQ rfl ?_|refine JL rfl rfl ?_|refine JM rfl rfl ?_|refine JN rfl ?_|refine JO rfl ?_|refine JP rfl ?_))
  refine e_ixa rfl rfl (by omega) (by omega) ?_
  rw [show off + (i : Int).toNat * 1 = off + i by omega]
  (repeat (first|(with_reducible first|refine Ja ?_|refine Jb ?_|refine Jc ?_|refine Jd ?_|refine Je ?_|refine Jf ?_|refine Jg ?_|refine Jh ?_|refine Ji ?_|refine Jj ?_|refine Jk rfl ?_|refine Jl ?_|refine Jm ?_|refine Jn ?_|refine Jo ?_|refine Jp ?_|refine Jq ?_)|refine JA rfl ?_|refine JB rfl ?_|refine JC rfl ?_|refine JD rfl ?_|refine JE rfl ?_|refine JF rfl ?_|refine JG rfl ?_|refine JH rfl ?_|refine JI rfl ?_|refine J2 rfl ?_|refine J3 rfl ?_|refine J4 rfl ?_|refine J1 rfl ?_|refine J6 rfl ?_|refine J7 rfl ?_|refine JJ rfl ?_|refine JK rfl ?_|refine JQ rfl ?_|refine JL rfl rfl ?_|refine JM rfl rfl ?_|refine JN rfl ?_|refine JO rfl ?_|refine JP rfl ?_))
  refine e_ld (v := strV l[i]) (S.fc hcell) ?_
  have hgen : ([.int .i64 1, .int .i64 ((i : Int) + 1)] : List Value) = (⟨1, (i : Int) + 1⟩ : Gn).v := rfl
  have hLt : ∀ {w : World}, Dn.Sep w (s.L ++ ([(bt, Obj.cells ⟨(ts ++ [t]).flatMap Tl.v ++ sp⟩ 31 (lo, hi0))] ++ Li)) F → Dn.Sep w (([(bt, Obj.cells ⟨(ts ++ [t]).flatMap Tl.v ++ sp⟩ 31 (lo, hi0))] ++ Li) ++ s.L) F := fun S => S.perm List.perm_append_comm
  (repeat (with_reducible first|refine Ja ?_|refine Jb ?_|refine Jc ?_|refine Jd ?_|refine Je ?_|refine Jf ?_|refine Jg ?_|refine Jh ?_|refine Ji ?_|refine Jj ?_|refine Jk rfl ?_|refine Jl ?_|refine Jm ?_|refine Jn ?_|refine Jo ?_|refine Jp ?_|refine Jq ?_))
  refine t_alt ?_ ?_
  all_goals
    (repeat (with_reducible first|refine Ja ?_|refine Jb ?_|refine Jc ?_|refine Jd ?_|refine Je ?_|refine Jf ?_|refine Jg ?_|refine Jh ?_|refine Ji ?_|refine Jj ?_|refine Jk rfl ?_|refine Jl ?_|refine Jm ?_|refine Jn ?_|refine Jo ?_|refine Jp ?_|refine Jq ?_))
    first
      | (refine e_call (L2 := _ ++ Li) rfl hap (hLt S) ?_
         rintro _ _ w ⟨rfl, rfl⟩ S
         (repeat (with_reducible first|refine Ja ?_|refine Jb ?_|refine Jc ?_|refine Jd ?_|refine Je ?_|refine Jf ?_|refine Jg ?_|refine Jh ?_|refine Ji ?_|refine Jj ?_|refine Jk rfl ?_|refine Jl ?_|refine Jm ?_|refine Jn ?_|refine Jo ?_|refine Jp ?_|refine Jq ?_))
         refine e_mvT rfl ?_
         (repeat (with_reducible first|refine Ja ?_|refine Jb ?_|refine Jc ?_|refine Jd ?_|refine Je ?_|refine Jf ?_|refine Jg ?_|refine Jh ?_|refine Ji ?_|refine Jj ?_|refine Jk rfl ?_|refine Jl ?_|refine Jm ?_|refine Jn ?_|refine Jo ?_|refine Jp ?_|refine Jq ?_))
         refine e_p (v := .agg ⟨A.1.v⟩) rfl ?_
         (repeat (with_reducible first|refine Ja ?_|refine Jb ?_|refine Jc ?_|refine Jd ?_|refine Je ?_|refine Jf ?_|refine Jg ?_|refine Jh ?_|refine Ji ?_|refine Jj ?_|refine Jk rfl ?_|refine Jl ?_|refine Jm ?_|refine Jn ?_|refine Jo ?_|refine Jp ?_|refine Jq ?_))
         refine e_p (v := .int .i64 A.2.1) rfl ?_
         (repeat (with_reducible first|refine Ja ?_|refine Jb ?_|refine Jc ?_|refine Jd ?_|refine Je ?_|refine Jf ?_|refine Jg ?_|refine Jh ?_|refine Ji ?_|refine Jj ?_|refine Jk rfl ?_|refine Jl ?_|refine Jm ?_|refine Jn ?_|refine Jo ?_|refine Jp ?_|refine Jq ?_))
         refine e_nwE S (cs' := zT.v) rfl fun b12 w S => ?_)
      | (refine e_nwE (hLt S) (cs' := zT.v) rfl fun b12 w S => ?_
         (repeat (with_reducible first|refine Ja ?_|refine Jb ?_|refine Jc ?_|refine Jd ?_|refine Je ?_|refine Jf ?_|refine Jg ?_|refine Jh ?_|refine Ji ?_|refine Jj ?_|refine Jk rfl ?_|refine Jl ?_|refine Jm ?_|refine Jn ?_|refine Jo ?_|refine Jp ?_|refine Jq ?_))
         refine e_call (L2 := (b12, _) :: (_ ++ Li)) rfl hap S ?_
         rintro _ _ w ⟨rfl, rfl⟩ S
         (repeat (with_reducible first|refine Ja ?_|refine Jb ?_|refine Jc ?_|refine Jd ?_|refine Je ?_|refine Jf ?_|refine Jg ?_|refine Jh ?_|refine Ji ?_|refine Jj ?_|refine Jk rfl ?_|refine Jl ?_|refine Jm ?_|refine Jn ?_|refine Jo ?_|refine Jp ?_|refine Jq ?_))
         refine e_mvT rfl ?_
         (repeat (with_reducible first|refine Ja ?_|refine Jb ?_|refine Jc ?_|refine Jd ?_|refine Je ?_|refine Jf ?_|refine Jg ?_|refine Jh ?_|refine Ji ?_|refine Jj ?_|refine Jk rfl ?_|refine Jl ?_|refine Jm ?_|refine Jn ?_|refine Jo ?_|refine Jp ?_|refine Jq ?_))
         refine e_p (v := .agg ⟨A.1.v⟩) rfl ?_
         (repeat (with_reducible first|refine Ja ?_|refine Jb ?_|refine Jc ?_|refine Jd ?_|refine Je ?_|refine Jf ?_|refine Jg ?_|refine Jh ?_|refine Ji ?_|refine Jj ?_|refine Jk rfl ?_|refine Jl ?_|refine Jm ?_|refine Jn ?_|refine Jo ?_|refine Jp ?_|refine Jq ?_))
         refine e_p (v := .int .i64 A.2.1) rfl ?_)
    (repeat (with_reducible first|refine Ja ?_|refine Jb ?_|refine Jc ?_|refine Jd ?_|refine Je ?_|refine Jf ?_|refine Jg ?_|refine Jh ?_|refine Ji ?_|refine Jj ?_|refine Jk rfl ?_|refine Jl ?_|refine Jm ?_|refine Jn ?_|refine Jo ?_|refine Jp ?_|refine Jq ?_))
    refine e_st (vs := A.1.v) S 0 rfl rfl rfl rfl (by simp [Tl.v, Value.flat]) (by simp [zT, Tl.v]) fun w S => ?_
    replace S : Dn.Sep w ((b12, .cells ⟨A.1.v⟩ 31) :: ([(bt, Obj.cells ⟨(ts ++ [t]).flatMap Tl.v ++ sp⟩ 31 (lo, hi0))] ++ Li ++ A.2.2.L)) F := S
    (repeat (with_reducible first|refine Ja ?_|refine Jb ?_|refine Jc ?_|refine Jd ?_|refine Je ?_|refine Jf ?_|refine Jg ?_|refine Jh ?_|refine Ji ?_|refine Jj ?_|refine Jk rfl ?_|refine Jl ?_|refine Jm ?_|refine Jn ?_|refine Jo ?_|refine Jp ?_|refine Jq ?_))
    refine e_mvI rfl ?_
    (repeat (with_reducible first|refine Ja ?_|refine Jb ?_|refine Jc ?_|refine Jd ?_|refine Je ?_|refine Jf ?_|refine Jg ?_|refine Jh ?_|refine Ji ?_|refine Jj ?_|refine Jk rfl ?_|refine Jl ?_|refine Jm ?_|refine Jn ?_|refine Jo ?_|refine Jp ?_|refine Jq ?_))
    refine e_mvI rfl ?_
    refine e_p (cmp_neqD rfl rfl) ?_
    (repeat (with_reducible first|refine Ja ?_|refine Jb ?_|refine Jc ?_|refine Jd ?_|refine Je ?_|refine Jf ?_|refine Jg ?_|refine Jh ?_|refine Ji ?_|refine Jj ?_|refine Jk rfl ?_|refine Jl ?_|refine Jm ?_|refine Jn ?_|refine Jo ?_|refine Jp ?_|refine Jq ?_))
    refine s_iteN rfl (fun he => ?_) (fun he => ?_)
    · rw [if_pos he] at hres
      (repeat (first|(with_reducible first|refine Ja ?_|refine Jb ?_|refine Jc ?_|refine Jd ?_|refine Je ?_|refine Jf ?_|refine Jg ?_|refine Jh ?_|refine Ji ?_|refine Jj ?_|refine Jk rfl ?_|refine Jl ?_|refine Jm ?_|refine Jn ?_|refine Jo ?_|refine Jp ?_|refine Jq ?_)|refine JA rfl ?_|refine JB rfl ?_|refine JC rfl ?_|refine JD rfl ?_|refine JE rfl ?_|refine JF rfl ?_|refine JG rfl ?_|refine JH rfl ?_|refine JI rfl ?_|refine J2 rfl ?_|refine J3 rfl ?_|refine J4 rfl ?_|refine J1 rfl ?_|refine J6 rfl ?_|refine J7 rfl ?_|refine JJ rfl ?_|refine JK rfl ?_|refine JQ rfl ?_|refine JL rfl rfl ?_|refine JM rfl rfl ?_|refine JN rfl ?_|refine JO rfl ?_|refine JP rfl ?_))
      refine fin (s' := A.2.2) (k3.trans hsq) rfl rfl rfl rfl hres.symm ?_
      have S5 : Dn.Sep w (([(bt, Obj.cells ⟨(ts ++ [t]).flatMap Tl.v ++ sp⟩ 31 (lo, hi0))] ++ Li) ++ A.2.2.L) F := Sep.drop (L2 := [(b12, .cells ⟨A.1.v⟩ 31)]) S
      exact S5.perm List.perm_append_comm
    · rw [if_neg (by simpa using he)] at hres
      (repeat (first|(with_reducible first|refine Ja ?_|refine Jb ?_|refine Jc ?_|refine Jd ?_|refine Je ?_|refine Jf ?_|refine Jg ?_|refine Jh ?_|refine Ji ?_|refine Jj ?_|refine Jk rfl ?_|refine Jl ?_|refine Jm ?_|refine Jn ?_|refine Jo ?_|refine Jp ?_|refine Jq ?_)|refine JA rfl ?_|refine JB rfl ?_|refine JC rfl ?_|refine JD rfl ?_|refine JE rfl ?_|refine JF rfl ?_|refine JG rfl ?_|refine JH rfl ?_|refine JI rfl ?_|refine J2 rfl ?_|refine J3 rfl ?_|refine J4 rfl ?_|refine J1 rfl ?_|refine J6 rfl ?_|refine J7 rfl ?_|refine JJ rfl ?_|refine JK rfl ?_|refine JQ rfl ?_|refine JL rfl rfl ?_|refine JM rfl rfl ?_|refine JN rfl ?_|refine JO rfl ?_|refine JP rfl ?_))
      refine e_ld (v := .agg ⟨A.1.v⟩) (S.row 0 rfl (by simp [Tl.v]) rfl) ?_
      refine e_bsl (size := 4) (xs := A.1.v) S Try.underlying25 rfl rfl ⟨_, rfl⟩ (by omega) (by omega) (fun zs hz => (match zs, hz with | [a, b, c, e], _ => rfl)) fun b56 w S => ?_
      -- the tails' block last
      replace S : Dn.Sep w (((b12, .cells ⟨A.1.v⟩ 31) :: (b56, .cells ⟨A.1.v⟩ 31) :: (Li ++ A.2.2.L)) ++ [(bt, Obj.cells ⟨(ts ++ [t]).flatMap Tl.v ++ sp⟩ 31 (lo, hi0))]) F := by
        refine S.perm ?_
        refine List.Perm.cons _ ?_
        refine List.Perm.trans List.perm_append_comm ?_
        refine List.Perm.cons _ ?_
        exact (List.perm_append_singleton _ _).symm
      refine e_app (size := 4) (k := 1) (ys := A.1.v) (z := .agg #[.int .i64 0, .int .i64 0, .int .i64 0, .int .i64 0]) S hOt rfl (src_row Try.underlying25 (rowOf_at S (ty := 31) (fr := (0, 0)) (cs := A.1.v) (by simp) (by simp [Tl.v]) rfl) (by simp [Tl.v, Value.flat])) Try.underlying25 rfl rfl rfl rfl (by show (ts.length + 1 + 1) * 32 ≤ _; omega) (by omega) fun adt' capt' Lt' w hOt' S => ?_
      replace S := Sep.drop (L2 := [_, _]) S
      (repeat (first|(with_reducible first|refine Ja ?_|refine Jb ?_|refine Jc ?_|refine Jd ?_|refine Je ?_|refine Jf ?_|refine Jg ?_|refine Jh ?_|refine Ji ?_|refine Jj ?_|refine Jk rfl ?_|refine Jl ?_|refine Jm ?_|refine Jn ?_|refine Jo ?_|refine Jp ?_|refine Jq ?_)|refine JA rfl ?_|refine JB rfl ?_|refine JC rfl ?_|refine JD rfl ?_|refine JE rfl ?_|refine JF rfl ?_|refine JG rfl ?_|refine JH rfl ?_|refine JI rfl ?_|refine J2 rfl ?_|refine J3 rfl ?_|refine J4 rfl ?_|refine J1 rfl ?_|refine J6 rfl ?_|refine J7 rfl ?_|refine JJ rfl ?_|refine JK rfl ?_|refine JQ rfl ?_|refine JL rfl rfl ?_|refine JM rfl rfl ?_|refine JN rfl ?_|refine JO rfl ?_|refine JP rfl ?_))
      refine e_ixa rfl rfl (by omega) (by omega) ?_
      rw [show off + (i : Int).toNat * 1 = off + i by omega]
      refine e_ld (v := strV l[i]) (S.fc hcell) ?_
      refine e_bsl (size := 1) (xs := [strV l[i]]) S Try.underlying22 rfl rfl ⟨_, rfl⟩ (by omega) (by omega) (fun zs hz => (match zs, hz with | [u], _ => rfl)) fun b63 w S => ?_
      replace S : Dn.Sep w (((b63, .cells ⟨[strV l[i]]⟩ 9) :: (A.2.2.L ++ Lt')) ++ Li) F := by
        refine S.perm ?_
        refine List.Perm.trans (List.perm_append_singleton _ _) (List.Perm.cons _ ?_)
        show ((Li ++ A.2.2.L) ++ Lt').Perm ((A.2.2.L ++ Lt') ++ Li)
        rw [List.append_assoc]
        exact List.perm_append_comm
      refine e_app (size := 1) (k := 1) (ys := [strV l[i]]) (z := .string ⟨#[]⟩) S hOi rfl (src_row Try.underlying22 (rowOf_at S (ty := 9) (fr := (0, 0)) (cs := [strV l[i]]) (by simp) (by simp) rfl) (by simp [strV, Value.flat])) Try.underlying22 rfl rfl rfl rfl (by show (ins.length + 1) * 16 ≤ _; omega) (by omega) fun adi' capi' Li' w hOi' S => ?_
      replace S := Sep.drop (L2 := [_]) S
      (repeat (first|(with_reducible first|refine Ja ?_|refine Jb ?_|refine Jc ?_|refine Jd ?_|refine Je ?_|refine Jf ?_|refine Jg ?_|refine Jh ?_|refine Ji ?_|refine Jj ?_|refine Jk rfl ?_|refine Jl ?_|refine Jm ?_|refine Jn ?_|refine Jo ?_|refine Jp ?_|refine Jq ?_)|refine JA rfl ?_|refine JB rfl ?_|refine JC rfl ?_|refine JD rfl ?_|refine JE rfl ?_|refine JF rfl ?_|refine JG rfl ?_|refine JH rfl ?_|refine JI rfl ?_|refine J2 rfl ?_|refine J3 rfl ?_|refine J4 rfl ?_|refine J1 rfl ?_|refine J6 rfl ?_|refine J7 rfl ?_|refine JJ rfl ?_|refine JK rfl ?_|refine JQ rfl ?_|refine JL rfl rfl ?_|refine JM rfl rfl ?_|refine JN rfl ?_|refine JO rfl ?_|refine JP rfl ?_))
      refine e_add (a := (i : Int)) (b := 1) rfl rfl (by omega) (by omega) ?_
      (repeat (first|(with_reducible first|refine Ja ?_|refine Jb ?_|refine Jc ?_|refine Jd ?_|refine Je ?_|refine Jf ?_|refine Jg ?_|refine Jh ?_|refine Ji ?_|refine Jj ?_|refine Jk rfl ?_|refine Jl ?_|refine Jm ?_|refine Jn ?_|refine Jo ?_|refine Jp ?_|refine Jq ?_)|refine JA rfl ?_|refine JB rfl ?_|refine JC rfl ?_|refine JD rfl ?_|refine JE rfl ?_|refine JF rfl ?_|refine JG rfl ?_|refine JH rfl ?_|refine JI rfl ?_|refine J2 rfl ?_|refine J3 rfl ?_|refine J4 rfl ?_|refine J1 rfl ?_|refine J6 rfl ?_|refine J7 rfl ?_|refine JJ rfl ?_|refine JK rfl ?_|refine JQ rfl ?_|refine JL rfl rfl ?_|refine JM rfl rfl ?_|refine JN rfl ?_|refine JO rfl ?_|refine JP rfl ?_))
      have el : (ts ++ [t]).length = ts.length + 1 := by simp
      have el2 : (ins ++ [l[i]]).length = ins.length + 1 := by simp
      refine ⟨rfl, ((i + 1, A.2.2, A.1, ts ++ [t], ins ++ [l[i]]), (adt', capt', Lt'), (adi', capi', Li')), ⟨rfl, rfl, rfl, ?_, ?_, trivial⟩, ⟨by simp only; omega, k1, k3.trans hsq, hres, by simp only [el]; omega, by simp only [el2]; omega, ?_, ?_, ?_⟩, by simp only; omega⟩
      · simp only [el]; rfl
      · simp only [el2]; rfl
      · simp only [el]
        show OwnS _ _ _ _ _ _ _
        simp only [List.flatMap_append] at hOt' ⊢
        simpa using hOt'
      · simp only [el2, OwnT, List.map_append]; exact hOi'
      · have S6 : Dn.Sep w ((A.2.2.L ++ Lt') ++ Li') F := S
        rw [List.append_assoc] at S6; exact S6

end Go.Proofs.Ytgendpinmmmfjaa

/-
  The walk of Mark.
-/
namespace Dn
open Go
def markP (s : Sh) (d n : Int) : Pl := plW d (s.cfg.log - 1 - n.tmod 3)
def markOK (s : Sh) (d n : Int) : Prop := ¬ (d < 0 ∨ d ≥ s.cfg.disks ∨ n < 1 ∨ n ≥ 4294967296 ∨ s.cfg.log < 3)
@[irreducible] instance markOKD (s : Sh) (d n : Int) : Decidable (markOK s d n) := by unfold markOK; infer_instance
/-- Mark: the error, and the shelf. -/
def markW (s : Sh) (d n : Int) : Int × Sh := if markOK s d n then (s.wrE (markP s d n) (sealS (markP s d n) ⟨n, 0⟩ []), s.wrS (markP s d n) (sealS (markP s d n) ⟨n, 0⟩ [])) else (1, s)
end Dn
namespace Go.Proofs.Ytgendpinmmmfjaa
open Dn
attribute [local irreducible] Evs Ev EvT DSpec PSpec CallTo
set_option maxRecDepth 10000
set_option maxHeartbeats 2000000

theorem w_mark (s : Sh) (d n : Int) (hs : s.ok) : DSpec Try.prog 23 [s.v, .int .i64 d, .int .i64 n] s.L fun v L => v = .int .i64 (markW s d n).1 ∧ L = (markW s d n).2.L := by
  refine spec_of mix Try.func23 c23_eq rfl rfl fun w F Q S hQ => ?_
  have hc := hs.cfg
  unfold Cfg.ok at hc
  have bad : ¬ markOK s d n → ∀ {w' : World} {X : List (Nat × Obj)}, Dn.Sep w' (X ++ s.L) F → Q (.int .i64 1) w' := fun h w' X S => hQ _ _ _ ⟨by unfold markW; rw [if_neg h], by unfold markW; rw [if_neg h]⟩ S.drop
  (repeat (first|(with_reducible first|refine Ja ?_|refine Jb ?_|refine Jc ?_|refine Jd ?_|refine Je ?_|refine Jf ?_|refine Jg ?_|refine Jh ?_|refine Ji ?_|refine Jj ?_|refine Jk rfl ?_|refine Jl ?_|refine Jm ?_|refine Jn ?_|refine Jo ?_|refine Jp ?_|refine Jq ?_)|refine JA rfl ?_|refine JB rfl ?_|refine JC rfl ?_|refine JD rfl ?_|refine JE rfl ?_|refine JF rfl ?_|refine JG rfl ?_|refine JH rfl ?_|refine JI rfl ?_|refine J2 rfl ?_|refine J3 rfl ?_|refine J4 rfl ?_|refine J1 rfl ?_|refine J6 rfl ?_|refine J7 rfl ?_|refine JJ rfl ?_|refine JK rfl ?_|refine JQ rfl ?_|refine JL rfl rfl ?_|refine JM rfl rfl ?_|refine JN rfl ?_|refine JO rfl ?_|refine JP rfl ?_))
  refine e_call (L2 := []) rfl (sh_config s) S ?_
  rintro _ _ w ⟨rfl, rfl⟩ S
  replace S : Dn.Sep w s.L F := S
  refine e_nw S fun b7 w S => ?_
  refine e_st (vs := s.cfg.v) S 0 rfl rfl rfl rfl (by simp [Cfg.v, Value.flat]) (by simp) fun w S => ?_
  replace S : Dn.Sep w ([(b7, .cells ⟨s.cfg.v⟩ 53)] ++ s.L) F := S
  (repeat (first|(with_reducible first|refine Ja ?_|refine Jb ?_|refine Jc ?_|refine Jd ?_|refine Je ?_|refine Jf ?_|refine Jg ?_|refine Jh ?_|refine Ji ?_|refine Jj ?_|refine Jk rfl ?_|refine Jl ?_|refine Jm ?_|refine Jn ?_|refine Jo ?_|refine Jp ?_|refine Jq ?_)|refine JA rfl ?_|refine JB rfl ?_|refine JC rfl ?_|refine JD rfl ?_|refine JE rfl ?_|refine JF rfl ?_|refine JG rfl ?_|refine JH rfl ?_|refine JI rfl ?_|refine J2 rfl ?_|refine J3 rfl ?_|refine J4 rfl ?_|refine J1 rfl ?_|refine J6 rfl ?_|refine J7 rfl ?_|refine JJ rfl ?_|refine JK rfl ?_|refine JQ rfl ?_|refine JL rfl rfl ?_|refine JM rfl rfl ?_|refine JN rfl ?_|refine JO rfl ?_|refine JP rfl ?_))
  refine e_brD rfl (fun h1 => ?_) (fun h1 => ?_)
  · (repeat (first|(with_reducible first|refine Ja ?_|refine Jb ?_|refine Jc ?_|refine Jd ?_|refine Je ?_|refine Jf ?_|refine Jg ?_|refine Jh ?_|refine Ji ?_|refine Jj ?_|refine Jk rfl ?_|refine Jl ?_|refine Jm ?_|refine Jn ?_|refine Jo ?_|refine Jp ?_|refine Jq ?_)|refine JA rfl ?_|refine JB rfl ?_|refine JC rfl ?_|refine JD rfl ?_|refine JE rfl ?_|refine JF rfl ?_|refine JG rfl ?_|refine JH rfl ?_|refine JI rfl ?_|refine J2 rfl ?_|refine J3 rfl ?_|refine J4 rfl ?_|refine J1 rfl ?_|refine J6 rfl ?_|refine J7 rfl ?_|refine JJ rfl ?_|refine JK rfl ?_|refine JQ rfl ?_|refine JL rfl rfl ?_|refine JM rfl rfl ?_|refine JN rfl ?_|refine JO rfl ?_|refine JP rfl ?_))
    exact f_ret rfl rfl (bad (by unfold markOK; omega) S)
  (repeat (first|(with_reducible first|refine Ja ?_|refine Jb ?_|refine Jc ?_|refine Jd ?_|refine Je ?_|refine Jf ?_|refine Jg ?_|refine Jh ?_|refine Ji ?_|refine Jj ?_|refine Jk rfl ?_|refine Jl ?_|refine Jm ?_|refine Jn ?_|refine Jo ?_|refine Jp ?_|refine Jq ?_)|refine JA rfl ?_|refine JB rfl ?_|refine JC rfl ?_|refine JD rfl ?_|refine JE rfl ?_|refine JF rfl ?_|refine JG rfl ?_|refine JH rfl ?_|refine JI rfl ?_|refine J2 rfl ?_|refine J3 rfl ?_|refine J4 rfl ?_|refine J1 rfl ?_|refine J6 rfl ?_|refine J7 rfl ?_|refine JJ rfl ?_|refine JK rfl ?_|refine JQ rfl ?_|refine JL rfl rfl ?_|refine JM rfl rfl ?_|refine JN rfl ?_|refine JO rfl ?_|refine JP rfl ?_))
  refine e_ld (S.cell 0 rfl rfl) ?_
  (repeat (first|(with_reducible first|refine Ja ?_|refine Jb ?_|refine Jc ?_|refine Jd ?_|refine Je ?_|refine Jf ?_|refine Jg ?_|refine Jh ?_|refine Ji ?_|refine Jj ?_|refine Jk rfl ?_|refine Jl ?_|refine Jm ?_|refine Jn ?_|refine Jo ?_|refine Jp ?_|refine Jq ?_)|refine JA rfl ?_|refine JB rfl ?_|refine JC rfl ?_|refine JD rfl ?_|refine JE rfl ?_|refine JF rfl ?_|refine JG rfl ?_|refine JH rfl ?_|refine JI rfl ?_|refine J2 rfl ?_|refine J3 rfl ?_|refine J4 rfl ?_|refine J1 rfl ?_|refine J6 rfl ?_|refine J7 rfl ?_|refine JJ rfl ?_|refine JK rfl ?_|refine JQ rfl ?_|refine JL rfl rfl ?_|refine JM rfl rfl ?_|refine JN rfl ?_|refine JO rfl ?_|refine JP rfl ?_))
  refine e_brD rfl (fun h2 => ?_) (fun h2 => ?_)
  · (repeat (first|(with_reducible first|refine Ja ?_|refine Jb ?_|refine Jc ?_|refine Jd ?_|refine Je ?_|refine Jf ?_|refine Jg ?_|refine Jh ?_|refine Ji ?_|refine Jj ?_|refine Jk rfl ?_|refine Jl ?_|refine Jm ?_|refine Jn ?_|refine Jo ?_|refine Jp ?_|refine Jq ?_)|refine JA rfl ?_|refine JB rfl ?_|refine JC rfl ?_|refine JD rfl ?_|refine JE rfl ?_|refine JF rfl ?_|refine JG rfl ?_|refine JH rfl ?_|refine JI rfl ?_|refine J2 rfl ?_|refine J3 rfl ?_|refine J4 rfl ?_|refine J1 rfl ?_|refine J6 rfl ?_|refine J7 rfl ?_|refine JJ rfl ?_|refine JK rfl ?_|refine JQ rfl ?_|refine JL rfl rfl ?_|refine JM rfl rfl ?_|refine JN rfl ?_|refine JO rfl ?_|refine JP rfl ?_))
    exact f_ret rfl rfl (bad (by unfold markOK; omega) S)
  (repeat (first|(with_reducible first|refine Ja ?_|refine Jb ?_|refine Jc ?_|refine Jd ?_|refine Je ?_|refine Jf ?_|refine Jg ?_|refine Jh ?_|refine Ji ?_|refine Jj ?_|refine Jk rfl ?_|refine Jl ?_|refine Jm ?_|refine Jn ?_|refine Jo ?_|refine Jp ?_|refine Jq ?_)|refine JA rfl ?_|refine JB rfl ?_|refine JC rfl ?_|refine JD rfl ?_|refine JE rfl ?_|refine JF rfl ?_|refine JG rfl ?_|refine JH rfl ?_|refine JI rfl ?_|refine J2 rfl ?_|refine J3 rfl ?_|refine J4 rfl ?_|refine J1 rfl ?_|refine J6 rfl ?_|refine J7 rfl ?_|refine JJ rfl ?_|refine JK rfl ?_|refine JQ rfl ?_|refine JL rfl rfl ?_|refine JM rfl rfl ?_|refine JN rfl ?_|refine JO rfl ?_|refine JP rfl ?_))
  refine e_brD rfl (fun h3 => ?_) (fun h3 => ?_)
  · (repeat (first|(with_reducible first|refine Ja ?_|refine Jb ?_|refine Jc ?_|refine Jd ?_|refine Je ?_|refine Jf ?_|refine Jg ?_|refine Jh ?_|refine Ji ?_|refine Jj ?_|refine Jk rfl ?_|refine Jl ?_|refine Jm ?_|refine Jn ?_|refine Jo ?_|refine Jp ?_|refine Jq ?_)|refine JA rfl ?_|refine JB rfl ?_|refine JC rfl ?_|refine JD rfl ?_|refine JE rfl ?_|refine JF rfl ?_|refine JG rfl ?_|refine JH rfl ?_|refine JI rfl ?_|refine J2 rfl ?_|refine J3 rfl ?_|refine J4 rfl ?_|refine J1 rfl ?_|refine J6 rfl ?_|refine J7 rfl ?_|refine JJ rfl ?_|refine JK rfl ?_|refine JQ rfl ?_|refine JL rfl rfl ?_|refine JM rfl rfl ?_|refine JN rfl ?_|refine JO rfl ?_|refine JP rfl ?_))
    exact f_ret rfl rfl (bad (by unfold markOK; omega) S)
  (repeat (first|(with_reducible first|refine Ja ?_|refine Jb ?_|refine Jc ?_|refine Jd ?_|refine Je ?_|refine Jf ?_|refine Jg ?_|refine Jh ?_|refine Ji ?_|refine Jj ?_|refine Jk rfl ?_|refine Jl ?_|refine Jm ?_|refine Jn ?_|refine Jo ?_|refine Jp ?_|refine Jq ?_)|refine JA rfl ?_|refine JB rfl ?_|refine JC rfl ?_|refine JD rfl ?_|refine JE rfl ?_|refine JF rfl ?_|refine JG rfl ?_|refine JH rfl ?_|refine JI rfl ?_|refine J2 rfl ?_|refine J3 rfl ?_|refine J4 rfl ?_|refine J1 rfl ?_|refine J6 rfl ?_|refine J7 rfl ?_|refine JJ rfl ?_|refine JK rfl ?_|refine JQ rfl ?_|refine JL rfl rfl ?_|refine JM rfl rfl ?_|refine JN rfl ?_|refine JO rfl ?_|refine JP rfl ?_))
  refine e_brD rfl (fun h4 => ?_) (fun h4 => ?_)
  · (repeat (first|(with_reducible first|refine Ja ?_|refine Jb ?_|refine Jc ?_|refine Jd ?_|refine Je ?_|refine Jf ?_|refine Jg ?_|refine Jh ?_|refine Ji ?_|refine Jj ?_|refine Jk rfl ?_|refine Jl ?_|refine Jm ?_|refine Jn ?_|refine Jo ?_|refine Jp ?_|refine Jq ?_)|refine JA rfl ?_|refine JB rfl ?_|refine JC rfl ?_|refine JD rfl ?_|refine JE rfl ?_|refine JF rfl ?_|refine JG rfl ?_|refine JH rfl ?_|refine JI rfl ?_|refine J2 rfl ?_|refine J3 rfl ?_|refine J4 rfl ?_|refine J1 rfl ?_|refine J6 rfl ?_|refine J7 rfl ?_|refine JJ rfl ?_|refine JK rfl ?_|refine JQ rfl ?_|refine JL rfl rfl ?_|refine JM rfl rfl ?_|refine JN rfl ?_|refine JO rfl ?_|refine JP rfl ?_))
    exact f_ret rfl rfl (bad (by unfold markOK; omega) S)
  (repeat (first|(with_reducible first|refine Ja ?_|refine Jb ?_|refine Jc ?_|refine Jd ?_|refine Je ?_|refine Jf ?_|refine Jg ?_|refine Jh ?_|refine Ji ?_|refine Jj ?_|refine Jk rfl ?_|refine Jl ?_|refine Jm ?_|refine Jn ?_|refine Jo ?_|refine Jp ?_|refine Jq ?_)|refine JA rfl ?_|refine JB rfl ?_|refine JC rfl ?_|refine JD rfl ?_|refine JE rfl ?_|refine JF rfl ?_|refine JG rfl ?_|refine JH rfl ?_|refine JI rfl ?_|refine J2 rfl ?_|refine J3 rfl ?_|refine J4 rfl ?_|refine J1 rfl ?_|refine J6 rfl ?_|refine J7 rfl ?_|refine JJ rfl ?_|refine JK rfl ?_|refine JQ rfl ?_|refine JL rfl rfl ?_|refine JM rfl rfl ?_|refine JN rfl ?_|refine JO rfl ?_|refine JP rfl ?_))
  refine e_ld (S.cell 0 rfl rfl) ?_
  (repeat (first|(with_reducible first|refine Ja ?_|refine Jb ?_|refine Jc ?_|refine Jd ?_|refine Je ?_|refine Jf ?_|refine Jg ?_|refine Jh ?_|refine Ji ?_|refine Jj ?_|refine Jk rfl ?_|refine Jl ?_|refine Jm ?_|refine Jn ?_|refine Jo ?_|refine Jp ?_|refine Jq ?_)|refine JA rfl ?_|refine JB rfl ?_|refine JC rfl ?_|refine JD rfl ?_|refine JE rfl ?_|refine JF rfl ?_|refine JG rfl ?_|refine JH rfl ?_|refine JI rfl ?_|refine J2 rfl ?_|refine J3 rfl ?_|refine J4 rfl ?_|refine J1 rfl ?_|refine J6 rfl ?_|refine J7 rfl ?_|refine JJ rfl ?_|refine JK rfl ?_|refine JQ rfl ?_|refine JL rfl rfl ?_|refine JM rfl rfl ?_|refine JN rfl ?_|refine JO rfl ?_|refine JP rfl ?_))
  refine s_iteD rfl (fun h5 => ?_) (fun h5 => ?_)
  · (repeat (first|(with_reducible first|refine Ja ?_|refine Jb ?_|refine Jc ?_|refine Jd ?_|refine Je ?_|refine Jf ?_|refine Jg ?_|refine Jh ?_|refine Ji ?_|refine Jj ?_|refine Jk rfl ?_|refine Jl ?_|refine Jm ?_|refine Jn ?_|refine Jo ?_|refine Jp ?_|refine Jq ?_)|refine JA rfl ?_|refine JB rfl ?_|refine JC rfl ?_|refine JD rfl ?_|refine JE rfl ?_|refine JF rfl ?_|refine JG rfl ?_|refine JH rfl ?_|refine JI rfl ?_|refine J2 rfl ?_|refine J3 rfl ?_|refine J4 rfl ?_|refine J1 rfl ?_|refine J6 rfl ?_|refine J7 rfl ?_|refine JJ rfl ?_|refine JK rfl ?_|refine JQ rfl ?_|refine JL rfl rfl ?_|refine JM rfl rfl ?_|refine JN rfl ?_|refine JO rfl ?_|refine JP rfl ?_))
    exact f_ret rfl rfl (bad (by unfold markOK; omega) S)
  have hok : markOK s d n := by unfold markOK; omega
  have hm : 0 ≤ n.tmod 3 ∧ n.tmod 3 < 3 := by rw [Int.tmod_eq_emod_of_nonneg (by omega)]; omega
  (repeat (first|(with_reducible first|refine Ja ?_|refine Jb ?_|refine Jc ?_|refine Jd ?_|refine Je ?_|refine Jf ?_|refine Jg ?_|refine Jh ?_|refine Ji ?_|refine Jj ?_|refine Jk rfl ?_|refine Jl ?_|refine Jm ?_|refine Jn ?_|refine Jo ?_|refine Jp ?_|refine Jq ?_)|refine JA rfl ?_|refine JB rfl ?_|refine JC rfl ?_|refine JD rfl ?_|refine JE rfl ?_|refine JF rfl ?_|refine JG rfl ?_|refine JH rfl ?_|refine JI rfl ?_|refine J2 rfl ?_|refine J3 rfl ?_|refine J4 rfl ?_|refine J1 rfl ?_|refine J6 rfl ?_|refine J7 rfl ?_|refine JJ rfl ?_|refine JK rfl ?_|refine JQ rfl ?_|refine JL rfl rfl ?_|refine JM rfl rfl ?_|refine JN rfl ?_|refine JO rfl ?_|refine JP rfl ?_))
  refine e_ld (S.cell 0 rfl rfl) ?_
  refine e_sub (a := s.cfg.log) (b := 1) rfl rfl (by omega) (by omega) ?_
  (repeat (first|(with_reducible first|refine Ja ?_|refine Jb ?_|refine Jc ?_|refine Jd ?_|refine Je ?_|refine Jf ?_|refine Jg ?_|refine Jh ?_|refine Ji ?_|refine Jj ?_|refine Jk rfl ?_|refine Jl ?_|refine Jm ?_|refine Jn ?_|refine Jo ?_|refine Jp ?_|refine Jq ?_)|refine JA rfl ?_|refine JB rfl ?_|refine JC rfl ?_|refine JD rfl ?_|refine JE rfl ?_|refine JF rfl ?_|refine JG rfl ?_|refine JH rfl ?_|refine JI rfl ?_|refine J2 rfl ?_|refine J3 rfl ?_|refine J4 rfl ?_|refine J1 rfl ?_|refine J6 rfl ?_|refine J7 rfl ?_|refine JJ rfl ?_|refine JK rfl ?_|refine JQ rfl ?_|refine JL rfl rfl ?_|refine JM rfl rfl ?_|refine JN rfl ?_|refine JO rfl ?_|refine JP rfl ?_))
  refine e_arv rfl rfl (ar_remI n 3 (by omega)) ?_
  refine e_sub (a := s.cfg.log - 1) (b := n.tmod 3) rfl rfl (by omega) (by omega) ?_
  (repeat (first|(with_reducible first|refine Ja ?_|refine Jb ?_|refine Jc ?_|refine Jd ?_|refine Je ?_|refine Jf ?_|refine Jg ?_|refine Jh ?_|refine Ji ?_|refine Jj ?_|refine Jk rfl ?_|refine Jl ?_|refine Jm ?_|refine Jn ?_|refine Jo ?_|refine Jp ?_|refine Jq ?_)|refine JA rfl ?_|refine JB rfl ?_|refine JC rfl ?_|refine JD rfl ?_|refine JE rfl ?_|refine JF rfl ?_|refine JG rfl ?_|refine JH rfl ?_|refine JI rfl ?_|refine J2 rfl ?_|refine J3 rfl ?_|refine J4 rfl ?_|refine J1 rfl ?_|refine J6 rfl ?_|refine J7 rfl ?_|refine JJ rfl ?_|refine JK rfl ?_|refine JQ rfl ?_|refine JL rfl rfl ?_|refine JM rfl rfl ?_|refine JN rfl ?_|refine JO rfl ?_|refine JP rfl ?_))
  refine e_nw S fun b8 w S => ?_
  refine e_st (vs := (markP s d n).v) S 0 rfl rfl rfl rfl (by simp [Pl.v, Value.flat]) (by simp) fun w S => ?_
  replace S : Dn.Sep w ([(b8, .cells ⟨(markP s d n).v⟩ 46), (b7, .cells ⟨s.cfg.v⟩ 53)] ++ s.L) F := S
  (repeat (first|(with_reducible first|refine Ja ?_|refine Jb ?_|refine Jc ?_|refine Jd ?_|refine Je ?_|refine Jf ?_|refine Jg ?_|refine Jh ?_|refine Ji ?_|refine Jj ?_|refine Jk rfl ?_|refine Jl ?_|refine Jm ?_|refine Jn ?_|refine Jo ?_|refine Jp ?_|refine Jq ?_)|refine JA rfl ?_|refine JB rfl ?_|refine JC rfl ?_|refine JD rfl ?_|refine JE rfl ?_|refine JF rfl ?_|refine JG rfl ?_|refine JH rfl ?_|refine JI rfl ?_|refine J2 rfl ?_|refine J3 rfl ?_|refine J4 rfl ?_|refine J1 rfl ?_|refine J6 rfl ?_|refine J7 rfl ?_|refine JJ rfl ?_|refine JK rfl ?_|refine JQ rfl ?_|refine JL rfl rfl ?_|refine JM rfl rfl ?_|refine JN rfl ?_|refine JO rfl ?_|refine JP rfl ?_))
  refine e_ld (v := .agg ⟨(markP s d n).v⟩) (S.row 0 rfl (by simp [Pl.v]) rfl) ?_
  (repeat (first|(with_reducible first|refine Ja ?_|refine Jb ?_|refine Jc ?_|refine Jd ?_|refine Je ?_|refine Jf ?_|refine Jg ?_|refine Jh ?_|refine Ji ?_|refine Jj ?_|refine Jk rfl ?_|refine Jl ?_|refine Jm ?_|refine Jn ?_|refine Jo ?_|refine Jp ?_|refine Jq ?_)|refine JA rfl ?_|refine JB rfl ?_|refine JC rfl ?_|refine JD rfl ?_|refine JE rfl ?_|refine JF rfl ?_|refine JG rfl ?_|refine JH rfl ?_|refine JI rfl ?_|refine J2 rfl ?_|refine J3 rfl ?_|refine J4 rfl ?_|refine J1 rfl ?_|refine J6 rfl ?_|refine J7 rfl ?_|refine JJ rfl ?_|refine JK rfl ?_|refine JQ rfl ?_|refine JL rfl rfl ?_|refine JM rfl rfl ?_|refine JN rfl ?_|refine JO rfl ?_|refine JP rfl ?_))
  have hp : (markP s d n).ok := by unfold markP plW Pl.ok; simp only; omega
  have hg : (⟨n, 0⟩ : Gn).ok := by unfold Gn.ok Gn.ok0; simp only; omega
  have hseal := sec_seal (markP s d n) ⟨n, 0⟩ []
  unfold sealV at hseal
  rw [if_pos ⟨hp, hg, by simp⟩] at hseal
  refine e_callP rfl hseal S fun w S => ?_
  (repeat (first|(with_reducible first|refine Ja ?_|refine Jb ?_|refine Jc ?_|refine Jd ?_|refine Je ?_|refine Jf ?_|refine Jg ?_|refine Jh ?_|refine Ji ?_|refine Jj ?_|refine Jk rfl ?_|refine Jl ?_|refine Jm ?_|refine Jn ?_|refine Jo ?_|refine Jp ?_|refine Jq ?_)|refine JA rfl ?_|refine JB rfl ?_|refine JC rfl ?_|refine JD rfl ?_|refine JE rfl ?_|refine JF rfl ?_|refine JG rfl ?_|refine JH rfl ?_|refine JI rfl ?_|refine J2 rfl ?_|refine J3 rfl ?_|refine J4 rfl ?_|refine J1 rfl ?_|refine J6 rfl ?_|refine J7 rfl ?_|refine JJ rfl ?_|refine JK rfl ?_|refine JQ rfl ?_|refine JL rfl rfl ?_|refine JM rfl rfl ?_|refine JN rfl ?_|refine JO rfl ?_|refine JP rfl ?_))
  refine e_ld (v := .agg ⟨(markP s d n).v⟩) (S.row 0 rfl (by simp [Pl.v]) rfl) ?_
  (repeat (first|(with_reducible first|refine Ja ?_|refine Jb ?_|refine Jc ?_|refine Jd ?_|refine Je ?_|refine Jf ?_|refine Jg ?_|refine Jh ?_|refine Ji ?_|refine Jj ?_|refine Jk rfl ?_|refine Jl ?_|refine Jm ?_|refine Jn ?_|refine Jo ?_|refine Jp ?_|refine Jq ?_)|refine JA rfl ?_|refine JB rfl ?_|refine JC rfl ?_|refine JD rfl ?_|refine JE rfl ?_|refine JF rfl ?_|refine JG rfl ?_|refine JH rfl ?_|refine JI rfl ?_|refine J2 rfl ?_|refine J3 rfl ?_|refine J4 rfl ?_|refine J1 rfl ?_|refine J6 rfl ?_|refine J7 rfl ?_|refine JJ rfl ?_|refine JK rfl ?_|refine JQ rfl ?_|refine JL rfl rfl ?_|refine JM rfl rfl ?_|refine JN rfl ?_|refine JO rfl ?_|refine JP rfl ?_))
  refine e_call (L2 := [_, _]) rfl (sh_write s (markP s d n) (sealS (markP s d n) ⟨n, 0⟩ []) hs) S ?_
  rintro _ _ w ⟨rfl, rfl⟩ S
  (repeat (first|(with_reducible first|refine Ja ?_|refine Jb ?_|refine Jc ?_|refine Jd ?_|refine Je ?_|refine Jf ?_|refine Jg ?_|refine Jh ?_|refine Ji ?_|refine Jj ?_|refine Jk rfl ?_|refine Jl ?_|refine Jm ?_|refine Jn ?_|refine Jo ?_|refine Jp ?_|refine Jq ?_)|refine JA rfl ?_|refine JB rfl ?_|refine JC rfl ?_|refine JD rfl ?_|refine JE rfl ?_|refine JF rfl ?_|refine JG rfl ?_|refine JH rfl ?_|refine JI rfl ?_|refine J2 rfl ?_|refine J3 rfl ?_|refine J4 rfl ?_|refine J1 rfl ?_|refine J6 rfl ?_|refine J7 rfl ?_|refine JJ rfl ?_|refine JK rfl ?_|refine JQ rfl ?_|refine JL rfl rfl ?_|refine JM rfl rfl ?_|refine JN rfl ?_|refine JO rfl ?_|refine JP rfl ?_))
  exact f_ret rfl rfl (hQ _ _ _ ⟨congrArg (Value.int .i64) (by unfold markW; rw [if_pos hok]), by unfold markW; rw [if_pos hok]⟩ (Sep.drop (L2 := [_, _]) S))

end Go.Proofs.Ytgendpinmmmfjaa

/-
  The walk of Marked.
-/
namespace Dn
open Go
def maxI (a b : Int) : Int := if b > a then b else a
def mkdRun (s : Sh) (d : Int) : Nat → Int → Int → Int → Int × Int × Int
  | 0, _, la, od => (la, od, 0)
  | k + 1, i, la, od =>
    if (s.rdO (plW d i)).1 ≠ 0 then (0, 0, (s.rdO (plW d i)).1)
    else match opened (plW d i) (s.rdO (plW d i)).2 with
      | none => mkdRun s d k (i + 1) la od
      | some (g, _) => mkdRun s d k (i + 1) (maxI la g.epoch) (if g.epoch.tmod 2 = 1 then maxI od g.epoch else od)
def markedW (s : Sh) (d : Int) : Int × Int × Int :=
  if d < 0 ∨ d ≥ s.cfg.disks then (0, 0, 1) else mkdRun s d (if s.cfg.log ≥ 3 then 3 else 0) s.cfg.logN 0 0
end Dn
namespace Go.Proofs.Ytgendpinmmmfjaa
open Dn
attribute [local irreducible] Evs Ev EvT DSpec PSpec CallTo
set_option maxRecDepth 10000
set_option maxHeartbeats 2000000

theorem w_marked (s : Sh) (d : Int) (hs : s.ok) : DSpec Try.prog 24 [s.v, .int .i64 d] s.L fun v L => v = .tuple ⟨[.int .i64 (markedW s d).1, .int .i64 (markedW s d).2.1, .int .i64 (markedW s d).2.2]⟩ ∧ L = s.L := by
  refine spec_of mix Try.func24 c24_eq rfl rfl fun w F Q S hQ => ?_
  have hc := hs.cfg
  unfold Cfg.ok at hc
  have hlogN : s.cfg.log ≥ 3 → s.cfg.logN = s.cfg.log - 3 := fun h => by unfold Cfg.logN; rw [if_neg (by omega)]
  have hlogN0 : 0 ≤ s.cfg.logN ∧ s.cfg.logN ≤ 65536 := by unfold Cfg.logN; split <;> omega
  (repeat (first|(with_reducible first|refine Ja ?_|refine Jb ?_|refine Jc ?_|refine Jd ?_|refine Je ?_|refine Jf ?_|refine Jg ?_|refine Jh ?_|refine Ji ?_|refine Jj ?_|refine Jk rfl ?_|refine Jl ?_|refine Jm ?_|refine Jn ?_|refine Jo ?_|refine Jp ?_|refine Jq ?_)|refine JA rfl ?_|refine JB rfl ?_|refine JC rfl ?_|refine JD rfl ?_|refine JE rfl ?_|refine JF rfl ?_|refine JG rfl ?_|refine JH rfl ?_|refine JI rfl ?_|refine J2 rfl ?_|refine J3 rfl ?_|refine J4 rfl ?_|refine J1 rfl ?_|refine J6 rfl ?_|refine J7 rfl ?_|refine JJ rfl ?_|refine JK rfl ?_|refine JQ rfl ?_|refine JL rfl rfl ?_|refine JM rfl rfl ?_|refine JN rfl ?_|refine JO rfl ?_|refine JP rfl ?_))
  refine e_call (L2 := []) rfl (sh_config s) S ?_
  rintro _ _ w ⟨rfl, rfl⟩ S
  replace S : Dn.Sep w s.L F := S
  refine e_nw S fun b7 w S => ?_
  refine e_st (vs := s.cfg.v) S 0 rfl rfl rfl rfl (by simp [Cfg.v, Value.flat]) (by simp) fun w S => ?_
  replace S : Dn.Sep w ([(b7, .cells ⟨s.cfg.v⟩ 53)] ++ s.L) F := S
  (repeat (first|(with_reducible first|refine Ja ?_|refine Jb ?_|refine Jc ?_|refine Jd ?_|refine Je ?_|refine Jf ?_|refine Jg ?_|refine Jh ?_|refine Ji ?_|refine Jj ?_|refine Jk rfl ?_|refine Jl ?_|refine Jm ?_|refine Jn ?_|refine Jo ?_|refine Jp ?_|refine Jq ?_)|refine JA rfl ?_|refine JB rfl ?_|refine JC rfl ?_|refine JD rfl ?_|refine JE rfl ?_|refine JF rfl ?_|refine JG rfl ?_|refine JH rfl ?_|refine JI rfl ?_|refine J2 rfl ?_|refine J3 rfl ?_|refine J4 rfl ?_|refine J1 rfl ?_|refine J6 rfl ?_|refine J7 rfl ?_|refine JJ rfl ?_|refine JK rfl ?_|refine JQ rfl ?_|refine JL rfl rfl ?_|refine JM rfl rfl ?_|refine JN rfl ?_|refine JO rfl ?_|refine JP rfl ?_))
  refine e_brD rfl (fun h1 => ?_) (fun h1 => ?_)
  · (repeat (first|(with_reducible first|refine Ja ?_|refine Jb ?_|refine Jc ?_|refine Jd ?_|refine Je ?_|refine Jf ?_|refine Jg ?_|refine Jh ?_|refine Ji ?_|refine Jj ?_|refine Jk rfl ?_|refine Jl ?_|refine Jm ?_|refine Jn ?_|refine Jo ?_|refine Jp ?_|refine Jq ?_)|refine JA rfl ?_|refine JB rfl ?_|refine JC rfl ?_|refine JD rfl ?_|refine JE rfl ?_|refine JF rfl ?_|refine JG rfl ?_|refine JH rfl ?_|refine JI rfl ?_|refine J2 rfl ?_|refine J3 rfl ?_|refine J4 rfl ?_|refine J1 rfl ?_|refine J6 rfl ?_|refine J7 rfl ?_|refine JJ rfl ?_|refine JK rfl ?_|refine JQ rfl ?_|refine JL rfl rfl ?_|refine JM rfl rfl ?_|refine JN rfl ?_|refine JO rfl ?_|refine JP rfl ?_))
    exact f_ret rfl rfl (hQ _ _ _ ⟨by unfold markedW; rw [if_pos (.inl h1)]; rfl, rfl⟩ (Sep.drop (L2 := [_]) S))
  (repeat (first|(with_reducible first|refine Ja ?_|refine Jb ?_|refine Jc ?_|refine Jd ?_|refine Je ?_|refine Jf ?_|refine Jg ?_|refine Jh ?_|refine Ji ?_|refine Jj ?_|refine Jk rfl ?_|refine Jl ?_|refine Jm ?_|refine Jn ?_|refine Jo ?_|refine Jp ?_|refine Jq ?_)|refine JA rfl ?_|refine JB rfl ?_|refine JC rfl ?_|refine JD rfl ?_|refine JE rfl ?_|refine JF rfl ?_|refine JG rfl ?_|refine JH rfl ?_|refine JI rfl ?_|refine J2 rfl ?_|refine J3 rfl ?_|refine J4 rfl ?_|refine J1 rfl ?_|refine J6 rfl ?_|refine J7 rfl ?_|refine JJ rfl ?_|refine JK rfl ?_|refine JQ rfl ?_|refine JL rfl rfl ?_|refine JM rfl rfl ?_|refine JN rfl ?_|refine JO rfl ?_|refine JP rfl ?_))
  refine e_ld (S.cell 0 rfl rfl) ?_
  (repeat (first|(with_reducible first|refine Ja ?_|refine Jb ?_|refine Jc ?_|refine Jd ?_|refine Je ?_|refine Jf ?_|refine Jg ?_|refine Jh ?_|refine Ji ?_|refine Jj ?_|refine Jk rfl ?_|refine Jl ?_|refine Jm ?_|refine Jn ?_|refine Jo ?_|refine Jp ?_|refine Jq ?_)|refine JA rfl ?_|refine JB rfl ?_|refine JC rfl ?_|refine JD rfl ?_|refine JE rfl ?_|refine JF rfl ?_|refine JG rfl ?_|refine JH rfl ?_|refine JI rfl ?_|refine J2 rfl ?_|refine J3 rfl ?_|refine J4 rfl ?_|refine J1 rfl ?_|refine J6 rfl ?_|refine J7 rfl ?_|refine JJ rfl ?_|refine JK rfl ?_|refine JQ rfl ?_|refine JL rfl rfl ?_|refine JM rfl rfl ?_|refine JN rfl ?_|refine JO rfl ?_|refine JP rfl ?_))
  refine s_iteD rfl (fun h2 => ?_) (fun h2 => ?_)
  · (repeat (first|(with_reducible first|refine Ja ?_|refine Jb ?_|refine Jc ?_|refine Jd ?_|refine Je ?_|refine Jf ?_|refine Jg ?_|refine Jh ?_|refine Ji ?_|refine Jj ?_|refine Jk rfl ?_|refine Jl ?_|refine Jm ?_|refine Jn ?_|refine Jo ?_|refine Jp ?_|refine Jq ?_)|refine JA rfl ?_|refine JB rfl ?_|refine JC rfl ?_|refine JD rfl ?_|refine JE rfl ?_|refine JF rfl ?_|refine JG rfl ?_|refine JH rfl ?_|refine JI rfl ?_|refine J2 rfl ?_|refine J3 rfl ?_|refine J4 rfl ?_|refine J1 rfl ?_|refine J6 rfl ?_|refine J7 rfl ?_|refine JJ rfl ?_|refine JK rfl ?_|refine JQ rfl ?_|refine JL rfl rfl ?_|refine JM rfl rfl ?_|refine JN rfl ?_|refine JO rfl ?_|refine JP rfl ?_))
    exact f_ret rfl rfl (hQ _ _ _ ⟨by unfold markedW; rw [if_pos (.inr h2)]; rfl, rfl⟩ (Sep.drop (L2 := [_]) S))
  (repeat (first|(with_reducible first|refine Ja ?_|refine Jb ?_|refine Jc ?_|refine Jd ?_|refine Je ?_|refine Jf ?_|refine Jg ?_|refine Jh ?_|refine Ji ?_|refine Jj ?_|refine Jk rfl ?_|refine Jl ?_|refine Jm ?_|refine Jn ?_|refine Jo ?_|refine Jp ?_|refine Jq ?_)|refine JA rfl ?_|refine JB rfl ?_|refine JC rfl ?_|refine JD rfl ?_|refine JE rfl ?_|refine JF rfl ?_|refine JG rfl ?_|refine JH rfl ?_|refine JI rfl ?_|refine J2 rfl ?_|refine J3 rfl ?_|refine J4 rfl ?_|refine J1 rfl ?_|refine J6 rfl ?_|refine J7 rfl ?_|refine JJ rfl ?_|refine JK rfl ?_|refine JQ rfl ?_|refine JL rfl rfl ?_|refine JM rfl rfl ?_|refine JN rfl ?_|refine JO rfl ?_|refine JP rfl ?_))
  refine e_ld (v := .agg ⟨s.cfg.v⟩) (S.row 0 rfl (by simp [Cfg.v]) rfl) ?_
  refine e_callP rfl (w_sectors s.cfg (by omega) (by omega)) S fun w S => ?_
  obtain ⟨RES, hRES⟩ : ∃ RES, mkdRun s d (if s.cfg.log ≥ 3 then 3 else 0) s.cfg.logN 0 0 = RES := ⟨_, rfl⟩
  have hM : markedW s d = RES := by unfold markedW; rw [if_neg (by omega), hRES]
  rw [hM] at hQ
  (repeat (first|(with_reducible first|refine Ja ?_|refine Jb ?_|refine Jc ?_|refine Jd ?_|refine Je ?_|refine Jf ?_|refine Jg ?_|refine Jh ?_|refine Ji ?_|refine Jj ?_|refine Jk rfl ?_|refine Jl ?_|refine Jm ?_|refine Jn ?_|refine Jo ?_|refine Jp ?_|refine Jq ?_)|refine JA rfl ?_|refine JB rfl ?_|refine JC rfl ?_|refine JD rfl ?_|refine JE rfl ?_|refine JF rfl ?_|refine JG rfl ?_|refine JH rfl ?_|refine JI rfl ?_|refine J2 rfl ?_|refine J3 rfl ?_|refine J4 rfl ?_|refine J1 rfl ?_|refine J6 rfl ?_|refine J7 rfl ?_|refine JJ rfl ?_|refine JK rfl ?_|refine JQ rfl ?_|refine JL rfl rfl ?_|refine JM rfl rfl ?_|refine JN rfl ?_|refine JO rfl ?_|refine JP rfl ?_))
  refine s_loop (σ := Nat × Int × Int) (fun q => [(8, .int .i64 (s.cfg.logN + q.1)), (4, .int .i64 q.2.1), (5, .int .i64 q.2.2), (0, s.v), (1, .int .i64 d), (7, .pointer (some ⟨b7, 0, none⟩))])
    (fun q w => q.1 ≤ (if s.cfg.log ≥ 3 then 3 else 0) ∧ mkdRun s d ((if s.cfg.log ≥ 3 then 3 else 0) - q.1) (s.cfg.logN + q.1) q.2.1 q.2.2 = RES ∧ ∃ X, Dn.Sep w ([(b7, .cells ⟨s.cfg.v⟩ 53)] ++ (X ++ s.L)) F) (fun q => 3 - q.1) (0, 0, 0)
    ⟨by show Value.int .i64 _ = Value.int .i64 _; simp, rfl, rfl, rfl, rfl, rfl, trivial⟩ rfl ⟨by simp, by simpa using hRES, ⟨[], S⟩⟩ ?_
  rintro gg ⟨i, la, od⟩ w ⟨hi, hres, X, S⟩
  simp only [setL] at hi hres S ⊢
  have done : ∀ {w : World} {T : Rg}, RES = (la, od, 0) → T.ds = [] → T.f 4 = .int .i64 la → T.f 5 = .int .i64 od → T.f 6 = .int .i64 0 → Dn.Sep w ([(b7, .cells ⟨s.cfg.v⟩ 53)] ++ (X ++ s.L)) F → finK [.t (.r 4), .t (.r 5), .t (.r 6)] Q .r T w := by
    intro w T hR h1 h2 h3 h4 S
    exact f_ret (vs := [.int .i64 la, .int .i64 od, .int .i64 0]) h1 (rvs3 (congrArg some h2) (congrArg some h3) (congrArg some h4)) (hQ _ _ _ ⟨by rw [hR]; rfl, rfl⟩ (Sep.drop (L2 := (b7, .cells ⟨s.cfg.v⟩ 53) :: X) S))
  (repeat (first|(with_reducible first|refine Ja ?_|refine Jb ?_|refine Jc ?_|refine Jd ?_|refine Je ?_|refine Jf ?_|refine Jg ?_|refine Jh ?_|refine Ji ?_|refine Jj ?_|refine Jk rfl ?_|refine Jl ?_|refine Jm ?_|refine Jn ?_|refine Jo ?_|refine Jp ?_|refine Jq ?_)|refine JA rfl ?_|refine JB rfl ?_|refine JC rfl ?_|refine JD rfl ?_|refine JE rfl ?_|refine JF rfl ?_|refine JG rfl ?_|refine JH rfl ?_|refine JI rfl ?_|refine J2 rfl ?_|refine J3 rfl ?_|refine J4 rfl ?_|refine J1 rfl ?_|refine J6 rfl ?_|refine J7 rfl ?_|refine JJ rfl ?_|refine JK rfl ?_|refine JQ rfl ?_|refine JL rfl rfl ?_|refine JM rfl rfl ?_|refine JN rfl ?_|refine JO rfl ?_|refine JP rfl ?_))
  refine e_ld (S.cell 0 rfl rfl) ?_
  (repeat (first|(with_reducible first|refine Ja ?_|refine Jb ?_|refine Jc ?_|refine Jd ?_|refine Je ?_|refine Jf ?_|refine Jg ?_|refine Jh ?_|refine Ji ?_|refine Jj ?_|refine Jk rfl ?_|refine Jl ?_|refine Jm ?_|refine Jn ?_|refine Jo ?_|refine Jp ?_|refine Jq ?_)|refine JA rfl ?_|refine JB rfl ?_|refine JC rfl ?_|refine JD rfl ?_|refine JE rfl ?_|refine JF rfl ?_|refine JG rfl ?_|refine JH rfl ?_|refine JI rfl ?_|refine J2 rfl ?_|refine J3 rfl ?_|refine J4 rfl ?_|refine J1 rfl ?_|refine J6 rfl ?_|refine J7 rfl ?_|refine JJ rfl ?_|refine JK rfl ?_|refine JQ rfl ?_|refine JL rfl rfl ?_|refine JM rfl rfl ?_|refine JN rfl ?_|refine JO rfl ?_|refine JP rfl ?_))
  refine e_brD rfl (fun h3 => ?_) (fun h3 => ?_)
  rotate_left
  · have : (if s.cfg.log ≥ 3 then 3 else 0) - i = 0 := by split at hi <;> split <;> omega
    rw [this] at hres
    (repeat (first|(with_reducible first|refine Ja ?_|refine Jb ?_|refine Jc ?_|refine Jd ?_|refine Je ?_|refine Jf ?_|refine Jg ?_|refine Jh ?_|refine Ji ?_|refine Jj ?_|refine Jk rfl ?_|refine Jl ?_|refine Jm ?_|refine Jn ?_|refine Jo ?_|refine Jp ?_|refine Jq ?_)|refine JA rfl ?_|refine JB rfl ?_|refine JC rfl ?_|refine JD rfl ?_|refine JE rfl ?_|refine JF rfl ?_|refine JG rfl ?_|refine JH rfl ?_|refine JI rfl ?_|refine J2 rfl ?_|refine J3 rfl ?_|refine J4 rfl ?_|refine J1 rfl ?_|refine J6 rfl ?_|refine J7 rfl ?_|refine JJ rfl ?_|refine JK rfl ?_|refine JQ rfl ?_|refine JL rfl rfl ?_|refine JM rfl rfl ?_|refine JN rfl ?_|refine JO rfl ?_|refine JP rfl ?_))
    exact done hres.symm rfl rfl rfl rfl S
  (repeat (first|(with_reducible first|refine Ja ?_|refine Jb ?_|refine Jc ?_|refine Jd ?_|refine Je ?_|refine Jf ?_|refine Jg ?_|refine Jh ?_|refine Ji ?_|refine Jj ?_|refine Jk rfl ?_|refine Jl ?_|refine Jm ?_|refine Jn ?_|refine Jo ?_|refine Jp ?_|refine Jq ?_)|refine JA rfl ?_|refine JB rfl ?_|refine JC rfl ?_|refine JD rfl ?_|refine JE rfl ?_|refine JF rfl ?_|refine JG rfl ?_|refine JH rfl ?_|refine JI rfl ?_|refine J2 rfl ?_|refine J3 rfl ?_|refine J4 rfl ?_|refine J1 rfl ?_|refine J6 rfl ?_|refine J7 rfl ?_|refine JJ rfl ?_|refine JK rfl ?_|refine JQ rfl ?_|refine JL rfl rfl ?_|refine JM rfl rfl ?_|refine JN rfl ?_|refine JO rfl ?_|refine JP rfl ?_))
  refine e_ld (S.cell 0 rfl rfl) ?_
  (repeat (first|(with_reducible first|refine Ja ?_|refine Jb ?_|refine Jc ?_|refine Jd ?_|refine Je ?_|refine Jf ?_|refine Jg ?_|refine Jh ?_|refine Ji ?_|refine Jj ?_|refine Jk rfl ?_|refine Jl ?_|refine Jm ?_|refine Jn ?_|refine Jo ?_|refine Jp ?_|refine Jq ?_)|refine JA rfl ?_|refine JB rfl ?_|refine JC rfl ?_|refine JD rfl ?_|refine JE rfl ?_|refine JF rfl ?_|refine JG rfl ?_|refine JH rfl ?_|refine JI rfl ?_|refine J2 rfl ?_|refine J3 rfl ?_|refine J4 rfl ?_|refine J1 rfl ?_|refine J6 rfl ?_|refine J7 rfl ?_|refine JJ rfl ?_|refine JK rfl ?_|refine JQ rfl ?_|refine JL rfl rfl ?_|refine JM rfl rfl ?_|refine JN rfl ?_|refine JO rfl ?_|refine JP rfl ?_))
  refine s_iteD rfl (fun h4 => ?_) (fun h4 => ?_)
  rotate_left
  · have : (if s.cfg.log ≥ 3 then 3 else 0) - i = 0 := by rw [if_neg (by omega)]; omega
    rw [this] at hres
    (repeat (first|(with_reducible first|refine Ja ?_|refine Jb ?_|refine Jc ?_|refine Jd ?_|refine Je ?_|refine Jf ?_|refine Jg ?_|refine Jh ?_|refine Ji ?_|refine Jj ?_|refine Jk rfl ?_|refine Jl ?_|refine Jm ?_|refine Jn ?_|refine Jo ?_|refine Jp ?_|refine Jq ?_)|refine JA rfl ?_|refine JB rfl ?_|refine JC rfl ?_|refine JD rfl ?_|refine JE rfl ?_|refine JF rfl ?_|refine JG rfl ?_|refine JH rfl ?_|refine JI rfl ?_|refine J2 rfl ?_|refine J3 rfl ?_|refine J4 rfl ?_|refine J1 rfl ?_|refine J6 rfl ?_|refine J7 rfl ?_|refine JJ rfl ?_|refine JK rfl ?_|refine JQ rfl ?_|refine JL rfl rfl ?_|refine JM rfl rfl ?_|refine JN rfl ?_|refine JO rfl ?_|refine JP rfl ?_))
    exact done hres.symm rfl rfl rfl rfl S
  have h4' : s.cfg.log ≥ 3 := h4
  have hlg := hlogN h4'
  rw [if_pos h4'] at hi hres
  have hi3 : i < 3 := by omega
  obtain ⟨k, hk⟩ : ∃ k, 3 - i = k + 1 := ⟨2 - i, by omega⟩
  have hk2 : 3 - (i + 1) = k := by omega
  rw [hk] at hres
  simp only [mkdRun] at hres
  obtain ⟨ix, hix⟩ : ∃ ix : Int, s.cfg.logN + i = ix := ⟨_, rfl⟩
  rw [hix] at hres h3 ⊢
  obtain ⟨RO, hRO⟩ : ∃ RO, s.rdO (plW d ix) = RO := ⟨_, rfl⟩
  have hlen : RO.1 = 0 → RO.2.length = 64 := fun h => by rw [← hRO] at h ⊢; exact rdO_len hs h
  rw [hRO] at hres
  have hpl : (plW d ix).ok := by unfold Pl.ok plW; simp only; omega
  have again : ∀ {w : World} {T : Rg} {la' od' : Int} {Y : List (Nat × Obj)}, mkdRun s d k (ix + 1) la' od' = RES → T.ds = [] → T.f 8 = .int .i64 (ix + 1) → T.f 4 = .int .i64 la' → T.f 5 = .int .i64 od' → T.f 0 = s.v → T.f 1 = .int .i64 d → T.f 7 = .pointer (some ⟨b7, 0, none⟩) →
      Dn.Sep w (Y ++ ((b7, .cells ⟨s.cfg.v⟩ 53) :: (X ++ s.L))) F → T.ds = [] ∧ ∃ s' : Nat × Int × Int, pins T [(8, .int .i64 (s.cfg.logN + s'.1)), (4, .int .i64 s'.2.1), (5, .int .i64 s'.2.2), (0, s.v), (1, .int .i64 d), (7, .pointer (some ⟨b7, 0, none⟩))] ∧
        (s'.1 ≤ (if s.cfg.log ≥ 3 then 3 else 0) ∧ mkdRun s d ((if s.cfg.log ≥ 3 then 3 else 0) - s'.1) (s.cfg.logN + s'.1) s'.2.1 s'.2.2 = RES ∧ ∃ X, Dn.Sep w ([(b7, .cells ⟨s.cfg.v⟩ 53)] ++ (X ++ s.L)) F) ∧ 3 - s'.1 < 3 - i := by
    intro w T la' od' Y hr e0 e1 e2 e3 e4 e5 e6 S
    have ei : s.cfg.logN + ((i + 1 : Nat) : Int) = ix + 1 := by omega
    refine ⟨e0, (i + 1, la', od'), ⟨by rw [e1]; simp only [ei], e2, e3, e4, e5, e6, trivial⟩, ⟨by rw [if_pos h4']; simp only; omega, ?_, X, Sep.drop (L2 := Y) S⟩, by simp only; omega⟩
    rw [if_pos h4']
    simp only [ei, hk2]
    exact hr
  (repeat (first|(with_reducible first|refine Ja ?_|refine Jb ?_|refine Jc ?_|refine Jd ?_|refine Je ?_|refine Jf ?_|refine Jg ?_|refine Jh ?_|refine Ji ?_|refine Jj ?_|refine Jk rfl ?_|refine Jl ?_|refine Jm ?_|refine Jn ?_|refine Jo ?_|refine Jp ?_|refine Jq ?_)|refine JA rfl ?_|refine JB rfl ?_|refine JC rfl ?_|refine JD rfl ?_|refine JE rfl ?_|refine JF rfl ?_|refine JG rfl ?_|refine JH rfl ?_|refine JI rfl ?_|refine J2 rfl ?_|refine J3 rfl ?_|refine J4 rfl ?_|refine J1 rfl ?_|refine J6 rfl ?_|refine J7 rfl ?_|refine JJ rfl ?_|refine JK rfl ?_|refine JQ rfl ?_|refine JL rfl rfl ?_|refine JM rfl rfl ?_|refine JN rfl ?_|refine JO rfl ?_|refine JP rfl ?_))
  refine e_nw S fun b9 w S => ?_
  refine e_st (vs := (plW d ix).v) S 0 rfl rfl rfl rfl (by simp [Pl.v, Value.flat]) (by simp) fun w S => ?_
  replace S : Dn.Sep w (((b9, .cells ⟨(plW d ix).v⟩ 46) :: (b7, .cells ⟨s.cfg.v⟩ 53) :: X) ++ s.L) F := S
  (repeat (first|(with_reducible first|refine Ja ?_|refine Jb ?_|refine Jc ?_|refine Jd ?_|refine Je ?_|refine Jf ?_|refine Jg ?_|refine Jh ?_|refine Ji ?_|refine Jj ?_|refine Jk rfl ?_|refine Jl ?_|refine Jm ?_|refine Jn ?_|refine Jo ?_|refine Jp ?_|refine Jq ?_)|refine JA rfl ?_|refine JB rfl ?_|refine JC rfl ?_|refine JD rfl ?_|refine JE rfl ?_|refine JF rfl ?_|refine JG rfl ?_|refine JH rfl ?_|refine JI rfl ?_|refine J2 rfl ?_|refine J3 rfl ?_|refine J4 rfl ?_|refine J1 rfl ?_|refine J6 rfl ?_|refine J7 rfl ?_|refine JJ rfl ?_|refine JK rfl ?_|refine JQ rfl ?_|refine JL rfl rfl ?_|refine JM rfl rfl ?_|refine JN rfl ?_|refine JO rfl ?_|refine JP rfl ?_))
  refine e_ld (v := .agg ⟨(plW d ix).v⟩) (S.row 0 rfl (by simp [Pl.v]) rfl) ?_
  refine e_call (L2 := _ :: _ :: X) rfl (sh_read s (plW d ix) hs) S ?_
  rintro _ _ w ⟨rfl, rfl⟩ S
  rw [rdV_O, hRO]
  refine e_mvT rfl ?_
  refine e_p (v := .string ⟨⟨RO.2⟩⟩) rfl ?_
  refine e_p (v := .int .i64 RO.1) rfl ?_
  refine e_mvS rfl ?_
  refine e_mvI rfl ?_
  (repeat (with_reducible first|refine Ja ?_|refine Jb ?_|refine Jc ?_|refine Jd ?_|refine Je ?_|refine Jf ?_|refine Jg ?_|refine Jh ?_|refine Ji ?_|refine Jj ?_|refine Jk rfl ?_|refine Jl ?_|refine Jm ?_|refine Jn ?_|refine Jo ?_|refine Jp ?_|refine Jq ?_))
  refine e_mvI rfl ?_
  refine e_p (cmp_neqD rfl rfl) ?_
  (repeat (with_reducible first|refine Ja ?_|refine Jb ?_|refine Jc ?_|refine Jd ?_|refine Je ?_|refine Jf ?_|refine Jg ?_|refine Jh ?_|refine Ji ?_|refine Jj ?_|refine Jk rfl ?_|refine Jl ?_|refine Jm ?_|refine Jn ?_|refine Jo ?_|refine Jp ?_|refine Jq ?_))
  refine s_iteN rfl (fun he => ?_) (fun he => ?_)
  · rw [if_pos he] at hres
    (repeat (first|(with_reducible first|refine Ja ?_|refine Jb ?_|refine Jc ?_|refine Jd ?_|refine Je ?_|refine Jf ?_|refine Jg ?_|refine Jh ?_|refine Ji ?_|refine Jj ?_|refine Jk rfl ?_|refine Jl ?_|refine Jm ?_|refine Jn ?_|refine Jo ?_|refine Jp ?_|refine Jq ?_)|refine JA rfl ?_|refine JB rfl ?_|refine JC rfl ?_|refine JD rfl ?_|refine JE rfl ?_|refine JF rfl ?_|refine JG rfl ?_|refine JH rfl ?_|refine JI rfl ?_|refine J2 rfl ?_|refine J3 rfl ?_|refine J4 rfl ?_|refine J1 rfl ?_|refine J6 rfl ?_|refine J7 rfl ?_|refine JJ rfl ?_|refine JK rfl ?_|refine JQ rfl ?_|refine JL rfl rfl ?_|refine JM rfl rfl ?_|refine JN rfl ?_|refine JO rfl ?_|refine JP rfl ?_))
    exact f_ret (vs := [.int .i64 0, .int .i64 0, .int .i64 RO.1]) rfl (rvs3 rfl rfl rfl) (hQ _ _ _ ⟨by rw [← hres]; rfl, rfl⟩ (Sep.drop (L2 := _ :: _ :: X) S))
  rw [if_neg (by simpa using he)] at hres
  (repeat (first|(with_reducible first|refine Ja ?_|refine Jb ?_|refine Jc ?_|refine Jd ?_|refine Je ?_|refine Jf ?_|refine Jg ?_|refine Jh ?_|refine Ji ?_|refine Jj ?_|refine Jk rfl ?_|refine Jl ?_|refine Jm ?_|refine Jn ?_|refine Jo ?_|refine Jp ?_|refine Jq ?_)|refine JA rfl ?_|refine JB rfl ?_|refine JC rfl ?_|refine JD rfl ?_|refine JE rfl ?_|refine JF rfl ?_|refine JG rfl ?_|refine JH rfl ?_|refine JI rfl ?_|refine J2 rfl ?_|refine J3 rfl ?_|refine J4 rfl ?_|refine J1 rfl ?_|refine J6 rfl ?_|refine J7 rfl ?_|refine JJ rfl ?_|refine JK rfl ?_|refine JQ rfl ?_|refine JL rfl rfl ?_|refine JM rfl rfl ?_|refine JN rfl ?_|refine JO rfl ?_|refine JP rfl ?_))
  refine e_ld (v := .agg ⟨(plW d ix).v⟩) (S.row 0 rfl (by simp [Pl.v]) rfl) ?_
  (repeat (first|(with_reducible first|refine Ja ?_|refine Jb ?_|refine Jc ?_|refine Jd ?_|refine Je ?_|refine Jf ?_|refine Jg ?_|refine Jh ?_|refine Ji ?_|refine Jj ?_|refine Jk rfl ?_|refine Jl ?_|refine Jm ?_|refine Jn ?_|refine Jo ?_|refine Jp ?_|refine Jq ?_)|refine JA rfl ?_|refine JB rfl ?_|refine JC rfl ?_|refine JD rfl ?_|refine JE rfl ?_|refine JF rfl ?_|refine JG rfl ?_|refine JH rfl ?_|refine JI rfl ?_|refine J2 rfl ?_|refine J3 rfl ?_|refine J4 rfl ?_|refine J1 rfl ?_|refine J6 rfl ?_|refine J7 rfl ?_|refine JJ rfl ?_|refine JK rfl ?_|refine JQ rfl ?_|refine JL rfl rfl ?_|refine JM rfl rfl ?_|refine JN rfl ?_|refine JO rfl ?_|refine JP rfl ?_))
  have hop := sec_open (plW d ix) RO.2 hpl (hlen he)
  unfold openV at hop
  cases hO : opened (plW d ix) RO.2 with
  | none =>
    rw [hO] at hop hres
    have hne : (if lblOK RO.2 then (8 : Int) else 7) ≠ 0 := by split <;> decide
    simp only at hop hres
    refine e_callP rfl hop S fun w S => ?_
    (repeat (first|(with_reducible first|refine Ja ?_|refine Jb ?_|refine Jc ?_|refine Jd ?_|refine Je ?_|refine Jf ?_|refine Jg ?_|refine Jh ?_|refine Ji ?_|refine Jj ?_|refine Jk rfl ?_|refine Jl ?_|refine Jm ?_|refine Jn ?_|refine Jo ?_|refine Jp ?_|refine Jq ?_)|refine JA rfl ?_|refine JB rfl ?_|refine JC rfl ?_|refine JD rfl ?_|refine JE rfl ?_|refine JF rfl ?_|refine JG rfl ?_|refine JH rfl ?_|refine JI rfl ?_|refine J2 rfl ?_|refine J3 rfl ?_|refine J4 rfl ?_|refine J1 rfl ?_|refine J6 rfl ?_|refine J7 rfl ?_|refine JJ rfl ?_|refine JK rfl ?_|refine JQ rfl ?_|refine JL rfl rfl ?_|refine JM rfl rfl ?_|refine JN rfl ?_|refine JO rfl ?_|refine JP rfl ?_))
    refine e_nw S fun b12 w S => ?_
    refine e_st (vs := zG.v) S 0 rfl rfl rfl rfl (by simp [zG, Gn.v, Value.flat]) (by simp) fun w S => ?_
    (repeat (with_reducible first|refine Ja ?_|refine Jb ?_|refine Jc ?_|refine Jd ?_|refine Je ?_|refine Jf ?_|refine Jg ?_|refine Jh ?_|refine Ji ?_|refine Jj ?_|refine Jk rfl ?_|refine Jl ?_|refine Jm ?_|refine Jn ?_|refine Jo ?_|refine Jp ?_|refine Jq ?_))
    refine e_mvS rfl ?_
    refine e_mvI rfl ?_
    (repeat (with_reducible first|refine Ja ?_|refine Jb ?_|refine Jc ?_|refine Jd ?_|refine Je ?_|refine Jf ?_|refine Jg ?_|refine Jh ?_|refine Ji ?_|refine Jj ?_|refine Jk rfl ?_|refine Jl ?_|refine Jm ?_|refine Jn ?_|refine Jo ?_|refine Jp ?_|refine Jq ?_))
    refine e_mvI rfl ?_
    refine e_p (cmp_neqD rfl rfl) ?_
    (repeat (with_reducible first|refine Ja ?_|refine Jb ?_|refine Jc ?_|refine Jd ?_|refine Je ?_|refine Jf ?_|refine Jg ?_|refine Jh ?_|refine Ji ?_|refine Jj ?_|refine Jk rfl ?_|refine Jl ?_|refine Jm ?_|refine Jn ?_|refine Jo ?_|refine Jp ?_|refine Jq ?_))
    refine s_iteN rfl (fun h3 => ?_) (fun h3 => absurd h3 hne)
    (repeat (first|(with_reducible first|refine Ja ?_|refine Jb ?_|refine Jc ?_|refine Jd ?_|refine Je ?_|refine Jf ?_|refine Jg ?_|refine Jh ?_|refine Ji ?_|refine Jj ?_|refine Jk rfl ?_|refine Jl ?_|refine Jm ?_|refine Jn ?_|refine Jo ?_|refine Jp ?_|refine Jq ?_)|refine JA rfl ?_|refine JB rfl ?_|refine JC rfl ?_|refine JD rfl ?_|refine JE rfl ?_|refine JF rfl ?_|refine JG rfl ?_|refine JH rfl ?_|refine JI rfl ?_|refine J2 rfl ?_|refine J3 rfl ?_|refine J4 rfl ?_|refine J1 rfl ?_|refine J6 rfl ?_|refine J7 rfl ?_|refine JJ rfl ?_|refine JK rfl ?_|refine JQ rfl ?_|refine JL rfl rfl ?_|refine JM rfl rfl ?_|refine JN rfl ?_|refine JO rfl ?_|refine JP rfl ?_))
    refine e_add (a := ix) (b := 1) rfl rfl (by omega) (by omega) ?_
    (repeat (first|(with_reducible first|refine Ja ?_|refine Jb ?_|refine Jc ?_|refine Jd ?_|refine Je ?_|refine Jf ?_|refine Jg ?_|refine Jh ?_|refine Ji ?_|refine Jj ?_|refine Jk rfl ?_|refine Jl ?_|refine Jm ?_|refine Jn ?_|refine Jo ?_|refine Jp ?_|refine Jq ?_)|refine JA rfl ?_|refine JB rfl ?_|refine JC rfl ?_|refine JD rfl ?_|refine JE rfl ?_|refine JF rfl ?_|refine JG rfl ?_|refine JH rfl ?_|refine JI rfl ?_|refine J2 rfl ?_|refine J3 rfl ?_|refine J4 rfl ?_|refine J1 rfl ?_|refine J6 rfl ?_|refine J7 rfl ?_|refine JJ rfl ?_|refine JK rfl ?_|refine JQ rfl ?_|refine JL rfl rfl ?_|refine JM rfl rfl ?_|refine JN rfl ?_|refine JO rfl ?_|refine JP rfl ?_))
    exact again (Y := [_, _]) hres rfl rfl rfl rfl rfl rfl rfl S
  | some gp =>
    obtain ⟨gn, pl⟩ := gp
    rw [hO] at hop hres
    simp only at hop hres
    refine e_callP rfl hop S fun w S => ?_
    (repeat (first|(with_reducible first|refine Ja ?_|refine Jb ?_|refine Jc ?_|refine Jd ?_|refine Je ?_|refine Jf ?_|refine Jg ?_|refine Jh ?_|refine Ji ?_|refine Jj ?_|refine Jk rfl ?_|refine Jl ?_|refine Jm ?_|refine Jn ?_|refine Jo ?_|refine Jp ?_|refine Jq ?_)|refine JA rfl ?_|refine JB rfl ?_|refine JC rfl ?_|refine JD rfl ?_|refine JE rfl ?_|refine JF rfl ?_|refine JG rfl ?_|refine JH rfl ?_|refine JI rfl ?_|refine J2 rfl ?_|refine J3 rfl ?_|refine J4 rfl ?_|refine J1 rfl ?_|refine J6 rfl ?_|refine J7 rfl ?_|refine JJ rfl ?_|refine JK rfl ?_|refine JQ rfl ?_|refine JL rfl rfl ?_|refine JM rfl rfl ?_|refine JN rfl ?_|refine JO rfl ?_|refine JP rfl ?_))
    refine e_nw S fun b12 w S => ?_
    refine e_st (vs := gn.v) S 0 rfl rfl rfl rfl (by simp [Gn.v, Value.flat]) (by simp) fun w S => ?_
    (repeat (first|(with_reducible first|refine Ja ?_|refine Jb ?_|refine Jc ?_|refine Jd ?_|refine Je ?_|refine Jf ?_|refine Jg ?_|refine Jh ?_|refine Ji ?_|refine Jj ?_|refine Jk rfl ?_|refine Jl ?_|refine Jm ?_|refine Jn ?_|refine Jo ?_|refine Jp ?_|refine Jq ?_)|refine JA rfl ?_|refine JB rfl ?_|refine JC rfl ?_|refine JD rfl ?_|refine JE rfl ?_|refine JF rfl ?_|refine JG rfl ?_|refine JH rfl ?_|refine JI rfl ?_|refine J2 rfl ?_|refine J3 rfl ?_|refine J4 rfl ?_|refine J1 rfl ?_|refine J6 rfl ?_|refine J7 rfl ?_|refine JJ rfl ?_|refine JK rfl ?_|refine JQ rfl ?_|refine JL rfl rfl ?_|refine JM rfl rfl ?_|refine JN rfl ?_|refine JO rfl ?_|refine JP rfl ?_))
    refine e_ld (v := .int .i64 gn.epoch) (S.cell 0 rfl rfl) ?_
    refine e_p (v := .int .i64 (maxI la gn.epoch)) rfl ?_
    (repeat (first|(with_reducible first|refine Ja ?_|refine Jb ?_|refine Jc ?_|refine Jd ?_|refine Je ?_|refine Jf ?_|refine Jg ?_|refine Jh ?_|refine Ji ?_|refine Jj ?_|refine Jk rfl ?_|refine Jl ?_|refine Jm ?_|refine Jn ?_|refine Jo ?_|refine Jp ?_|refine Jq ?_)|refine JA rfl ?_|refine JB rfl ?_|refine JC rfl ?_|refine JD rfl ?_|refine JE rfl ?_|refine JF rfl ?_|refine JG rfl ?_|refine JH rfl ?_|refine JI rfl ?_|refine J2 rfl ?_|refine J3 rfl ?_|refine J4 rfl ?_|refine J1 rfl ?_|refine J6 rfl ?_|refine J7 rfl ?_|refine JJ rfl ?_|refine JK rfl ?_|refine JQ rfl ?_|refine JL rfl rfl ?_|refine JM rfl rfl ?_|refine JN rfl ?_|refine JO rfl ?_|refine JP rfl ?_))
    refine e_ld (v := .int .i64 gn.epoch) (S.cell 0 rfl rfl) ?_
    refine e_arv rfl rfl (ar_remI gn.epoch 2 (by omega)) ?_
    refine e_p (cmp_eqlD rfl rfl) ?_
    (repeat (with_reducible first|refine Ja ?_|refine Jb ?_|refine Jc ?_|refine Jd ?_|refine Je ?_|refine Jf ?_|refine Jg ?_|refine Jh ?_|refine Ji ?_|refine Jj ?_|refine Jk rfl ?_|refine Jl ?_|refine Jm ?_|refine Jn ?_|refine Jo ?_|refine Jp ?_|refine Jq ?_))
    refine s_iteD rfl (fun ho => ?_) (fun ho => ?_)
    · rw [if_pos ho] at hres
      (repeat (first|(with_reducible first|refine Ja ?_|refine Jb ?_|refine Jc ?_|refine Jd ?_|refine Je ?_|refine Jf ?_|refine Jg ?_|refine Jh ?_|refine Ji ?_|refine Jj ?_|refine Jk rfl ?_|refine Jl ?_|refine Jm ?_|refine Jn ?_|refine Jo ?_|refine Jp ?_|refine Jq ?_)|refine JA rfl ?_|refine JB rfl ?_|refine JC rfl ?_|refine JD rfl ?_|refine JE rfl ?_|refine JF rfl ?_|refine JG rfl ?_|refine JH rfl ?_|refine JI rfl ?_|refine J2 rfl ?_|refine J3 rfl ?_|refine J4 rfl ?_|refine J1 rfl ?_|refine J6 rfl ?_|refine J7 rfl ?_|refine JJ rfl ?_|refine JK rfl ?_|refine JQ rfl ?_|refine JL rfl rfl ?_|refine JM rfl rfl ?_|refine JN rfl ?_|refine JO rfl ?_|refine JP rfl ?_))
      refine e_ld (v := .int .i64 gn.epoch) (S.cell 0 rfl rfl) ?_
      refine e_p (v := .int .i64 (maxI od gn.epoch)) rfl ?_
      (repeat (first|(with_reducible first|refine Ja ?_|refine Jb ?_|refine Jc ?_|refine Jd ?_|refine Je ?_|refine Jf ?_|refine Jg ?_|refine Jh ?_|refine Ji ?_|refine Jj ?_|refine Jk rfl ?_|refine Jl ?_|refine Jm ?_|refine Jn ?_|refine Jo ?_|refine Jp ?_|refine Jq ?_)|refine JA rfl ?_|refine JB rfl ?_|refine JC rfl ?_|refine JD rfl ?_|refine JE rfl ?_|refine JF rfl ?_|refine JG rfl ?_|refine JH rfl ?_|refine JI rfl ?_|refine J2 rfl ?_|refine J3 rfl ?_|refine J4 rfl ?_|refine J1 rfl ?_|refine J6 rfl ?_|refine J7 rfl ?_|refine JJ rfl ?_|refine JK rfl ?_|refine JQ rfl ?_|refine JL rfl rfl ?_|refine JM rfl rfl ?_|refine JN rfl ?_|refine JO rfl ?_|refine JP rfl ?_))
      refine e_add (a := ix) (b := 1) rfl rfl (by omega) (by omega) ?_
      (repeat (first|(with_reducible first|refine Ja ?_|refine Jb ?_|refine Jc ?_|refine Jd ?_|refine Je ?_|refine Jf ?_|refine Jg ?_|refine Jh ?_|refine Ji ?_|refine Jj ?_|refine Jk rfl ?_|refine Jl ?_|refine Jm ?_|refine Jn ?_|refine Jo ?_|refine Jp ?_|refine Jq ?_)|refine JA rfl ?_|refine JB rfl ?_|refine JC rfl ?_|refine JD rfl ?_|refine JE rfl ?_|refine JF rfl ?_|refine JG rfl ?_|refine JH rfl ?_|refine JI rfl ?_|refine J2 rfl ?_|refine J3 rfl ?_|refine J4 rfl ?_|refine J1 rfl ?_|refine J6 rfl ?_|refine J7 rfl ?_|refine JJ rfl ?_|refine JK rfl ?_|refine JQ rfl ?_|refine JL rfl rfl ?_|refine JM rfl rfl ?_|refine JN rfl ?_|refine JO rfl ?_|refine JP rfl ?_))
      exact again (Y := [_, _]) hres rfl rfl rfl rfl rfl rfl rfl S
    · rw [if_neg ho] at hres
      (repeat (first|(with_reducible first|refine Ja ?_|refine Jb ?_|refine Jc ?_|refine Jd ?_|refine Je ?_|refine Jf ?_|refine Jg ?_|refine Jh ?_|refine Ji ?_|refine Jj ?_|refine Jk rfl ?_|refine Jl ?_|refine Jm ?_|refine Jn ?_|refine Jo ?_|refine Jp ?_|refine Jq ?_)|refine JA rfl ?_|refine JB rfl ?_|refine JC rfl ?_|refine JD rfl ?_|refine JE rfl ?_|refine JF rfl ?_|refine JG rfl ?_|refine JH rfl ?_|refine JI rfl ?_|refine J2 rfl ?_|refine J3 rfl ?_|refine J4 rfl ?_|refine J1 rfl ?_|refine J6 rfl ?_|refine J7 rfl ?_|refine JJ rfl ?_|refine JK rfl ?_|refine JQ rfl ?_|refine JL rfl rfl ?_|refine JM rfl rfl ?_|refine JN rfl ?_|refine JO rfl ?_|refine JP rfl ?_))
      refine e_add (a := ix) (b := 1) rfl rfl (by omega) (by omega) ?_
      (repeat (first|(with_reducible first|refine Ja ?_|refine Jb ?_|refine Jc ?_|refine Jd ?_|refine Je ?_|refine Jf ?_|refine Jg ?_|refine Jh ?_|refine Ji ?_|refine Jj ?_|refine Jk rfl ?_|refine Jl ?_|refine Jm ?_|refine Jn ?_|refine Jo ?_|refine Jp ?_|refine Jq ?_)|refine JA rfl ?_|refine JB rfl ?_|refine JC rfl ?_|refine JD rfl ?_|refine JE rfl ?_|refine JF rfl ?_|refine JG rfl ?_|refine JH rfl ?_|refine JI rfl ?_|refine J2 rfl ?_|refine J3 rfl ?_|refine J4 rfl ?_|refine J1 rfl ?_|refine J6 rfl ?_|refine J7 rfl ?_|refine JJ rfl ?_|refine JK rfl ?_|refine JQ rfl ?_|refine JL rfl rfl ?_|refine JM rfl rfl ?_|refine JN rfl ?_|refine JO rfl ?_|refine JP rfl ?_))
      exact again (Y := [_, _]) hres rfl rfl rfl rfl rfl rfl rfl S

end Go.Proofs.Ytgendpinmmmfjaa

/-
  What the model computes does not hang on block numbers.
-/
namespace Dn
open Go

def eD (D : Dk) : Dk := { D with q := 0, b := 0, c := 0, a := 0 }
def eB (b : Dk × Int) : Dk × Int := (eD b.1, b.2)
/-- a shelf without its block numbers -/
def erase (s : Sh) : Sh := { s with q := 0, bb := 0, cap := 0, sp := [], fr := (0, 0), bays := s.bays.map eB }

theorem er_bay (s : Sh) (d : Nat) : (erase s).bays[d]? = (s.bays[d]?).map eB := by simp [erase]
theorem er_state (s : Sh) (d : Int) : (erase s).state d = s.state d := by
  unfold Sh.state
  rw [er_bay]
  simp only [erase, List.length_map]
  split
  · rfl
  · cases s.bays[d.toNat]? <;> rfl
theorem er_num (s : Sh) (p : Pl) : (erase s).num p = s.num p := by
  unfold Sh.num
  rw [er_state]; rfl
theorem er_acc (s : Sh) (d : Nat) : (erase s).acc d = s.acc d := by
  unfold Sh.acc
  rw [er_bay]
  cases h : s.bays[d]? <;> rfl
theorem er_dk (s : Sh) (d : Nat) : (erase s).dk d = eD (s.dk d) := by
  unfold Sh.dk
  rw [er_bay]
  cases s.bays[d]? <;> rfl
theorem er_stepE (s : Sh) (d : Nat) : (erase s).stepE d = s.stepE d := by unfold Sh.stepE; rw [er_acc]; rfl
theorem er_wrE (s : Sh) (p : Pl) (t : Sec) : (erase s).wrE p t = s.wrE p t := by unfold Sh.wrE; rw [er_num, er_stepE]
theorem er_rdO (s : Sh) (p : Pl) : (erase s).rdO p = s.rdO p := by
  unfold Sh.rdO
  rw [er_num, er_acc, er_dk]; rfl
theorem er_write (D : Dk) (i : Int) (t : Sec) : (eD D).write i t = eD (D.write i t) := by
  unfold Dk.write eD
  simp only
  split <;> rfl
theorem er_setD (s : Sh) (d : Nat) (D : Dk) : (erase s).setD d (eD D) = erase (s.setD d D) := by
  unfold Sh.setD
  rw [er_bay]
  simp only [erase, List.map_set]
  congr 2
  cases s.bays[d]? <;> rfl
theorem er_stepS (s : Sh) (d : Nat) (D : Dk) : (erase s).stepS d (eD D) = erase (s.stepS d D) := by
  unfold Sh.stepS
  rw [er_acc]
  have h1 : (erase s).fused = s.fused := rfl
  have h2 : (erase s).left = s.left := rfl
  rw [h1, h2]
  split
  · rfl
  split
  · split
    · rfl
    · have := er_setD s d D
      rw [this]; rfl
  · exact er_setD s d D
theorem er_wrS (s : Sh) (p : Pl) (t : Sec) : (erase s).wrS p t = erase (s.wrS p t) := by
  unfold Sh.wrS
  rw [er_num]
  split
  · rfl
  · rw [er_dk, er_write, er_stepS]
theorem er_appW (d : Int) (t : Tl) (g : Gn) (r : Sec) : ∀ (k i : Nat) (s : Sh), appW d t g r k i (erase s) = ((appW d t g r k i s).1, erase (appW d t g r k i s).2) := by
  intro k
  induction k with
  | zero => intro i s; rfl
  | succ k ih =>
    intro i s
    simp only [appW, er_wrE, er_wrS]
    split
    · exact ih _ _
    · rfl
theorem er_append (s : Sh) (d : Int) (t : Tl) (g : Gn) (r : Sec) : appendW (erase s) d t g r = ((appendW s d t g r).1, (appendW s d t g r).2.1, erase (appendW s d t g r).2.2) := by
  have hv : (validW (erase s) d t ∧ g.ok0) ↔ (validW s d t ∧ g.ok0) := Iff.rfl
  have hc : (erase s).cfg = s.cfg := rfl
  unfold appendW
  rw [hc, er_appW]
  by_cases h1 : validW s d t ∧ g.ok0
  · rw [if_neg (fun h => h (hv.2 h1))]
    rw [show ∀ (x y : Tl × Int × Sh), (if ¬ (validW s d t ∧ g.ok0) then x else y) = y from fun x y => if_neg (fun h => h h1)]
    by_cases h2 : ¬ g.newer t.gen
    · rw [if_pos h2, if_pos h2]
    rw [if_neg h2, if_neg h2]
    by_cases h3 : r.length > 4096
    · rw [if_pos h3, if_pos h3]
    rw [if_neg h3, if_neg h3]
    by_cases h4 : t.next + sizeW r.length > s.cfg.logN
    · rw [if_pos h4, if_pos h4]
    rw [if_neg h4, if_neg h4]
    by_cases h5 : (appW d t g r (sizeW r.length) 0 s).1 = 0
    · rw [if_pos h5, if_pos h5]
    · rw [if_neg h5, if_neg h5]
  · rw [if_pos (fun h => h1 (hv.1 h)), if_pos h1]
theorem er_read (s : Sh) (d i : Int) : readW (erase s) d i = readW s d i := by
  unfold readW
  rw [er_rdO]; rfl
theorem er_rest (s : Sh) (d : Int) (t : Tl) (x : Pt) : ∀ (k i : Nat) (acc : Sec), restW (erase s) d t x k i acc = restW s d t x k i acc := by
  intro k
  induction k with
  | zero => intro i acc; rfl
  | succ k ih => intro i acc; simp only [restW, er_read, ih]
theorem er_next (s : Sh) (d : Int) (t : Tl) : nextW (erase s) d t = nextW s d t := by
  unfold nextW
  simp only [er_read, er_rest]
theorem er_scanW (s : Sh) (d : Int) : ∀ (k : Nat) (t : Tl) (acc : List Sec), scanW (erase s) d k t acc = scanW s d k t acc := by
  intro k
  induction k with
  | zero => intro t acc; rfl
  | succ k ih => intro t acc; simp only [scanW, er_next, ih]
theorem er_scan (s : Sh) (d : Int) (t : Tl) : scanFull (erase s) d t = scanFull s d t := by
  unfold scanFull
  rw [er_scanW]
  by_cases h : validW s d t
  · rw [if_pos (show validW (erase s) d t from h), if_pos h]
  · rw [if_neg (show ¬ validW (erase s) d t from h), if_neg h]
theorem er_mark (s : Sh) (d n : Int) : markW (erase s) d n = ((markW s d n).1, erase (markW s d n).2) := by
  have hp : markP (erase s) d n = markP s d n := rfl
  unfold markW
  rw [hp, er_wrE, er_wrS]
  by_cases h : markOK s d n
  · rw [if_pos (show markOK (erase s) d n from h), if_pos h]
  · rw [if_neg (show ¬ markOK (erase s) d n from h), if_neg h]
theorem er_mkd (s : Sh) (d : Int) : ∀ (k : Nat) (i la od : Int), mkdRun (erase s) d k i la od = mkdRun s d k i la od := by
  intro k
  induction k with
  | zero => intro i la od; rfl
  | succ k ih => intro i la od; simp only [mkdRun, er_rdO, ih]
theorem er_marked (s : Sh) (d : Int) : markedW (erase s) d = markedW s d := by
  unfold markedW
  rw [er_mkd]; rfl

/-- a new shelf, for reckoning -/
def dk0 (n : Nat) : Dk := ⟨0, 0, 0, 0, List.replicate n zsec, ⟨[], 0⟩, ⟨[], 0⟩⟩
def sh0 (c : Cfg) : Sh := ⟨0, 0, 0, [], (0, 0), c, List.replicate c.disks.toNat (dk0 c.total.toNat, 1), false, false, 0⟩

end Dn

/-
  A new shelf without its block numbers; the sanity example reckoned.
-/
namespace Go.Proofs.Ytgendpinmmmfjaa
open Dn
attribute [local irreducible] Evs Ev EvT DSpec PSpec CallTo
set_option maxRecDepth 100000

theorem fresh_erase {s : Sh} {c : Cfg} (h : ShFresh s c) : erase s = sh0 c := by
  have hb : s.bays.map eB = List.replicate c.disks.toNat (dk0 c.total.toNat, 1) := by
    rw [List.eq_replicate_iff]
    refine ⟨by rw [List.length_map]; have := h.len; omega, fun x hx => ?_⟩
    obtain ⟨b, hb, rfl⟩ := List.mem_map.1 hx
    obtain ⟨h1, h2, h3, h4⟩ := h.bay b hb
    obtain ⟨D, st⟩ := b
    simp only at h1 h2 h3 h4
    subst h1
    simp only [eB, eD, dk0, h2, h3, h4]
  unfold erase sh0
  rw [hb, h.off, h.fused, h.left, h.cfg]

/-! the sanity example -/
def sS : Sh := sh0 (lawCfg 8)
def sA : Tl × Int × Sh := appendW sS 0 zT ⟨1, 1⟩ [97, 98]
def sB : Tl × Int × Sh := appendW sA.2.2 0 sA.1 ⟨1, 2⟩ (textW 27 97)
def sStale : Tl × Int × Sh := appendW sB.2.2 0 sB.1 ⟨1, 2⟩ [99]
def sFull : Tl × Int × Sh := appendW sStale.2.2 0 sB.1 ⟨1, 3⟩ (textW 131 97)
def sM4 : Int × Sh := markW sFull.2.2 0 4
def sM5 : Int × Sh := markW sM4.2 0 5
def sM6 : Int × Sh := markW sM5.2 0 6
theorem san1 : sA.2.1 = 0 ∧ sA.1 = ⟨1, 1, ⟨1, 1⟩⟩ ∧ sB.2.1 = 0 ∧ sB.1 = ⟨3, 2, ⟨1, 2⟩⟩ := by decide +kernel
theorem san2 : sStale.2.1 = 9 ∧ sFull.2.1 = 16 := by decide +kernel
theorem san3 : scanFull sB.2.2 0 zT = ([[97, 98], textW 27 97], sB.1, 0) := by decide +kernel
theorem san4 : markedW sFull.2.2 0 = (0, 0, 0) ∧ sM4.1 = 0 ∧ sM5.1 = 0 ∧ sM6.1 = 0 ∧ markedW sM6.2 0 = (6, 5, 0) ∧ (markW sM6.2 0 0).1 = 1 := by decide +kernel

end Go.Proofs.Ytgendpinmmmfjaa

/-
  The walk of sanity: its second half.
-/
namespace Go.Proofs.Ytgendpinmmmfjaa
open Dn
attribute [local irreducible] Evs Ev EvT DSpec PSpec CallTo
set_option maxRecDepth 100000
set_option maxHeartbeats 4000000

theorem ap_facts {s S0 : Sh} (h : s.ok) (e : erase s = S0) (d : Int) (t : Tl) (g : Gn) (r : Sec) : (appendW s d t g r).1 = (appendW S0 d t g r).1 ∧ (appendW s d t g r).2.1 = (appendW S0 d t g r).2.1 ∧ erase (appendW s d t g r).2.2 = (appendW S0 d t g r).2.2 ∧ (appendW s d t g r).2.2.ok ∧ (appendW s d t g r).2.2.v = s.v := by
  have h1 := er_append s d t g r
  rw [e] at h1
  obtain ⟨k1, k2, k3⟩ := append_ok h d t g r
  rw [h1]
  exact ⟨rfl, rfl, rfl, k1, by simp only [Sh.v, k3]⟩
theorem mark_ok {s : Sh} (h : s.ok) (d n : Int) : (markW s d n).2.ok ∧ (markW s d n).2.cfg = s.cfg ∧ (markW s d n).2.q = s.q := by
  unfold markW
  split
  · exact wr_ok h _ _
  · exact ⟨h, rfl, rfl⟩
theorem mk_facts {s S0 : Sh} (h : s.ok) (e : erase s = S0) (d n : Int) : (markW s d n).1 = (markW S0 d n).1 ∧ erase (markW s d n).2 = (markW S0 d n).2 ∧ (markW s d n).2.ok ∧ (markW s d n).2.v = s.v := by
  have h1 := er_mark s d n
  rw [e] at h1
  obtain ⟨k1, k2, k3⟩ := mark_ok h d n
  rw [h1]
  exact ⟨rfl, rfl, k1, by simp only [Sh.v, k3]⟩

/-- What stands behind n pieces of code. -/
def cdTl : Nat → Cd → Cd
  | 0, a => a
  | n + 1, .seq _ b => cdTl n b
  | _ + 1, a => a

theorem l_sanityB {w : World} {F : Fr} {Q : Value → World → Prop} {s q : Sh} {b9 b6 b4 b3 : Nat} {adl : Option Addr} {capl : Nat} {Ll : List (Nat × Obj)} {gg : Nat → Value}
    (hb1 : q.ok) (hb2 : q.v = s.v) (hb3 : erase q = sFull.2.2) (hOl : OwnT adl 2 capl [[97, 98], textW 27 97] Ll)
    (S : Dn.Sep w (([(b9, .cells ⟨sB.1.v⟩ 31), (b6, .cells ⟨sB.1.v⟩ 31), (b4, .cells ⟨sA.1.v⟩ 31), (b3, .cells ⟨zT.v⟩ 31)] ++ Ll) ++ q.L) F)
    (hQ : ∀ w, Dn.Sep w [] F → Q (.bool true) w) :
    Ev Try.prog 185 (cdTl 9 c10.body) (finK [.t (.r 0)] Q) (setL ⟨gg, []⟩ [(14, .int .i64 16), (1, s.v), (4, .pointer (some ⟨b4, 0, none⟩)), (6, .pointer (some ⟨b6, 0, none⟩)), (9, .pointer (some ⟨b9, 0, none⟩)), (5, .int .i64 0), (7, .int .i64 0), (8, .slice adl 2 capl), (10, .int .i64 0), (12, .int .i64 9)]) w := by
  have san1' := san1
  have san2' := san2
  have san3' := san3
  obtain ⟨m1, m2, m3, m4, m5, m6⟩ := san4
  show Ev Try.prog 185 (.seq _ _) _ _ _
  simp only [setL]
  have hmk : ∀ {q : Sh} {S0 : Sh}, q.ok → q.v = s.v → erase q = S0 → ∀ {a b c : Int}, markedW S0 0 = (a, b, c) → DSpec Try.prog 24 [s.v, .int .i64 0] q.L fun v L => v = .tuple ⟨[.int .i64 a, .int .i64 b, .int .i64 c]⟩ ∧ L = q.L := by
    intro q S0 h1 h2 h3 a b c h4
    have := w_marked q 0 h1
    rw [← er_marked q 0, h3, h4, h2] at this
    exact this
  have hmr : ∀ {q : Sh} {S0 : Sh} {n e : Int}, q.ok → q.v = s.v → erase q = S0 → (markW S0 0 n).1 = e → DSpec Try.prog 23 [s.v, .int .i64 0, .int .i64 n] q.L fun v L => v = .int .i64 e ∧ ∃ q' : Sh, L = q'.L ∧ q'.ok ∧ q'.v = s.v ∧ erase q' = (markW S0 0 n).2 := by
    intro q S0 n e h1 h2 h3 h4
    have := w_mark q 0 n h1
    obtain ⟨g1, g2, g3, g4⟩ := mk_facts h1 h3 0 n
    rw [h2, g1, h4] at this
    refine this.mono ?_
    rintro v L ⟨h5, h6⟩
    exact ⟨h5, _, h6, g3, g4.trans h2, g2⟩
  rw [san1'.2.1, san1'.2.2.2] at S
  (repeat (first|(with_reducible first|refine Ja ?_|refine Jb ?_|refine Jc ?_|refine Jd ?_|refine Je ?_|refine Jf ?_|refine Jg ?_|refine Jh ?_|refine Ji ?_|refine Jj ?_|refine Jk rfl ?_|refine Jl ?_|refine Jm ?_|refine Jn ?_|refine Jo ?_|refine Jp ?_|refine Jq ?_)|refine JA rfl ?_|refine JB rfl ?_|refine JC rfl ?_|refine JD rfl ?_|refine JE rfl ?_|refine JF rfl ?_|refine JG rfl ?_|refine JH rfl ?_|refine JI rfl ?_|refine J2 rfl ?_|refine J3 rfl ?_|refine J4 rfl ?_|refine J1 rfl ?_|refine J6 rfl ?_|refine J7 rfl ?_|refine JJ rfl ?_|refine JK rfl ?_|refine JQ rfl ?_|refine JL rfl rfl ?_|refine JM rfl rfl ?_|refine JN rfl ?_|refine JO rfl ?_|refine JP rfl ?_))
  refine e_call (L2 := _ ++ Ll) rfl (hmk hb1 hb2 hb3 m1) S ?_
  rintro _ _ w ⟨rfl, rfl⟩ S
  (repeat (first|(with_reducible first|refine Ja ?_|refine Jb ?_|refine Jc ?_|refine Jd ?_|refine Je ?_|refine Jf ?_|refine Jg ?_|refine Jh ?_|refine Ji ?_|refine Jj ?_|refine Jk rfl ?_|refine Jl ?_|refine Jm ?_|refine Jn ?_|refine Jo ?_|refine Jp ?_|refine Jq ?_)|refine JA rfl ?_|refine JB rfl ?_|refine JC rfl ?_|refine JD rfl ?_|refine JE rfl ?_|refine JF rfl ?_|refine JG rfl ?_|refine JH rfl ?_|refine JI rfl ?_|refine J2 rfl ?_|refine J3 rfl ?_|refine J4 rfl ?_|refine J1 rfl ?_|refine J6 rfl ?_|refine J7 rfl ?_|refine JJ rfl ?_|refine JK rfl ?_|refine JQ rfl ?_|refine JL rfl rfl ?_|refine JM rfl rfl ?_|refine JN rfl ?_|refine JO rfl ?_|refine JP rfl ?_))
  refine e_call (L2 := _ ++ Ll) rfl (hmr hb1 hb2 hb3 (n := 4) m2) S ?_
  rintro _ _ w ⟨rfl, q4, rfl, k1, k2, k3⟩ S
  (repeat (first|(with_reducible first|refine Ja ?_|refine Jb ?_|refine Jc ?_|refine Jd ?_|refine Je ?_|refine Jf ?_|refine Jg ?_|refine Jh ?_|refine Ji ?_|refine Jj ?_|refine Jk rfl ?_|refine Jl ?_|refine Jm ?_|refine Jn ?_|refine Jo ?_|refine Jp ?_|refine Jq ?_)|refine JA rfl ?_|refine JB rfl ?_|refine JC rfl ?_|refine JD rfl ?_|refine JE rfl ?_|refine JF rfl ?_|refine JG rfl ?_|refine JH rfl ?_|refine JI rfl ?_|refine J2 rfl ?_|refine J3 rfl ?_|refine J4 rfl ?_|refine J1 rfl ?_|refine J6 rfl ?_|refine J7 rfl ?_|refine JJ rfl ?_|refine JK rfl ?_|refine JQ rfl ?_|refine JL rfl rfl ?_|refine JM rfl rfl ?_|refine JN rfl ?_|refine JO rfl ?_|refine JP rfl ?_))
  refine e_call (L2 := _ ++ Ll) rfl (hmr k1 k2 k3 (n := 5) m3) S ?_
  rintro _ _ w ⟨rfl, q5, rfl, k1, k2, k3⟩ S
  (repeat (first|(with_reducible first|refine Ja ?_|refine Jb ?_|refine Jc ?_|refine Jd ?_|refine Je ?_|refine Jf ?_|refine Jg ?_|refine Jh ?_|refine Ji ?_|refine Jj ?_|refine Jk rfl ?_|refine Jl ?_|refine Jm ?_|refine Jn ?_|refine Jo ?_|refine Jp ?_|refine Jq ?_)|refine JA rfl ?_|refine JB rfl ?_|refine JC rfl ?_|refine JD rfl ?_|refine JE rfl ?_|refine JF rfl ?_|refine JG rfl ?_|refine JH rfl ?_|refine JI rfl ?_|refine J2 rfl ?_|refine J3 rfl ?_|refine J4 rfl ?_|refine J1 rfl ?_|refine J6 rfl ?_|refine J7 rfl ?_|refine JJ rfl ?_|refine JK rfl ?_|refine JQ rfl ?_|refine JL rfl rfl ?_|refine JM rfl rfl ?_|refine JN rfl ?_|refine JO rfl ?_|refine JP rfl ?_))
  refine e_call (L2 := _ ++ Ll) rfl (hmr k1 k2 k3 (n := 6) m4) S ?_
  rintro _ _ w ⟨rfl, q6, rfl, k1, k2, k3⟩ S
  (repeat (first|(with_reducible first|refine Ja ?_|refine Jb ?_|refine Jc ?_|refine Jd ?_|refine Je ?_|refine Jf ?_|refine Jg ?_|refine Jh ?_|refine Ji ?_|refine Jj ?_|refine Jk rfl ?_|refine Jl ?_|refine Jm ?_|refine Jn ?_|refine Jo ?_|refine Jp ?_|refine Jq ?_)|refine JA rfl ?_|refine JB rfl ?_|refine JC rfl ?_|refine JD rfl ?_|refine JE rfl ?_|refine JF rfl ?_|refine JG rfl ?_|refine JH rfl ?_|refine JI rfl ?_|refine J2 rfl ?_|refine J3 rfl ?_|refine J4 rfl ?_|refine J1 rfl ?_|refine J6 rfl ?_|refine J7 rfl ?_|refine JJ rfl ?_|refine JK rfl ?_|refine JQ rfl ?_|refine JL rfl rfl ?_|refine JM rfl rfl ?_|refine JN rfl ?_|refine JO rfl ?_|refine JP rfl ?_))
  refine e_call (L2 := _ ++ Ll) rfl (hmk k1 k2 k3 m5) S ?_
  rintro _ _ w ⟨rfl, rfl⟩ S
  (repeat (first|(with_reducible first|refine Ja ?_|refine Jb ?_|refine Jc ?_|refine Jd ?_|refine Je ?_|refine Jf ?_|refine Jg ?_|refine Jh ?_|refine Ji ?_|refine Jj ?_|refine Jk rfl ?_|refine Jl ?_|refine Jm ?_|refine Jn ?_|refine Jo ?_|refine Jp ?_|refine Jq ?_)|refine JA rfl ?_|refine JB rfl ?_|refine JC rfl ?_|refine JD rfl ?_|refine JE rfl ?_|refine JF rfl ?_|refine JG rfl ?_|refine JH rfl ?_|refine JI rfl ?_|refine J2 rfl ?_|refine J3 rfl ?_|refine J4 rfl ?_|refine J1 rfl ?_|refine J6 rfl ?_|refine J7 rfl ?_|refine JJ rfl ?_|refine JK rfl ?_|refine JQ rfl ?_|refine JL rfl rfl ?_|refine JM rfl rfl ?_|refine JN rfl ?_|refine JO rfl ?_|refine JP rfl ?_))
  refine e_call (L2 := _ ++ Ll) rfl (hmr k1 k2 k3 (n := 0) m6) S ?_
  rintro _ _ w ⟨rfl, q7, rfl, k1, k2, k3⟩ S
  (repeat (first|(with_reducible first|refine Ja ?_|refine Jb ?_|refine Jc ?_|refine Jd ?_|refine Je ?_|refine Jf ?_|refine Jg ?_|refine Jh ?_|refine Ji ?_|refine Jj ?_|refine Jk rfl ?_|refine Jl ?_|refine Jm ?_|refine Jn ?_|refine Jo ?_|refine Jp ?_|refine Jq ?_)|refine JA rfl ?_|refine JB rfl ?_|refine JC rfl ?_|refine JD rfl ?_|refine JE rfl ?_|refine JF rfl ?_|refine JG rfl ?_|refine JH rfl ?_|refine JI rfl ?_|refine J2 rfl ?_|refine J3 rfl ?_|refine J4 rfl ?_|refine J1 rfl ?_|refine J6 rfl ?_|refine J7 rfl ?_|refine JJ rfl ?_|refine JK rfl ?_|refine JQ rfl ?_|refine JL rfl rfl ?_|refine JM rfl rfl ?_|refine JN rfl ?_|refine JO rfl ?_|refine JP rfl ?_))
  refine e_ld (v := .agg ⟨(⟨1, 1, ⟨1, 1⟩⟩ : Tl).v⟩) (S.row 2 rfl (by simp [Tl.v]) rfl) ?_
  (repeat (first|(with_reducible first|refine Ja ?_|refine Jb ?_|refine Jc ?_|refine Jd ?_|refine Je ?_|refine Jf ?_|refine Jg ?_|refine Jh ?_|refine Ji ?_|refine Jj ?_|refine Jk rfl ?_|refine Jl ?_|refine Jm ?_|refine Jn ?_|refine Jo ?_|refine Jp ?_|refine Jq ?_)|refine JA rfl ?_|refine JB rfl ?_|refine JC rfl ?_|refine JD rfl ?_|refine JE rfl ?_|refine JF rfl ?_|refine JG rfl ?_|refine JH rfl ?_|refine JI rfl ?_|refine J2 rfl ?_|refine J3 rfl ?_|refine J4 rfl ?_|refine J1 rfl ?_|refine J6 rfl ?_|refine J7 rfl ?_|refine JJ rfl ?_|refine JK rfl ?_|refine JQ rfl ?_|refine JL rfl rfl ?_|refine JM rfl rfl ?_|refine JN rfl ?_|refine JO rfl ?_|refine JP rfl ?_))
  refine e_ld (v := .agg ⟨(⟨3, 2, ⟨1, 2⟩⟩ : Tl).v⟩) (S.row 1 rfl (by simp [Tl.v]) rfl) ?_
  (repeat (first|(with_reducible first|refine Ja ?_|refine Jb ?_|refine Jc ?_|refine Jd ?_|refine Je ?_|refine Jf ?_|refine Jg ?_|refine Jh ?_|refine Ji ?_|refine Jj ?_|refine Jk rfl ?_|refine Jl ?_|refine Jm ?_|refine Jn ?_|refine Jo ?_|refine Jp ?_|refine Jq ?_)|refine JA rfl ?_|refine JB rfl ?_|refine JC rfl ?_|refine JD rfl ?_|refine JE rfl ?_|refine JF rfl ?_|refine JG rfl ?_|refine JH rfl ?_|refine JI rfl ?_|refine J2 rfl ?_|refine J3 rfl ?_|refine J4 rfl ?_|refine J1 rfl ?_|refine J6 rfl ?_|refine J7 rfl ?_|refine JJ rfl ?_|refine JK rfl ?_|refine JQ rfl ?_|refine JL rfl rfl ?_|refine JM rfl rfl ?_|refine JN rfl ?_|refine JO rfl ?_|refine JP rfl ?_))
  refine e_ld (v := .agg ⟨(⟨3, 2, ⟨1, 2⟩⟩ : Tl).v⟩) (S.row 0 rfl (by simp [Tl.v]) rfl) ?_
  (repeat (first|(with_reducible first|refine Ja ?_|refine Jb ?_|refine Jc ?_|refine Jd ?_|refine Je ?_|refine Jf ?_|refine Jg ?_|refine Jh ?_|refine Ji ?_|refine Jj ?_|refine Jk rfl ?_|refine Jl ?_|refine Jm ?_|refine Jn ?_|refine Jo ?_|refine Jp ?_|refine Jq ?_)|refine JA rfl ?_|refine JB rfl ?_|refine JC rfl ?_|refine JD rfl ?_|refine JE rfl ?_|refine JF rfl ?_|refine JG rfl ?_|refine JH rfl ?_|refine JI rfl ?_|refine J2 rfl ?_|refine J3 rfl ?_|refine J4 rfl ?_|refine J1 rfl ?_|refine J6 rfl ?_|refine J7 rfl ?_|refine JJ rfl ?_|refine JK rfl ?_|refine JQ rfl ?_|refine JL rfl rfl ?_|refine JM rfl rfl ?_|refine JN rfl ?_|refine JO rfl ?_|refine JP rfl ?_))
  refine e_ld (v := .agg ⟨(⟨3, 2, ⟨1, 2⟩⟩ : Tl).v⟩) (S.row 1 rfl (by simp [Tl.v]) rfl) ?_
  (repeat (first|(with_reducible first|refine Ja ?_|refine Jb ?_|refine Jc ?_|refine Jd ?_|refine Je ?_|refine Jf ?_|refine Jg ?_|refine Jh ?_|refine Ji ?_|refine Jj ?_|refine Jk rfl ?_|refine Jl ?_|refine Jm ?_|refine Jn ?_|refine Jo ?_|refine Jp ?_|refine Jq ?_)|refine JA rfl ?_|refine JB rfl ?_|refine JC rfl ?_|refine JD rfl ?_|refine JE rfl ?_|refine JF rfl ?_|refine JG rfl ?_|refine JH rfl ?_|refine JI rfl ?_|refine J2 rfl ?_|refine J3 rfl ?_|refine J4 rfl ?_|refine J1 rfl ?_|refine J6 rfl ?_|refine J7 rfl ?_|refine JJ rfl ?_|refine JK rfl ?_|refine JQ rfl ?_|refine JL rfl rfl ?_|refine JM rfl rfl ?_|refine JN rfl ?_|refine JO rfl ?_|refine JP rfl ?_))
  refine e_callP rfl (l_text 27 97 (by omega)) S fun w S => ?_
  (repeat (first|(with_reducible first|refine Ja ?_|refine Jb ?_|refine Jc ?_|refine Jd ?_|refine Je ?_|refine Jf ?_|refine Jg ?_|refine Jh ?_|refine Ji ?_|refine Jj ?_|refine Jk rfl ?_|refine Jl ?_|refine Jm ?_|refine Jn ?_|refine Jo ?_|refine Jp ?_|refine Jq ?_)|refine JA rfl ?_|refine JB rfl ?_|refine JC rfl ?_|refine JD rfl ?_|refine JE rfl ?_|refine JF rfl ?_|refine JG rfl ?_|refine JH rfl ?_|refine JI rfl ?_|refine J2 rfl ?_|refine J3 rfl ?_|refine J4 rfl ?_|refine J1 rfl ?_|refine J6 rfl ?_|refine J7 rfl ?_|refine JJ rfl ?_|refine JK rfl ?_|refine JQ rfl ?_|refine JL rfl rfl ?_|refine JM rfl rfl ?_|refine JN rfl ?_|refine JO rfl ?_|refine JP rfl ?_))
  refine e_bsl (size := 1) (xs := [strV [97, 98], strV (textW 27 97)]) S Try.underlying22 rfl rfl ⟨_, rfl⟩ (by omega) (by omega) (fun zs hz => (match zs, hz with | [u, v], _ => rfl)) fun bs w S => ?_
  (repeat (first|(with_reducible first|refine Ja ?_|refine Jb ?_|refine Jc ?_|refine Jd ?_|refine Je ?_|refine Jf ?_|refine Jg ?_|refine Jh ?_|refine Ji ?_|refine Jj ?_|refine Jk rfl ?_|refine Jl ?_|refine Jm ?_|refine Jn ?_|refine Jo ?_|refine Jp ?_|refine Jq ?_)|refine JA rfl ?_|refine JB rfl ?_|refine JC rfl ?_|refine JD rfl ?_|refine JE rfl ?_|refine JF rfl ?_|refine JG rfl ?_|refine JH rfl ?_|refine JI rfl ?_|refine J2 rfl ?_|refine J3 rfl ?_|refine J4 rfl ?_|refine J1 rfl ?_|refine J6 rfl ?_|refine J7 rfl ?_|refine JJ rfl ?_|refine JK rfl ?_|refine JQ rfl ?_|refine JL rfl rfl ?_|refine JM rfl rfl ?_|refine JN rfl ?_|refine JO rfl ?_|refine JP rfl ?_))
  have hO2 : OwnT (some ⟨bs, 0, none⟩) 2 2 [[97, 98], textW 27 97] [(bs, .cells ⟨[strV [97, 98], strV (textW 27 97)]⟩ 9)] := OwnS.row (xs := [[97, 98], textW 27 97].map strV) rfl
  have S' : Dn.Sep w (((([(b9, .cells ⟨(⟨3, 2, ⟨1, 2⟩⟩ : Tl).v⟩ 31), (b6, .cells ⟨(⟨3, 2, ⟨1, 2⟩⟩ : Tl).v⟩ 31), (b4, .cells ⟨(⟨1, 1, ⟨1, 1⟩⟩ : Tl).v⟩ 31), (b3, .cells ⟨zT.v⟩ 31)] ++ Ll) ++ q7.L) ++ [(bs, .cells ⟨[strV [97, 98], strV (textW 27 97)]⟩ 9)]) ++ []) F := by simpa using S
  refine e_callFN rfl (l_same adl (some ⟨bs, 0, none⟩) capl 2 [[97, 98], textW 27 97] [[97, 98], textW 27 97] (by decide)) S
    (by
      constructor
      · have := hOl.fsl S' (by intro x hx; simp [hx])
        simpa using this
      · have := hO2.fsl S' (by intro x hx; simp at hx; simp [hx])
        simpa using this) ?_
  rintro _ _ w ⟨rfl, rfl⟩ S
  (repeat (first|(with_reducible first|refine Ja ?_|refine Jb ?_|refine Jc ?_|refine Jd ?_|refine Je ?_|refine Jf ?_|refine Jg ?_|refine Jh ?_|refine Ji ?_|refine Jj ?_|refine Jk rfl ?_|refine Jl ?_|refine Jm ?_|refine Jn ?_|refine Jo ?_|refine Jp ?_|refine Jq ?_)|refine JA rfl ?_|refine JB rfl ?_|refine JC rfl ?_|refine JD rfl ?_|refine JE rfl ?_|refine JF rfl ?_|refine JG rfl ?_|refine JH rfl ?_|refine JI rfl ?_|refine J2 rfl ?_|refine J3 rfl ?_|refine J4 rfl ?_|refine J1 rfl ?_|refine J6 rfl ?_|refine J7 rfl ?_|refine JJ rfl ?_|refine JK rfl ?_|refine JQ rfl ?_|refine JL rfl rfl ?_|refine JM rfl rfl ?_|refine JN rfl ?_|refine JO rfl ?_|refine JP rfl ?_))
  refine e_callP rfl (w_size 27 (by omega)) S fun w S => ?_
  (repeat (first|(with_reducible first|refine Ja ?_|refine Jb ?_|refine Jc ?_|refine Jd ?_|refine Je ?_|refine Jf ?_|refine Jg ?_|refine Jh ?_|refine Ji ?_|refine Jj ?_|refine Jk rfl ?_|refine Jl ?_|refine Jm ?_|refine Jn ?_|refine Jo ?_|refine Jp ?_|refine Jq ?_)|refine JA rfl ?_|refine JB rfl ?_|refine JC rfl ?_|refine JD rfl ?_|refine JE rfl ?_|refine JF rfl ?_|refine JG rfl ?_|refine JH rfl ?_|refine JI rfl ?_|refine J2 rfl ?_|refine J3 rfl ?_|refine J4 rfl ?_|refine J1 rfl ?_|refine J6 rfl ?_|refine J7 rfl ?_|refine JJ rfl ?_|refine JK rfl ?_|refine JQ rfl ?_|refine JL rfl rfl ?_|refine JM rfl rfl ?_|refine JN rfl ?_|refine JO rfl ?_|refine JP rfl ?_))
  refine e_callP rfl (w_size 0 (by omega)) S fun w S => ?_
  (repeat (first|(with_reducible first|refine Ja ?_|refine Jb ?_|refine Jc ?_|refine Jd ?_|refine Je ?_|refine Jf ?_|refine Jg ?_|refine Jh ?_|refine Ji ?_|refine Jj ?_|refine Jk rfl ?_|refine Jl ?_|refine Jm ?_|refine Jn ?_|refine Jo ?_|refine Jp ?_|refine Jq ?_)|refine JA rfl ?_|refine JB rfl ?_|refine JC rfl ?_|refine JD rfl ?_|refine JE rfl ?_|refine JF rfl ?_|refine JG rfl ?_|refine JH rfl ?_|refine JI rfl ?_|refine J2 rfl ?_|refine J3 rfl ?_|refine J4 rfl ?_|refine J1 rfl ?_|refine J6 rfl ?_|refine J7 rfl ?_|refine JJ rfl ?_|refine JK rfl ?_|refine JQ rfl ?_|refine JL rfl rfl ?_|refine JM rfl rfl ?_|refine JN rfl ?_|refine JO rfl ?_|refine JP rfl ?_))
  refine e_callP rfl (w_sizeNeg (-1) (by omega)) S fun w S => ?_
  (repeat (first|(with_reducible first|refine Ja ?_|refine Jb ?_|refine Jc ?_|refine Jd ?_|refine Je ?_|refine Jf ?_|refine Jg ?_|refine Jh ?_|refine Ji ?_|refine Jj ?_|refine Jk rfl ?_|refine Jl ?_|refine Jm ?_|refine Jn ?_|refine Jo ?_|refine Jp ?_|refine Jq ?_)|refine JA rfl ?_|refine JB rfl ?_|refine JC rfl ?_|refine JD rfl ?_|refine JE rfl ?_|refine JF rfl ?_|refine JG rfl ?_|refine JH rfl ?_|refine JI rfl ?_|refine J2 rfl ?_|refine J3 rfl ?_|refine J4 rfl ?_|refine J1 rfl ?_|refine J6 rfl ?_|refine J7 rfl ?_|refine JJ rfl ?_|refine JK rfl ?_|refine JQ rfl ?_|refine JL rfl rfl ?_|refine JM rfl rfl ?_|refine JN rfl ?_|refine JO rfl ?_|refine JP rfl ?_))
  refine f_ret (vs := [.bool true]) rfl rfl (hQ _ (Sep.drop (L2 := _) (by simpa using S)))


end Go.Proofs.Ytgendpinmmmfjaa

/-
  The walk of sanity.
-/
namespace Go.Proofs.Ytgendpinmmmfjaa
open Dn
attribute [local irreducible] Evs Ev EvT DSpec PSpec CallTo
set_option maxRecDepth 100000
set_option maxHeartbeats 4000000

theorem l_sanity : PSpec Try.prog 10 [] (.bool true) := by
  refine pspec_of mix Try.func10 c10_eq rfl rfl fun w F Q S hQ => ?_
  obtain ⟨hc, ht⟩ := lawCfg_ok (n := 8) (by omega) (by omega)
  (repeat (first|(with_reducible first|refine Ja ?_|refine Jb ?_|refine Jc ?_|refine Jd ?_|refine Je ?_|refine Jf ?_|refine Jg ?_|refine Jh ?_|refine Ji ?_|refine Jj ?_|refine Jk rfl ?_|refine Jl ?_|refine Jm ?_|refine Jn ?_|refine Jo ?_|refine Jp ?_|refine Jq ?_)|refine JA rfl ?_|refine JB rfl ?_|refine JC rfl ?_|refine JD rfl ?_|refine JE rfl ?_|refine JF rfl ?_|refine JG rfl ?_|refine JH rfl ?_|refine JI rfl ?_|refine J2 rfl ?_|refine J3 rfl ?_|refine J4 rfl ?_|refine J1 rfl ?_|refine J6 rfl ?_|refine J7 rfl ?_|refine JJ rfl ?_|refine JK rfl ?_|refine JQ rfl ?_|refine JL rfl rfl ?_|refine JM rfl rfl ?_|refine JN rfl ?_|refine JO rfl ?_|refine JP rfl ?_))
  refine e_callP rfl (l_config 8 (by omega) (by omega)) S fun w S => ?_
  have hnew := sh_new (lawCfg 8)
  refine e_callN rfl hnew S ?_
  rintro v L w hv S
  rw [if_pos hc, if_neg (by omega)] at hv
  obtain ⟨s, rfl, rfl, hfr⟩ := hv
  replace S : Dn.Sep w s.L F := S
  have hs := fresh_ok hc hfr
  have es : erase s = sS := fresh_erase hfr
  have san1' := san1
  have san2' := san2
  have san3' := san3
  have san4' := san4
  (repeat (first|(with_reducible first|refine Ja ?_|refine Jb ?_|refine Jc ?_|refine Jd ?_|refine Je ?_|refine Jf ?_|refine Jg ?_|refine Jh ?_|refine Ji ?_|refine Jj ?_|refine Jk rfl ?_|refine Jl ?_|refine Jm ?_|refine Jn ?_|refine Jo ?_|refine Jp ?_|refine Jq ?_)|refine JA rfl ?_|refine JB rfl ?_|refine JC rfl ?_|refine JD rfl ?_|refine JE rfl ?_|refine JF rfl ?_|refine JG rfl ?_|refine JH rfl ?_|refine JI rfl ?_|refine J2 rfl ?_|refine J3 rfl ?_|refine J4 rfl ?_|refine J1 rfl ?_|refine J6 rfl ?_|refine J7 rfl ?_|refine JJ rfl ?_|refine JK rfl ?_|refine JQ rfl ?_|refine JL rfl rfl ?_|refine JM rfl rfl ?_|refine JN rfl ?_|refine JO rfl ?_|refine JP rfl ?_))
  refine e_nw S fun b3 w S => ?_
  refine e_st (vs := zT.v) S 0 rfl rfl rfl rfl (by simp [zT, Tl.v, Value.flat]) (by simp) fun w S => ?_
  replace S : Dn.Sep w ([(b3, .cells ⟨zT.v⟩ 31)] ++ s.L) F := S
  (repeat (first|(with_reducible first|refine Ja ?_|refine Jb ?_|refine Jc ?_|refine Jd ?_|refine Je ?_|refine Jf ?_|refine Jg ?_|refine Jh ?_|refine Ji ?_|refine Jj ?_|refine Jk rfl ?_|refine Jl ?_|refine Jm ?_|refine Jn ?_|refine Jo ?_|refine Jp ?_|refine Jq ?_)|refine JA rfl ?_|refine JB rfl ?_|refine JC rfl ?_|refine JD rfl ?_|refine JE rfl ?_|refine JF rfl ?_|refine JG rfl ?_|refine JH rfl ?_|refine JI rfl ?_|refine J2 rfl ?_|refine J3 rfl ?_|refine J4 rfl ?_|refine J1 rfl ?_|refine J6 rfl ?_|refine J7 rfl ?_|refine JJ rfl ?_|refine JK rfl ?_|refine JQ rfl ?_|refine JL rfl rfl ?_|refine JM rfl rfl ?_|refine JN rfl ?_|refine JO rfl ?_|refine JP rfl ?_))
  refine e_ld (v := .agg ⟨zT.v⟩) (S.row 0 rfl (by simp [Tl.v]) rfl) ?_
  (repeat (first|(with_reducible first|refine Ja ?_|refine Jb ?_|refine Jc ?_|refine Jd ?_|refine Je ?_|refine Jf ?_|refine Jg ?_|refine Jh ?_|refine Ji ?_|refine Jj ?_|refine Jk rfl ?_|refine Jl ?_|refine Jm ?_|refine Jn ?_|refine Jo ?_|refine Jp ?_|refine Jq ?_)|refine JA rfl ?_|refine JB rfl ?_|refine JC rfl ?_|refine JD rfl ?_|refine JE rfl ?_|refine JF rfl ?_|refine JG rfl ?_|refine JH rfl ?_|refine JI rfl ?_|refine J2 rfl ?_|refine J3 rfl ?_|refine J4 rfl ?_|refine J1 rfl ?_|refine J6 rfl ?_|refine J7 rfl ?_|refine JJ rfl ?_|refine JK rfl ?_|refine JQ rfl ?_|refine JL rfl rfl ?_|refine JM rfl rfl ?_|refine JN rfl ?_|refine JO rfl ?_|refine JP rfl ?_))
  refine e_call (L2 := [_]) rfl (w_append s 0 zT ⟨1, 1⟩ [97, 98] hs (by decide)) S ?_
  rintro _ _ w ⟨rfl, rfl⟩ S
  obtain ⟨a1, a2, a3, a4, a5⟩ := ap_facts hs es 0 zT ⟨1, 1⟩ [97, 98]
  obtain ⟨A, hA⟩ : ∃ A, appendW s 0 zT ⟨1, 1⟩ [97, 98] = A := ⟨_, rfl⟩
  rw [hA] at a1 a2 a3 a4 a5 S ⊢
  obtain ⟨At, Ae, sa⟩ := A
  simp only at a1 a2 a3 a4 a5 S ⊢
  have a2' : Ae = 0 := a2.trans san1'.1
  have a1' : At = ⟨1, 1, ⟨1, 1⟩⟩ := a1.trans san1'.2.1
  subst a2'
  subst a1'
  have a3' : erase sa = sA.2.2 := a3
  refine e_mvT rfl ?_
  refine e_p (v := .agg ⟨(⟨1, 1, ⟨1, 1⟩⟩ : Tl).v⟩) rfl ?_
  refine e_p (v := .int .i64 0) rfl ?_
  refine e_nw S fun b4 w S => ?_
  refine e_st (vs := (⟨1, 1, ⟨1, 1⟩⟩ : Tl).v) S 0 rfl rfl rfl rfl (by simp [Tl.v, Value.flat]) (by simp) fun w S => ?_
  replace S : Dn.Sep w ([(b4, .cells ⟨(⟨1, 1, ⟨1, 1⟩⟩ : Tl).v⟩ 31), (b3, .cells ⟨zT.v⟩ 31)] ++ sa.L) F := S
  refine e_mvI rfl ?_
  (repeat (with_reducible first|refine Jc ?_|refine Jd ?_|refine Je ?_|refine Jf ?_|refine Jg ?_|refine Jh ?_|refine Ji ?_|refine Jj ?_|refine Jk rfl ?_|refine Jl ?_|refine Jm ?_|refine Jn ?_|refine Jp ?_|refine Jq ?_))
  have htx := l_text 27 97 (by omega)
  refine s_cut (σ := Nat × Sh) (fun q => [(7, .int .i64 0), (6, .pointer (some ⟨q.1, 0, none⟩)), (1, s.v), (3, .pointer (some ⟨b3, 0, none⟩)), (4, .pointer (some ⟨b4, 0, none⟩)), (5, .int .i64 0)])
    (fun q w => q.2.ok ∧ q.2.v = s.v ∧ erase q.2 = sB.2.2 ∧ Dn.Sep w ([(q.1, .cells ⟨sB.1.v⟩ 31), (b4, .cells ⟨sA.1.v⟩ 31), (b3, .cells ⟨zT.v⟩ 31)] ++ q.2.L) F) ?_ ?_
  · obtain ⟨f1, f2, f3, f4, f5⟩ := ap_facts a4 a3' 0 ⟨1, 1, ⟨1, 1⟩⟩ ⟨1, 2⟩ (textW 27 97)
    have hap := w_append sa 0 ⟨1, 1, ⟨1, 1⟩⟩ ⟨1, 2⟩ (textW 27 97) a4 (by decide +kernel)
    have eB : appendW sA.2.2 0 ⟨1, 1, ⟨1, 1⟩⟩ ⟨1, 2⟩ (textW 27 97) = sB := by unfold sB; rw [san1'.2.1]
    rw [eB] at f1 f2 f3
    rw [f1, f2, san1'.2.2.1, a5] at hap
    (repeat (with_reducible first|refine Ja ?_|refine Jb ?_|refine Jc ?_|refine Jd ?_|refine Je ?_|refine Jf ?_|refine Jg ?_|refine Jh ?_|refine Ji ?_|refine Jj ?_|refine Jk rfl ?_|refine Jl ?_|refine Jm ?_|refine Jn ?_|refine Jo ?_|refine Jp ?_|refine Jq ?_))
    replace S := S.drew
    (repeat (first|(with_reducible first|refine Ja ?_|refine Jb ?_|refine Jc ?_|refine Jd ?_|refine Je ?_|refine Jf ?_|refine Jg ?_|refine Jh ?_|refine Ji ?_|refine Jj ?_|refine Jk rfl ?_|refine Jl ?_|refine Jm ?_|refine Jn ?_|refine Jo ?_|refine Jp ?_|refine Jq ?_)|refine JA rfl ?_|refine JB rfl ?_|refine JC rfl ?_|refine JD rfl ?_|refine JE rfl ?_|refine JF rfl ?_|refine JG rfl ?_|refine JH rfl ?_|refine JI rfl ?_|refine J2 rfl ?_|refine J3 rfl ?_|refine J4 rfl ?_|refine J1 rfl ?_|refine J6 rfl ?_|refine J7 rfl ?_|refine JJ rfl ?_|refine JK rfl ?_|refine JQ rfl ?_|refine JL rfl rfl ?_|refine JM rfl rfl ?_|refine JN rfl ?_|refine JO rfl ?_|refine JP rfl ?_))
    repeat' first
      | (with_reducible refine t_alt ?_ ?_)
      | (refine e_ld (v := .agg ⟨(⟨1, 1, ⟨1, 1⟩⟩ : Tl).v⟩) (S.row 0 rfl (by simp [Tl.v]) rfl) ?_)
      | (refine e_ld (v := .agg ⟨(⟨1, 1, ⟨1, 1⟩⟩ : Tl).v⟩) (S.row 1 rfl (by simp [Tl.v]) rfl) ?_)
      | (refine e_callP rfl htx S fun w S => ?_)
      | (refine e_call (L2 := [_, _]) rfl hap S ?_
         rintro _ _ w ⟨rfl, rfl⟩ S)
      | (refine e_call (L2 := [_, _, _]) rfl hap S ?_
         rintro _ _ w ⟨rfl, rfl⟩ S)
      | (refine e_nwE S (cs' := zT.v) rfl fun b6 w S => ?_)
      | (refine e_st (vs := sB.1.v) S 0 rfl rfl rfl rfl (by simp [Tl.v, Value.flat]) (by simp [zT, Tl.v]) fun w S => ?_)
      | (refine e_p (v := .agg ⟨sB.1.v⟩) rfl ?_)
      | (first|(with_reducible first|refine Ja ?_|refine Jb ?_|refine Jc ?_|refine Jd ?_|refine Je ?_|refine Jf ?_|refine Jg ?_|refine Jh ?_|refine Ji ?_|refine Jj ?_|refine Jk rfl ?_|refine Jl ?_|refine Jm ?_|refine Jn ?_|refine Jo ?_|refine Jp ?_|refine Jq ?_)|refine JA rfl ?_|refine JB rfl ?_|refine JC rfl ?_|refine JD rfl ?_|refine JE rfl ?_|refine JF rfl ?_|refine JG rfl ?_|refine JH rfl ?_|refine JI rfl ?_|refine J2 rfl ?_|refine J3 rfl ?_|refine J4 rfl ?_|refine J1 rfl ?_|refine J6 rfl ?_|refine J7 rfl ?_|refine JJ rfl ?_|refine JK rfl ?_|refine JQ rfl ?_|refine JL rfl rfl ?_|refine JM rfl rfl ?_|refine JN rfl ?_|refine JO rfl ?_|refine JP rfl ?_)
    all_goals exact ⟨rfl, (_, _), ⟨rfl, rfl, rfl, rfl, rfl, rfl, trivial⟩, f4, f5.trans a5, f3, by rw [san1'.2.1]; exact S⟩
  rintro gg ⟨b6, sb⟩ w ⟨hb1, hb2, hb3, S⟩
  simp only [setL] at hb1 hb2 hb3 S ⊢
  -- the scan
  have hsc := w_scan sb 0 zT hb1
  have eS : scanFull sb 0 zT = ([[97, 98], textW 27 97], sB.1, 0) := by
    have := er_scan sb 0 zT
    rw [hb3, san3'] at this
    exact this.symm
  rw [eS, hb2] at hsc
  (repeat (first|(with_reducible first|refine Ja ?_|refine Jb ?_|refine Jc ?_|refine Jd ?_|refine Je ?_|refine Jf ?_|refine Jg ?_|refine Jh ?_|refine Ji ?_|refine Jj ?_|refine Jk rfl ?_|refine Jl ?_|refine Jm ?_|refine Jn ?_|refine Jo ?_|refine Jp ?_|refine Jq ?_)|refine JA rfl ?_|refine JB rfl ?_|refine JC rfl ?_|refine JD rfl ?_|refine JE rfl ?_|refine JF rfl ?_|refine JG rfl ?_|refine JH rfl ?_|refine JI rfl ?_|refine J2 rfl ?_|refine J3 rfl ?_|refine J4 rfl ?_|refine J1 rfl ?_|refine J6 rfl ?_|refine J7 rfl ?_|refine JJ rfl ?_|refine JK rfl ?_|refine JQ rfl ?_|refine JL rfl rfl ?_|refine JM rfl rfl ?_|refine JN rfl ?_|refine JO rfl ?_|refine JP rfl ?_))
  refine e_ld (v := .agg ⟨zT.v⟩) (S.row 2 rfl (by simp [Tl.v]) rfl) ?_
  refine e_call (L2 := [_, _, _]) rfl hsc S ?_
  rintro _ _ w ⟨adl, capl, Ll, rfl, rfl, hOl⟩ S
  refine e_mvT rfl ?_
  refine e_p (v := .slice adl 2 capl) rfl ?_
  refine e_p (v := .agg ⟨sB.1.v⟩) rfl ?_
  refine e_p (v := .int .i64 0) rfl ?_
  refine e_nwE S (cs' := zT.v) rfl fun b9 w S => ?_
  refine e_mvL rfl ?_
  refine e_st (vs := sB.1.v) S 0 rfl rfl rfl rfl (by simp [Tl.v, Value.flat]) (by simp [zT, Tl.v]) fun w S => ?_
  refine e_mvI rfl ?_
  replace S : Dn.Sep w (([(b9, .cells ⟨sB.1.v⟩ 31), (b6, .cells ⟨sB.1.v⟩ 31), (b4, .cells ⟨sA.1.v⟩ 31), (b3, .cells ⟨zT.v⟩ 31)] ++ (sb.L ++ Ll))) F := S
  -- stale
  obtain ⟨f1, f2, f3, f4, f5⟩ := ap_facts hb1 hb3 0 sB.1 ⟨1, 2⟩ [99]
  have hap := w_append sb 0 sB.1 ⟨1, 2⟩ [99] hb1 (by decide)
  have eC : appendW sB.2.2 0 sB.1 ⟨1, 2⟩ [99] = sStale := rfl
  rw [eC] at f1 f2 f3
  rw [f1, f2, san2'.1, hb2] at hap
  replace S : Dn.Sep w (([(b9, .cells ⟨sB.1.v⟩ 31), (b6, .cells ⟨sB.1.v⟩ 31), (b4, .cells ⟨sA.1.v⟩ 31), (b3, .cells ⟨zT.v⟩ 31)] ++ Ll) ++ sb.L) F := S.perm (by rw [List.append_assoc]; exact (List.Perm.refl _).append List.perm_append_comm)
  (repeat (first|(with_reducible first|refine Ja ?_|refine Jb ?_|refine Jc ?_|refine Jd ?_|refine Je ?_|refine Jf ?_|refine Jg ?_|refine Jh ?_|refine Ji ?_|refine Jj ?_|refine Jk rfl ?_|refine Jl ?_|refine Jm ?_|refine Jn ?_|refine Jo ?_|refine Jp ?_|refine Jq ?_)|refine JA rfl ?_|refine JB rfl ?_|refine JC rfl ?_|refine JD rfl ?_|refine JE rfl ?_|refine JF rfl ?_|refine JG rfl ?_|refine JH rfl ?_|refine JI rfl ?_|refine J2 rfl ?_|refine J3 rfl ?_|refine J4 rfl ?_|refine J1 rfl ?_|refine J6 rfl ?_|refine J7 rfl ?_|refine JJ rfl ?_|refine JK rfl ?_|refine JQ rfl ?_|refine JL rfl rfl ?_|refine JM rfl rfl ?_|refine JN rfl ?_|refine JO rfl ?_|refine JP rfl ?_))
  refine e_ld (v := .agg ⟨sB.1.v⟩) (S.row 1 rfl (by simp [Tl.v]) rfl) ?_
  (repeat (first|(with_reducible first|refine Ja ?_|refine Jb ?_|refine Jc ?_|refine Jd ?_|refine Je ?_|refine Jf ?_|refine Jg ?_|refine Jh ?_|refine Ji ?_|refine Jj ?_|refine Jk rfl ?_|refine Jl ?_|refine Jm ?_|refine Jn ?_|refine Jo ?_|refine Jp ?_|refine Jq ?_)|refine JA rfl ?_|refine JB rfl ?_|refine JC rfl ?_|refine JD rfl ?_|refine JE rfl ?_|refine JF rfl ?_|refine JG rfl ?_|refine JH rfl ?_|refine JI rfl ?_|refine J2 rfl ?_|refine J3 rfl ?_|refine J4 rfl ?_|refine J1 rfl ?_|refine J6 rfl ?_|refine J7 rfl ?_|refine JJ rfl ?_|refine JK rfl ?_|refine JQ rfl ?_|refine JL rfl rfl ?_|refine JM rfl rfl ?_|refine JN rfl ?_|refine JO rfl ?_|refine JP rfl ?_))
  refine e_call (L2 := _ ++ Ll) rfl hap S ?_
  rintro _ _ w ⟨rfl, rfl⟩ S
  obtain ⟨sc, hsc'⟩ : ∃ sc, (appendW sb 0 sB.1 ⟨1, 2⟩ [99]).2.2 = sc := ⟨_, rfl⟩
  rw [hsc'] at S f3 f4 f5
  refine e_mvT rfl ?_
  refine e_p (v := .agg ⟨sStale.1.v⟩) rfl ?_
  refine e_p (v := .int .i64 9) rfl ?_
  refine e_nwE S (cs' := zT.v) rfl fun b11 w S => ?_
  refine e_st (vs := sStale.1.v) S 0 rfl rfl rfl rfl (by simp [Tl.v, Value.flat]) (by simp [zT, Tl.v]) fun w S => ?_
  refine e_mvI rfl ?_
  replace S : Dn.Sep w (([(b9, .cells ⟨sB.1.v⟩ 31), (b6, .cells ⟨sB.1.v⟩ 31), (b4, .cells ⟨sA.1.v⟩ 31), (b3, .cells ⟨zT.v⟩ 31)] ++ Ll) ++ sc.L) F := Sep.drop (L2 := [_]) S
  (repeat (with_reducible first|refine Jc ?_|refine Jd ?_|refine Je ?_|refine Jf ?_|refine Jg ?_|refine Jh ?_|refine Ji ?_|refine Jj ?_|refine Jk rfl ?_|refine Jl ?_|refine Jm ?_|refine Jn ?_|refine Jp ?_|refine Jq ?_))
  have htx2 := l_text 131 97 (by omega)
  refine s_cut (σ := Sh) (fun q => [(14, .int .i64 16), (1, s.v), (4, .pointer (some ⟨b4, 0, none⟩)), (6, .pointer (some ⟨b6, 0, none⟩)), (9, .pointer (some ⟨b9, 0, none⟩)), (5, .int .i64 0), (7, .int .i64 0), (8, .slice adl 2 capl), (10, .int .i64 0), (12, .int .i64 9)])
    (fun q w => q.ok ∧ q.v = s.v ∧ erase q = sFull.2.2 ∧ Dn.Sep w (([(b9, .cells ⟨sB.1.v⟩ 31), (b6, .cells ⟨sB.1.v⟩ 31), (b4, .cells ⟨sA.1.v⟩ 31), (b3, .cells ⟨zT.v⟩ 31)] ++ Ll) ++ q.L) F) ?_ ?_
  · obtain ⟨g1, g2, g3, g4, g5⟩ := ap_facts f4 f3 0 sB.1 ⟨1, 3⟩ (textW 131 97)
    have hap := w_append sc 0 sB.1 ⟨1, 3⟩ (textW 131 97) f4 (by decide +kernel)
    have eB : appendW sStale.2.2 0 sB.1 ⟨1, 3⟩ (textW 131 97) = sFull := rfl
    rw [eB] at g1 g2 g3
    rw [g1, g2, san2'.2, f5, hb2] at hap
    (repeat (with_reducible first|refine Ja ?_|refine Jb ?_|refine Jc ?_|refine Jd ?_|refine Je ?_|refine Jf ?_|refine Jg ?_|refine Jh ?_|refine Ji ?_|refine Jj ?_|refine Jk rfl ?_|refine Jl ?_|refine Jm ?_|refine Jn ?_|refine Jo ?_|refine Jp ?_|refine Jq ?_))
    replace S := S.drew
    (repeat (first|(with_reducible first|refine Ja ?_|refine Jb ?_|refine Jc ?_|refine Jd ?_|refine Je ?_|refine Jf ?_|refine Jg ?_|refine Jh ?_|refine Ji ?_|refine Jj ?_|refine Jk rfl ?_|refine Jl ?_|refine Jm ?_|refine Jn ?_|refine Jo ?_|refine Jp ?_|refine Jq ?_)|refine JA rfl ?_|refine JB rfl ?_|refine JC rfl ?_|refine JD rfl ?_|refine JE rfl ?_|refine JF rfl ?_|refine JG rfl ?_|refine JH rfl ?_|refine JI rfl ?_|refine J2 rfl ?_|refine J3 rfl ?_|refine J4 rfl ?_|refine J1 rfl ?_|refine J6 rfl ?_|refine J7 rfl ?_|refine JJ rfl ?_|refine JK rfl ?_|refine JQ rfl ?_|refine JL rfl rfl ?_|refine JM rfl rfl ?_|refine JN rfl ?_|refine JO rfl ?_|refine JP rfl ?_))
    repeat' first
      | (with_reducible refine t_alt ?_ ?_)
      | (refine e_ld (v := .agg ⟨sB.1.v⟩) (S.row 1 rfl (by simp [Tl.v]) rfl) ?_)
      | (refine e_ld (v := .agg ⟨sB.1.v⟩) (S.row 2 rfl (by simp [Tl.v]) rfl) ?_)
      | (refine e_callP rfl htx2 S fun w S => ?_)
      | (refine e_call (L2 := _ ++ Ll) rfl hap S ?_
         rintro _ _ w ⟨rfl, rfl⟩ S)
      | (refine e_call (L2 := (_ :: _) ++ Ll) rfl hap S ?_
         rintro _ _ w ⟨rfl, rfl⟩ S)
      | (refine e_nwE S (cs' := zT.v) rfl fun b13 w S => ?_)
      | (refine e_st (vs := sFull.1.v) S 0 rfl rfl rfl rfl (by simp [Tl.v, Value.flat]) (by simp [zT, Tl.v]) fun w S => ?_)
      | (refine e_p (v := .agg ⟨sFull.1.v⟩) rfl ?_)
      | (first|(with_reducible first|refine Ja ?_|refine Jb ?_|refine Jc ?_|refine Jd ?_|refine Je ?_|refine Jf ?_|refine Jg ?_|refine Jh ?_|refine Ji ?_|refine Jj ?_|refine Jk rfl ?_|refine Jl ?_|refine Jm ?_|refine Jn ?_|refine Jo ?_|refine Jp ?_|refine Jq ?_)|refine JA rfl ?_|refine JB rfl ?_|refine JC rfl ?_|refine JD rfl ?_|refine JE rfl ?_|refine JF rfl ?_|refine JG rfl ?_|refine JH rfl ?_|refine JI rfl ?_|refine J2 rfl ?_|refine J3 rfl ?_|refine J4 rfl ?_|refine J1 rfl ?_|refine J6 rfl ?_|refine J7 rfl ?_|refine JJ rfl ?_|refine JK rfl ?_|refine JQ rfl ?_|refine JL rfl rfl ?_|refine JM rfl rfl ?_|refine JN rfl ?_|refine JO rfl ?_|refine JP rfl ?_)
    all_goals exact ⟨rfl, _, ⟨rfl, rfl, rfl, rfl, rfl, rfl, rfl, rfl, rfl, rfl, trivial⟩, g4, g5.trans (f5.trans hb2), g3, Sep.drop (L2 := [_]) S⟩
  rintro gg q w ⟨hb1, hb2, hb3, S⟩
  exact l_sanityB hb1 hb2 hb3 hOl S (fun w S => hQ _ _ [] rfl S)

end Go.Proofs.Ytgendpinmmmfjaa

/-
  The plain law: maps; sectors that are sealed are opened again.
-/
namespace Dn
open Go

theorem GM.upd_find {α : Type} {k k' : Int} {v : α} : ∀ {l es : List (Int × α × Nat)}, GM.upd k v l = some es → GM.find k' es = if k' = k then some v else GM.find k' l := by
  intro l
  induction l with
  | nil => intro es h; simp [GM.upd] at h
  | cons e l ih =>
    intro es h
    simp only [GM.upd] at h
    split at h
    · rename_i hk
      injection h with h; subst h
      simp only [GM.find]
      by_cases e1 : k' = k
      · simp [e1]
      · rw [if_neg e1, if_neg e1]
        rw [if_neg (by rw [← hk]; exact e1)]
    · rename_i hk
      cases hu : GM.upd k v l with
      | none => rw [hu] at h; simp at h
      | some es' =>
        rw [hu] at h
        simp only [Option.map_some, Option.some.injEq] at h
        subst h
        simp only [GM.find]
        rw [ih hu]
        by_cases e1 : k' = e.1
        · rw [if_pos e1, if_pos e1, if_neg (by rw [e1]; exact fun h => hk h.symm)]
        · rw [if_neg e1, if_neg e1]
theorem GM.upd_nofind {α : Type} {k : Int} {v : α} : ∀ {l : List (Int × α × Nat)}, GM.upd k v l = none → GM.find k l = none := by
  intro l
  induction l with
  | nil => intro _; rfl
  | cons e l ih =>
    intro h
    simp only [GM.upd] at h
    split at h
    · simp at h
    · rename_i hk
      simp only [GM.find, if_neg hk]
      exact ih (by simpa using h)
theorem GM.find_snoc {α : Type} {k k' : Int} {v : α} {n : Nat} : ∀ {l : List (Int × α × Nat)}, GM.find k' (l ++ [(k, v, n)]) = (GM.find k' l).or (if k' = k then some v else none) := by
  intro l
  induction l with
  | nil => simp [GM.find]
  | cons e l ih =>
    simp only [List.cons_append, GM.find]
    split
    · rfl
    · exact ih
theorem GM.get_set {α : Type} (g : GM α) (k k' : Int) (v : α) : (g.set k v).get k' = if k' = k then some v else g.get k' := by
  unfold GM.set GM.get
  cases h : GM.upd k v g.es with
  | some es => exact GM.upd_find h
  | none =>
    simp only [GM.find_snoc]
    by_cases e : k' = k
    · subst e; rw [GM.upd_nofind h]; simp
    · simp [e]

theorem seal_cons (p : Pl) (g : Gn) (s : Sec) : sealS p g s = leB 4 (crcOf (sealB p g s)).toNat ++ (UInt8.ofNat p.area.toNat :: UInt8.ofNat p.disk.toNat :: (leB 2 p.index.toNat ++ (leB 4 g.epoch.toNat ++ (leB 4 g.count.toNat ++ (s ++ List.replicate (40 - s.length) 0 ++ gnB g))))) := by
  unfold sealS
  simp only [sealB, gnB, List.append_assoc, List.cons_append, List.nil_append]

theorem leN_leB' (k : Nat) {n : Int} {m : Nat} (h0 : 0 ≤ n) (h : n < (m : Int)) (hm : m = 256 ^ k) : (leN (leB k n.toNat) : Int) = n := by
  rw [leN_leB k n.toNat (by omega)]; omega
theorem byte_id {n : Int} (h0 : 0 ≤ n) (h : n < 256) : ((UInt8.ofNat n.toNat).toNat : Int) = n := by
  rw [UInt8.toNat_ofNat']; omega

theorem opened_seal {p : Pl} {g : Gn} {s : Sec} (hp : p.ok) (hg : g.ok) (hs : s.length ≤ 40) : opened p (sealS p g s) = some (g, s ++ List.replicate (40 - s.length) 0) := by
  have hp' := hp
  unfold Pl.ok at hp'
  have hg' := hg
  unfold Gn.ok Gn.ok0 at hg'
  have hP : lblP (sealS p g s) = p := by
    rw [seal_cons]
    have e : lblP (leB 4 (crcOf (sealB p g s)).toNat ++ (UInt8.ofNat p.area.toNat :: UInt8.ofNat p.disk.toNat :: (leB 2 p.index.toNat ++ (leB 4 g.epoch.toNat ++ (leB 4 g.count.toNat ++ (s ++ List.replicate (40 - s.length) 0 ++ gnB g)))))) =
      ⟨((UInt8.ofNat p.disk.toNat).toNat : Int), ((UInt8.ofNat p.area.toNat).toNat : Int), (leN (leB 2 p.index.toNat) : Int)⟩ := rfl
    rw [e, byte_id (by omega) (by omega), byte_id (by omega) (by omega), leN_leB' 2 (m := 65536) (by omega) (by omega) rfl]
  have hG : lblG (sealS p g s) = g := by
    rw [seal_cons]
    have e : lblG (leB 4 (crcOf (sealB p g s)).toNat ++ (UInt8.ofNat p.area.toNat :: UInt8.ofNat p.disk.toNat :: (leB 2 p.index.toNat ++ (leB 4 g.epoch.toNat ++ (leB 4 g.count.toNat ++ (s ++ List.replicate (40 - s.length) 0 ++ gnB g)))))) =
      ⟨(leN (leB 4 g.epoch.toNat) : Int), (leN (leB 4 g.count.toNat) : Int)⟩ := rfl
    rw [e, leN_leB' 4 (m := 4294967296) (by omega) (by omega) rfl, leN_leB' 4 (m := 4294967296) (by omega) (by omega) rfl]
  have h16 : (sealS p g s).drop 16 = s ++ List.replicate (40 - s.length) 0 ++ gnB g := by rw [seal_cons]; rfl
  have hl : (s ++ List.replicate (40 - s.length) (0 : UInt8)).length = 40 := by simp; omega
  have hok : lblOK (sealS p g s) := by
    unfold lblOK
    refine ⟨?_, by rw [hP]; exact hp, by rw [hG]; exact hg, ?_⟩
    · unfold sealS
      rw [List.take_left' (by simp), List.drop_left' (by simp)]
      exact leN_leB 4 _ (crcOf (sealB p g s)).isLt
    · have e1 : ((sealS p g s).drop 8).take 8 = gnB g := by rw [seal_cons]; rfl
      have e2 : (sealS p g s).drop 56 = gnB g := by
        rw [show (56 : Nat) = 16 + 40 from rfl, ← List.drop_drop, h16, List.drop_left' hl]
      rw [e1, e2]
  unfold opened
  rw [if_pos ⟨hok, hP⟩, hG, h16, List.take_left' hl]

/-- the bytes of a part -/
def payR (r : Sec) (i : Nat) : Sec := (r.drop (26 * i)).take 26
theorem parse_pay {t : Tl} {g : Gn} {r : Sec} {i : Nat} (ht : t.ok) (hr : r.length ≤ 4096) (hi : 26 * i ≤ r.length) :
    parse g (payB t r i ++ List.replicate (40 - (payB t r i).length) 0) = ⟨g, t.gen, t.number + 1, (r.length : Int) - 26 * i, payR r i⟩ := by
  have ht' := ht
  unfold Tl.ok Gn.ok0 at ht'
  obtain ⟨z, hz⟩ : ∃ z, List.replicate (40 - (payB t r i).length) (0 : UInt8) = z := ⟨_, rfl⟩
  rw [hz]
  have e : payB t r i ++ z = leB 4 (t.number + 1).toNat ++ (leB 2 (r.length - 26 * i) ++ (leB 4 t.gen.epoch.toNat ++ (leB 4 t.gen.count.toNat ++ (payR r i ++ z)))) := by
    simp only [payB, gnB, payR, List.append_assoc]
  rw [e]
  have e2 : parse g (leB 4 (t.number + 1).toNat ++ (leB 2 (r.length - 26 * i) ++ (leB 4 t.gen.epoch.toNat ++ (leB 4 t.gen.count.toNat ++ (payR r i ++ z))))) =
    ⟨g, ⟨(leN (leB 4 t.gen.epoch.toNat) : Int), (leN (leB 4 t.gen.count.toNat) : Int)⟩, (leN (leB 4 (t.number + 1).toNat) : Int), (leN (leB 2 (r.length - 26 * i)) : Int), (payR r i ++ z).take (min 26 (leN (leB 2 (r.length - 26 * i))))⟩ := rfl
  rw [e2, leN_leB' 4 (m := 4294967296) (by omega) (by omega) rfl, leN_leB' 4 (m := 4294967296) (by omega) (by omega) rfl, leN_leB' 4 (m := 4294967296) (by omega) (by omega) rfl, leN_leB 2 _ (by omega)]
  have hl : (payR r i).length = min 26 (r.length - 26 * i) := by simp [payR]
  rw [List.take_left' hl]
  congr 1
  omega

end Dn

/-
  The plain law: what a write does to what is read.
-/
namespace Dn
open Go

/-- every disk is in service, no fault waits -/
structure Sh.std (s : Sh) : Prop where
  ok : s.ok
  inn : ∀ b ∈ s.bays, b.2 = 1
  arm : ∀ b ∈ s.bays, b.1.armed.es = []
/-- what is read of a sector -/
def Sh.vw (s : Sh) (d : Int) (i : Int) : Sec := (s.dk d.toNat).read i.toNat
def Dk.putC (D : Dk) (i : Int) (t : Sec) : Dk := { D with armed := D.armed.del i, cache := D.cache.set i t }

theorem write_putC {D : Dk} (h : D.armed.es = []) {i : Int} (hi : 0 ≤ i) (t : Sec) : D.write i t = D.putC i t := by
  have e : (D.armed.get i).getD i = i := by unfold GM.get; rw [h]; rfl
  rw [Dk.write_to e (by omega)]; rfl
theorem putC_arm {D : Dk} (h : D.armed.es = []) (i : Int) (t : Sec) : (D.putC i t).armed.es = [] := by
  show GM.del1 i D.armed.es = []
  rw [h]; rfl
theorem putC_read (D : Dk) {i i' : Int} (hi : 0 ≤ i) (hi' : 0 ≤ i') (t : Sec) : (D.putC i t).read i'.toNat = if i' = i then t else D.read i'.toNat := by
  unfold Dk.read
  have : (D.putC i t).cache.get (i'.toNat : Int) = if i' = i then some t else D.cache.get (i'.toNat : Int) := by
    show (D.cache.set i t).get _ = _
    rw [GM.get_set]
    have e : ((i'.toNat : Int) = i) ↔ (i' = i) := by omega
    by_cases h : i' = i
    · rw [if_pos (e.2 h), if_pos h]
    · rw [if_neg (fun h' => h (e.1 h')), if_neg h]
  rw [this]
  by_cases h : i' = i
  · rw [if_pos h, if_pos h]; rfl
  · rw [if_neg h, if_neg h]; rfl

variable {s : Sh} {d i : Int} {t : Sec}
theorem Sh.std.bays (h : s.std) (hd : 0 ≤ d ∧ d < s.cfg.disks) : ∃ D, s.bays[d.toNat]? = some (D, 1) ∧ s.dk d.toNat = D ∧ D.armed.es = [] := by
  have hl := h.ok.len
  obtain ⟨st, hb⟩ := Go.Proofs.Ytgendpinmmmfjaa.dk_at (s := s) (d := d.toNat) (by omega)
  have h1 := h.inn _ (List.mem_of_getElem? hb)
  simp only at h1
  subst h1
  exact ⟨_, hb, rfl, h.arm _ (List.mem_of_getElem? hb)⟩
theorem Sh.std.state (h : s.std) (hd : 0 ≤ d ∧ d < s.cfg.disks) : s.state d = 1 := by
  obtain ⟨D, hb, -, -⟩ := h.bays hd
  have hl := h.ok.len
  unfold Sh.state
  rw [if_neg (by omega), hb]; rfl
theorem Sh.std.num (h : s.std) (hd : 0 ≤ d ∧ d < s.cfg.disks) (hi : 0 ≤ i ∧ i < s.cfg.log) : s.num (plW d i) = i := by
  unfold Sh.num plW
  simp only [h.state hd]
  rw [if_neg (by omega), if_neg]
  · simp
  · simp [Cfg.szs]; omega
theorem Sh.std.acc (h : s.std) (hd : 0 ≤ d ∧ d < s.cfg.disks) : s.acc d.toNat = if s.off = true then 14 else 0 := by
  obtain ⟨D, hb, -, -⟩ := h.bays hd
  unfold Sh.acc
  rw [hb]
  cases s.off <;> rfl
theorem Sh.std.rd (h : s.std) (hd : 0 ≤ d ∧ d < s.cfg.disks) (hi : 0 ≤ i ∧ i < s.cfg.log) (ho : s.off = false) : s.rdO (plW d i) = (0, s.vw d i) := by
  unfold Sh.rdO
  have e : (plW d i).disk = d := rfl
  rw [h.num hd hi, if_neg (by omega), e, h.acc hd, ho]
  rfl
theorem dk_setD (s : Sh) {d : Nat} (hd : d < s.bays.length) (D : Dk) (d' : Nat) : (s.setD d D).dk d' = if d' = d then D else s.dk d' := by
  unfold Sh.dk Sh.setD
  simp only [List.getElem?_set]
  by_cases e : d' = d
  · subst e; simp [hd]
  · rw [if_neg (fun h => e h.symm), if_neg e]
theorem std_setD (h : s.std) {d : Nat} (hd : d < s.bays.length) {D : Dk} (hA : D.armed.es = []) (hok : (s.setD d D).ok) : (s.setD d D).std := by
  refine ⟨hok, fun b hb => ?_, fun b hb => ?_⟩
  · have hb' : b ∈ s.bays.set d (D, ((s.bays[d]?).getD (D, 0)).2) := hb
    rcases List.mem_or_eq_of_mem_set hb' with h1 | h1
    · exact h.inn b h1
    · rw [h1, List.getElem?_eq_getElem hd]
      show (s.bays[d]).2 = 1
      exact h.inn _ (List.getElem_mem hd)
  · have hb' : b ∈ s.bays.set d (D, ((s.bays[d]?).getD (D, 0)).2) := hb
    rcases List.mem_or_eq_of_mem_set hb' with h1 | h1
    · exact h.arm b h1
    · rw [h1]; exact hA

theorem std_of_bays {s' : Sh} (h : s.std) (hok : s'.ok) (hb : s'.bays = s.bays) : s'.std := ⟨hok, by rw [hb]; exact h.inn, by rw [hb]; exact h.arm⟩

/-- a write, in full -/
theorem Sh.std.wr (h : s.std) (hd : 0 ≤ d ∧ d < s.cfg.disks) (hi : 0 ≤ i ∧ i < s.cfg.log) (ht : t.length = 64) :
    s.wrE (plW d i) t = s.stepE d.toNat ∧ s.wrS (plW d i) t = s.stepS d.toNat ((s.dk d.toNat).putC i t) := by
  have hn := h.num hd hi
  obtain ⟨D, hb, hD, hA⟩ := h.bays hd
  have e : (plW d i).disk = d := rfl
  constructor
  · unfold Sh.wrE; rw [hn, if_neg (by omega), e]
  · unfold Sh.wrS; rw [hn, if_neg (by omega), e, write_putC (by rw [hD]; exact hA) hi.1]

/-- a write that was executed -/
theorem Sh.std.wrOK (h : s.std) (hd : 0 ≤ d ∧ d < s.cfg.disks) (hi : 0 ≤ i ∧ i < s.cfg.log) (ht : t.length = 64) (he : s.wrE (plW d i) t = 0) :
    (s.wrS (plW d i) t).std ∧ (s.wrS (plW d i) t).cfg = s.cfg ∧ s.off = false ∧ (s.wrS (plW d i) t).off = false ∧ (s.wrS (plW d i) t).fused = s.fused ∧ (s.fused = true → s.left ≠ 0 ∧ (s.wrS (plW d i) t).left = s.left - 1) ∧
      (s.wrS (plW d i) t).bays.length = s.bays.length ∧ ∀ d', (s.wrS (plW d i) t).dk d' = if d' = d.toNat then (s.dk d').putC i t else s.dk d' := by
  obtain ⟨e1, e2⟩ := h.wr hd hi ht
  have hok := (Go.Proofs.Ytgendpinmmmfjaa.wr_ok h.ok (plW d i) t)
  obtain ⟨D, hb, hD, hA⟩ := h.bays hd
  have hl := h.ok.len
  have hlt : d.toNat < s.bays.length := by omega
  rw [e1] at he
  rw [e2] at hok ⊢
  unfold Sh.stepE at he
  have hacc := h.acc hd
  have ho : s.off = false := by
    cases hoff : s.off with
    | false => rfl
    | true =>
      rw [hoff] at hacc
      rw [if_pos (show s.acc d.toNat ≠ 0 by rw [hacc]; decide), hacc] at he
      simp at he
  rw [ho] at hacc
  have hacc0 : s.acc d.toNat = 0 := hacc
  rw [if_neg (by simp [hacc0])] at he
  have hA' : ((s.dk d.toNat).putC i t).armed.es = [] := putC_arm (by rw [hD]; exact hA) i t
  unfold Sh.stepS at hok ⊢
  rw [if_neg (by simp [hacc0])] at hok ⊢
  by_cases hf : s.fused = true
  · rw [if_pos hf] at hok ⊢
    have hl0 : s.left ≠ 0 := by
      intro h0
      rw [if_pos ⟨hf, h0⟩] at he; simp at he
    rw [if_neg hl0] at hok ⊢
    have hok2 : (s.setD d.toNat ((s.dk d.toNat).putC i t)).ok := ⟨hok.1.cfg, hok.1.len, fun hh => h.ok.fuse hh, hok.1.dks, hok.1.szs⟩
    have hstd := std_setD h hlt hA' hok2
    refine ⟨⟨hok.1, hstd.inn, hstd.arm⟩, rfl, ho, ho, rfl, fun _ => ⟨hl0, rfl⟩, by simp [Sh.setD], fun d' => ?_⟩
    have := dk_setD s hlt ((s.dk d.toNat).putC i t) d'
    refine Eq.trans this ?_
    split
    · rename_i e; rw [e]
    · rfl
  · rw [if_neg hf] at hok ⊢
    have hstd := std_setD h hlt hA' hok.1
    refine ⟨hstd, rfl, ho, ho, rfl, fun hh => absurd hh hf, by simp [Sh.setD], fun d' => ?_⟩
    refine Eq.trans (dk_setD s hlt ((s.dk d.toNat).putC i t) d') ?_
    split
    · rename_i e; rw [e]
    · rfl
/-- a write at which the power fails, or has failed -/
theorem Sh.std.wrNo (h : s.std) (hd : 0 ≤ d ∧ d < s.cfg.disks) (hi : 0 ≤ i ∧ i < s.cfg.log) (ht : t.length = 64) (he : s.wrE (plW d i) t ≠ 0) :
    s.wrE (plW d i) t = 14 ∧ (s.wrS (plW d i) t).std ∧ (s.wrS (plW d i) t).cfg = s.cfg ∧ (s.wrS (plW d i) t).off = true ∧ (s.wrS (plW d i) t).bays = s.bays ∧ (s.off = true ∨ s.fused = true) := by
  obtain ⟨e1, e2⟩ := h.wr hd hi ht
  have hok := (Go.Proofs.Ytgendpinmmmfjaa.wr_ok h.ok (plW d i) t)
  rw [e1] at he ⊢
  rw [e2] at hok ⊢
  have hacc := h.acc hd
  unfold Sh.stepE at he ⊢
  unfold Sh.stepS at hok ⊢
  cases hoff : s.off with
  | true =>
    rw [hoff] at hacc
    have hacc : s.acc d.toNat = 14 := hacc
    rw [if_pos (by rw [hacc]; decide)] at hok ⊢
    rw [if_pos (by rw [hacc]; decide)]
    exact ⟨hacc, h, rfl, hoff, rfl, .inl rfl⟩
  | false =>
    rw [hoff] at hacc
    have hacc : s.acc d.toNat = 0 := hacc
    have na : ¬ (s.acc d.toNat ≠ 0) := by simp [hacc]
    simp only [if_neg na] at he hok ⊢
    by_cases hf : s.fused = true ∧ s.left = 0
    · simp only [if_pos hf.1, if_pos hf.2] at hok ⊢
      simp only [if_pos hf]
      exact ⟨trivial, ⟨hok.1, h.inn, h.arm⟩, trivial, trivial, trivial, .inr hf.1⟩
    · rw [if_neg hf] at he; simp at he
theorem Sh.std.wrOn (h : s.std) (hd : 0 ≤ d ∧ d < s.cfg.disks) (hi : 0 ≤ i ∧ i < s.cfg.log) (ht : t.length = 64) (ho : s.off = false) (hf : s.fused = false) : s.wrE (plW d i) t = 0 := by
  by_cases he : s.wrE (plW d i) t = 0
  · exact he
  · obtain ⟨_, _, _, _, _, h1 | h1⟩ := h.wrNo hd hi ht he
    · rw [ho] at h1; simp at h1
    · rw [hf] at h1; simp at h1

end Dn

/-
  The plain law: what Append does to the disk; what is read behind a tail.
-/
namespace Dn
open Go

/-- j parts of a record are written, from the i-th on -/
def Dk.putP (d : Int) (t : Tl) (g : Gn) (r : Sec) : Nat → Nat → Dk → Dk
  | 0, _, D => D
  | j + 1, i, D => Dk.putP d t g r j (i + 1) (D.putC (t.next + i) (sealS (plW d (t.next + i)) g (payB t r i)))

theorem pay_le {t : Tl} {r : Sec} {i : Nat} : (payB t r i).length ≤ 40 := by
  simp [payB, gnB]; omega

theorem putP_read (d : Int) (t : Tl) (g : Gn) (r : Sec) (ht : 0 ≤ t.next) : ∀ (j i : Nat) (D : Dk) (i' : Int), 0 ≤ i' →
    (D.putP d t g r j i).read i'.toNat = if t.next + i ≤ i' ∧ i' < t.next + i + j then sealS (plW d i') g (payB t r (i' - t.next).toNat) else D.read i'.toNat := by
  intro j
  induction j with
  | zero => intro i D i' h; rw [if_neg (by omega)]; rfl
  | succ j ih =>
    intro i D i' h
    simp only [Dk.putP]
    rw [ih (i + 1) _ i' h, putC_read D (by omega) h]
    by_cases e : i' = t.next + i
    · subst e
      rw [if_neg (by omega), if_pos rfl, if_pos (by omega)]
      congr 2
      omega
    · rw [if_neg e]
      by_cases h2 : t.next + i + 1 ≤ i' ∧ i' < t.next + i + 1 + j
      · rw [if_pos (by omega), if_pos (by omega)]
      · rw [if_neg (by omega), if_neg (by omega)]

/-- what an append does: j of k parts are written -/
structure Wrote (s s' : Sh) (d : Int) (t : Tl) (g : Gn) (r : Sec) (i k j : Nat) (e : Int) : Prop where
  std : s'.std
  cfg : s'.cfg = s.cfg
  len : s'.bays.length = s.bays.length
  le : j ≤ k
  dk : ∀ d', s'.dk d' = if d' = d.toNat then (s.dk d').putP d t g r j i else s.dk d'
  or : (e = 0 ∧ j = k ∧ s'.off = s.off ∧ s'.fused = s.fused ∧ (0 < k → s.off = false)) ∨ (e = 14 ∧ j < k ∧ s'.off = true ∧ (s.off = true ∨ s.fused = true))

theorem appW_wrote (d : Int) (t : Tl) (g : Gn) (r : Sec) (ht : 0 ≤ t.next) : ∀ (k i : Nat) (s : Sh), s.std → 0 ≤ d ∧ d < s.cfg.disks → t.next + i + k ≤ s.cfg.log →
    ∃ j, Wrote s (appW d t g r k i s).2 d t g r i k j (appW d t g r k i s).1 := by
  intro k
  induction k with
  | zero =>
    intro i s h hd hk
    refine ⟨0, h, rfl, rfl, Nat.le_refl _, fun d' => ?_, .inl ⟨rfl, rfl, rfl, rfl, fun h => absurd h (Nat.lt_irrefl _)⟩⟩
    simp only [Dk.putP, ite_self]; rfl
  | succ k ih =>
    intro i s h hd hk
    have hl : (sealS (plW d (t.next + i)) g (payB t r i)).length = 64 := sealS_len pay_le
    by_cases he : s.wrE (plW d (t.next + i)) (sealS (plW d (t.next + i)) g (payB t r i)) = 0
    · obtain ⟨a1, a2, a3, a4, a5, a6, a7, a8⟩ := h.wrOK hd (i := t.next + i) (by omega) hl he
      have e : appW d t g r (k + 1) i s = appW d t g r k (i + 1) (s.wrS (plW d (t.next + i)) (sealS (plW d (t.next + i)) g (payB t r i))) := by simp only [appW, if_pos he]
      rw [e]
      obtain ⟨j, w⟩ := ih (i + 1) _ a1 (by rw [a2]; exact hd) (by rw [a2]; omega)
      refine ⟨j + 1, w.std, w.cfg.trans a2, w.len.trans a7, by have := w.le; omega, fun d' => ?_, ?_⟩
      · rw [w.dk, a8]
        by_cases e2 : d' = d.toNat
        · simp only [if_pos e2, Dk.putP]
        · simp only [if_neg e2]
      · rcases w.or with ⟨b1, b2, b3, b4, b5⟩ | ⟨b1, b2, b3, b4⟩
        · exact .inl ⟨b1, by omega, b3.trans (a4.trans a3.symm), b4.trans a5, fun _ => a3⟩
        · refine .inr ⟨b1, by omega, b3, ?_⟩
          rcases b4 with b4 | b4
          · rw [a4] at b4; simp at b4
          · rw [a5] at b4; exact .inr b4
    · obtain ⟨a1, a2, a3, a4, a5, a6⟩ := h.wrNo hd (i := t.next + i) (by omega) hl he
      have e : appW d t g r (k + 1) i s = (s.wrE (plW d (t.next + i)) (sealS (plW d (t.next + i)) g (payB t r i)), s.wrS (plW d (t.next + i)) (sealS (plW d (t.next + i)) g (payB t r i))) := by simp only [appW, if_neg he]
      rw [e]
      refine ⟨0, a2, a3, by rw [a5], by omega, fun d' => ?_, .inr ⟨a1, by omega, a4, a6⟩⟩
      simp only [Dk.putP, ite_self]
      unfold Sh.dk
      rw [a5]

theorem logN_le {c : Cfg} : c.logN ≤ c.log - 3 ∨ c.logN ≤ 0 := by unfold Cfg.logN; split <;> omega
theorem size_pos (n : Nat) : 1 ≤ sizeW n := by unfold sizeW; split <;> omega

/-- refused: nothing is done -/
def refused (s : Sh) (d : Int) (t : Tl) (g : Gn) (r : Sec) : Prop := ¬ (validW s d t ∧ g.ok0) ∨ ¬ g.newer t.gen ∨ r.length > 4096 ∨ t.next + sizeW r.length > s.cfg.logN
theorem append_refused {s : Sh} {d : Int} {t : Tl} {g : Gn} {r : Sec} (h : refused s d t g r) : (appendW s d t g r).2.1 ≠ 0 ∧ (appendW s d t g r).2.1 ≠ 14 ∧ (appendW s d t g r).2.2 = s := by
  unfold appendW
  by_cases h1 : ¬ (validW s d t ∧ g.ok0)
  · rw [if_pos h1]; exact ⟨by simp, by simp, rfl⟩
  rw [if_neg h1]
  by_cases h2 : ¬ g.newer t.gen
  · rw [if_pos h2]; exact ⟨by simp, by simp, rfl⟩
  rw [if_neg h2]
  by_cases h3 : r.length > 4096
  · rw [if_pos h3]; exact ⟨by simp, by simp, rfl⟩
  rw [if_neg h3]
  by_cases h4 : t.next + sizeW r.length > s.cfg.logN
  · rw [if_pos h4]; exact ⟨by simp, by simp, rfl⟩
  exact absurd h (by unfold refused; simp only [not_or]; exact ⟨h1, h2, h3, h4⟩)
theorem append_taken {s : Sh} {d : Int} {t : Tl} {g : Gn} {r : Sec} (hs : s.std) (h : ¬ refused s d t g r) : ∃ j, Wrote s (appendW s d t g r).2.2 d t g r 0 (sizeW r.length) j (appendW s d t g r).2.1 ∧
    ((appendW s d t g r).2.1 = 0 → (appendW s d t g r).1 = ⟨t.next + sizeW r.length, t.number + 1, g⟩) := by
  unfold refused at h
  simp only [not_or] at h
  obtain ⟨h1, h2, h3, h4⟩ := h
  have hv := (Classical.not_not.1 h1).1
  unfold validW Tl.ok at hv
  have hp := size_pos r.length
  have hN := logN_le (c := s.cfg)
  obtain ⟨j, w⟩ := appW_wrote d t g r hv.2.2.1 (sizeW r.length) 0 s hs ⟨hv.1, hv.2.1⟩ (by omega)
  refine ⟨j, ?_⟩
  unfold appendW
  rw [if_neg h1, if_neg h2, if_neg h3, if_neg h4]
  by_cases h5 : (appW d t g r (sizeW r.length) 0 s).1 = 0
  · rw [if_pos h5]
    rw [h5] at w
    exact ⟨w, fun _ => rfl⟩
  · rw [if_neg h5]
    exact ⟨w, fun hh => absurd hh h5⟩

/-! ### what is read -/

/-- the power is on, and nothing is on its way -/
structure Sh.on (s : Sh) : Prop where
  std : s.std
  off : s.off = false

/-- the parts of a record lie behind a tail -/
def recAt (s : Sh) (d : Int) (t : Tl) (g : Gn) (r : Sec) : Prop := ∀ i : Nat, i < sizeW r.length → s.vw d (t.next + i) = sealS (plW d (t.next + i)) g (payB t r i)

theorem read_at {s : Sh} (h : s.on) {d i : Int} (hd : 0 ≤ d ∧ d < s.cfg.disks) (hi : 0 ≤ i) :
    readW s d i = if i ≥ s.cfg.logN then (zPt, false, (0 : Int)) else match opened (plW d i) (s.vw d i) with | none => (zPt, false, (0 : Int)) | some (g, p) => (parse g p, true, (0 : Int)) := by
  unfold readW
  by_cases h1 : i ≥ s.cfg.logN
  · rw [if_pos h1, if_pos h1]
  · rw [if_neg h1, if_neg h1]
    have hN := logN_le (c := s.cfg)
    rw [h.std.rd hd (by omega) h.off, if_neg (by simp)]
    rfl
theorem read_err {s : Sh} (h : s.on) {d i : Int} (hd : 0 ≤ d ∧ d < s.cfg.disks) (hi : 0 ≤ i) : (readW s d i).2.2 = 0 := by
  rw [read_at h hd hi]
  split
  · rfl
  · split <;> rfl

theorem pl_ok {s : Sh} (h : s.ok) {d i : Int} (hd : 0 ≤ d ∧ d < s.cfg.disks) (hi : 0 ≤ i ∧ i < s.cfg.logN) : (plW d i).ok := by
  have hc := h.cfg
  unfold Cfg.ok at hc
  have hN := logN_le (c := s.cfg)
  unfold Pl.ok plW
  simp only
  omega
theorem size_bd {n i : Nat} (h : i < sizeW n) : 26 * i ≤ n := by unfold sizeW at h; split at h <;> omega
theorem size_all {n : Nat} : n ≤ 26 * sizeW n := by unfold sizeW; split <;> omega

theorem read_rec {s : Sh} (h : s.on) {d : Int} {t : Tl} {g : Gn} {r : Sec} (hd : 0 ≤ d ∧ d < s.cfg.disks) (ht : t.ok) (hg : g.ok) (hr : r.length ≤ 4096) (hfit : t.next + sizeW r.length ≤ s.cfg.logN) (hrec : recAt s d t g r) {i : Nat} (hi : i < sizeW r.length) :
    readW s d (t.next + i) = (⟨g, t.gen, t.number + 1, (r.length : Int) - 26 * i, payR r i⟩, true, 0) := by
  have ht' := ht
  unfold Tl.ok at ht'
  rw [read_at h hd (by omega), if_neg (by omega), hrec i hi, opened_seal (pl_ok h.std.ok hd (by omega)) hg pay_le]
  simp only
  rw [parse_pay ht hr (size_bd hi)]

theorem rest_rec {s : Sh} {d : Int} {t : Tl} {g : Gn} {r : Sec} (hrd : ∀ i : Nat, i < sizeW r.length → readW s d (t.next + i) = (⟨g, t.gen, t.number + 1, (r.length : Int) - 26 * i, payR r i⟩, true, 0)) :
    ∀ (k i : Nat), i + k = sizeW r.length → restW s d t ⟨g, t.gen, t.number + 1, (r.length : Int), payR r 0⟩ k i (r.take (26 * i)) = (r, true, 0) := by
  intro k
  induction k with
  | zero =>
    intro i hi
    simp only [restW]
    have := size_all (n := r.length)
    rw [List.take_of_length_le (by rw [← hi] at this; omega)]
  | succ k ih =>
    intro i hi
    simp only [restW]
    rw [hrd i (by omega), if_pos ⟨rfl, by unfold partOK; exact ⟨rfl, rfl, rfl, rfl⟩⟩]
    have e : r.take (26 * i) ++ payR r i = r.take (26 * (i + 1)) := by
      rw [show 26 * (i + 1) = 26 * i + 26 by omega, List.take_add]; rfl
    simp only [e]
    exact ih (i + 1) (by omega)

theorem next_rec {s : Sh} (h : s.on) {d : Int} {t : Tl} {g : Gn} {r : Sec} (hd : 0 ≤ d ∧ d < s.cfg.disks) (ht : t.ok) (hg : g.ok) (hnew : g.newer t.gen) (hr : r.length ≤ 4096) (hfit : t.next + sizeW r.length ≤ s.cfg.logN) (hrec : recAt s d t g r) :
    nextW s d t = (r, ⟨t.next + sizeW r.length, t.number + 1, g⟩, true, 0) := by
  have hrd : ∀ i : Nat, i < sizeW r.length → readW s d (t.next + i) = (⟨g, t.gen, t.number + 1, (r.length : Int) - 26 * i, payR r i⟩, true, 0) := fun i hi => read_rec h hd ht hg hr hfit hrec hi
  have hp := size_pos r.length
  have h0 := hrd 0 (by omega)
  simp only [Int.natCast_zero, Int.add_zero, Int.mul_zero, Int.sub_zero] at h0
  have hz : ((0 : Nat) : Int) = 0 := rfl
  try rw [hz, Int.add_zero, Int.mul_zero, Int.sub_zero] at h0
  unfold nextW
  rw [h0]
  have hl : ((r.length : Int)).toNat = r.length := by omega
  rw [if_pos ⟨rfl, by unfold headOK; exact ⟨hnew, rfl, rfl, by simp only; omega⟩⟩]
  simp only [hl]
  have hR := rest_rec hrd (sizeW r.length - 1) 1 (by omega)
  have e1 : payR r 0 = r.take (26 * 1) := by simp [payR]
  rw [← e1] at hR
  rw [hR, if_pos rfl]

/-- records one after the other, from a tail to a tail -/
def chain (s : Sh) (d : Int) : Tl → List (Gn × Sec) → Tl → Prop
  | t, [], t' => t = t'
  | t, (g, r) :: l, t' => t.ok ∧ g.ok ∧ g.newer t.gen ∧ r.length ≤ 4096 ∧ t.next + sizeW r.length ≤ s.cfg.logN ∧ recAt s d t g r ∧ chain s d ⟨t.next + sizeW r.length, t.number + 1, g⟩ l t'
/-- nothing more is read behind a tail -/
def stopAt (s : Sh) (d : Int) (t : Tl) : Prop := t.next ≥ s.cfg.logN ∨ ∀ g p, opened (plW d t.next) (s.vw d t.next) = some (g, p) → ¬ headOK (parse g p) t

theorem next_stop {s : Sh} (h : s.on) {d : Int} {t : Tl} (hd : 0 ≤ d ∧ d < s.cfg.disks) (ht : 0 ≤ t.next) (hst : stopAt s d t) : nextW s d t = ([], t, false, 0) := by
  have e := read_err h hd ht
  unfold nextW
  rw [if_neg]
  · rw [e]
  · rintro ⟨h1, h2⟩
    rw [read_at h hd ht] at h1 h2
    by_cases h3 : t.next ≥ s.cfg.logN
    · rw [if_pos h3] at h1; simp at h1
    · rw [if_neg h3] at h1 h2
      rcases hst with hst | hst
      · exact h3 hst
      · cases ho : opened (plW d t.next) (s.vw d t.next) with
        | none => rw [ho] at h1; simp at h1
        | some q =>
          obtain ⟨g, p⟩ := q
          rw [ho] at h2
          exact hst g p ho h2

theorem scan_chain {s : Sh} (h : s.on) {d : Int} (hd : 0 ≤ d ∧ d < s.cfg.disks) : ∀ (l : List (Gn × Sec)) (t t' : Tl) (k : Nat) (acc : List Sec), chain s d t l t' → nextW s d t' = ([], t', false, 0) → l.length + 1 ≤ k →
    scanW s d k t acc = (acc ++ l.map (·.2), t', 0) := by
  intro l
  induction l with
  | nil =>
    intro t t' k acc hc hst hk
    obtain ⟨k, rfl⟩ : ∃ m, k = m + 1 := ⟨k - 1, by simp at hk; omega⟩
    have hc : t = t' := hc
    subst hc
    simp only [scanW]
    rw [hst]
    simp
  | cons x l ih =>
    obtain ⟨g, r⟩ := x
    intro t t' k acc ⟨h1, h2, h3, h4, h5, h6, h7⟩ hst hk
    obtain ⟨k, rfl⟩ : ∃ m, k = m + 1 := ⟨k - 1, by simp at hk; omega⟩
    simp only [scanW]
    rw [next_rec h hd h1 h2 h3 h4 h5 h6]
    simp only [ne_eq, not_true_eq_false, if_false, if_true]
    rw [ih _ t' k _ h7 hst (by simp at hk; omega)]
    simp

theorem chain_len {s : Sh} {d : Int} : ∀ (l : List (Gn × Sec)) (t t' : Tl), chain s d t l t' → t.next + l.length ≤ t'.next ∧ (l ≠ [] → t'.next ≤ s.cfg.logN) := by
  intro l
  induction l with
  | nil => intro t t' h; have h : t = t' := h; subst h; exact ⟨by simp, fun h => absurd rfl h⟩
  | cons x l ih =>
    obtain ⟨g, r⟩ := x
    intro t t' ⟨h1, h2, h3, h4, h5, h6, h7⟩
    obtain ⟨k1, k2⟩ := ih _ _ h7
    have hp := size_pos r.length
    simp only [List.length_cons] at k1 ⊢
    refine ⟨by omega, fun _ => ?_⟩
    by_cases e : l = []
    · subst e
      have h7 : (⟨t.next + sizeW r.length, t.number + 1, g⟩ : Tl) = t' := h7
      rw [← h7]; exact h5
    · exact k2 e

theorem scan_allN {s : Sh} (h : s.on) {d : Int} (hd : 0 ≤ d ∧ d < s.cfg.disks) {l : List (Gn × Sec)} {t t' : Tl} (ht : t.ok) (hc : chain s d t l t') (hst : nextW s d t' = ([], t', false, 0)) : scanFull s d t = (l.map (·.2), t', 0) := by
  have ht' := ht
  unfold Tl.ok at ht'
  obtain ⟨k1, k2⟩ := chain_len l t t' hc
  unfold scanFull
  rw [if_pos (by unfold validW; exact ⟨hd.1, hd.2, ht⟩)]
  have hcf := h.std.ok.cfg
  unfold Cfg.ok at hcf
  have hN := logN_le (c := s.cfg)
  rw [scan_chain h hd l t t' _ [] hc hst]
  · rfl
  · unfold fuelW
    by_cases e : l = []
    · subst e; simp
    · have := k2 e
      omega

theorem scan_all {s : Sh} (h : s.on) {d : Int} (hd : 0 ≤ d ∧ d < s.cfg.disks) {l : List (Gn × Sec)} {t t' : Tl} (ht : t.ok) (hc : chain s d t l t') (hst : stopAt s d t') : scanFull s d t = (l.map (·.2), t', 0) := by
  have ht' := ht
  unfold Tl.ok at ht'
  exact scan_allN h hd ht hc (next_stop h hd (by have := (chain_len l t t' hc).1; omega) hst)

/-- A part is missing: there is no record. -/
theorem next_bad {s : Sh} (h : s.on) {d : Int} {t : Tl} {g : Gn} {r : Sec} (hd : 0 ≤ d ∧ d < s.cfg.disks) (ht : t.ok) (hg : g.ok) (hr : r.length ≤ 4096) (hfit : t.next + sizeW r.length ≤ s.cfg.logN) {j : Nat} (hj : j < sizeW r.length)
    (hrec : ∀ i : Nat, i < j → s.vw d (t.next + i) = sealS (plW d (t.next + i)) g (payB t r i)) (hbad : opened (plW d (t.next + j)) (s.vw d (t.next + j)) = none) : nextW s d t = ([], t, false, 0) := by
  have ht' := ht
  unfold Tl.ok at ht'
  have herr : ∀ i : Nat, (readW s d (t.next + i)).2.2 = 0 := fun i => read_err h hd (by omega)
  have hno : (readW s d (t.next + j)).2.1 = false := by
    rw [read_at h hd (by omega)]
    split
    · rfl
    · rw [hbad]
  have hrest : ∀ (x : Pt) (k i : Nat) (acc : Sec), (restW s d t x k i acc).2.2 = 0 := by
    intro x k
    induction k with
    | zero => intro i acc; rfl
    | succ k ih =>
      intro i acc
      simp only [restW]
      split
      · exact ih _ _
      · exact herr i
  have h0 : (readW s d t.next).2.2 = 0 := read_err h hd (by omega)
  unfold nextW
  by_cases hc : (readW s d t.next).2.1 = true ∧ headOK (readW s d t.next).1 t
  · rw [if_pos hc]
    rcases Nat.eq_zero_or_pos j with e | e
    · subst e
      rw [show t.next + ((0 : Nat) : Int) = t.next by omega] at hno
      rw [hno] at hc
      simp at hc
    · have hhead : readW s d t.next = (⟨g, t.gen, t.number + 1, (r.length : Int) - 26 * ((0 : Nat) : Int), payR r 0⟩, true, 0) := by
        rw [read_at h hd (by omega), if_neg (by omega)]
        have := hrec 0 e
        rw [show t.next + ((0 : Nat) : Int) = t.next by omega] at this
        rw [this, opened_seal (pl_ok h.std.ok hd (by omega)) hg pay_le]
        simp only
        rw [parse_pay ht hr (by omega)]
      have hleft : (readW s d t.next).1.left.toNat = r.length := by rw [hhead]; simp only; omega
      rw [hleft]
      have hf : (restW s d t (readW s d t.next).1 (sizeW r.length - 1) 1 (readW s d t.next).1.bytes).2.1 ≠ true := by
        intro hh
        have := rest_ok _ _ _ hh j e (by omega)
        rw [hno] at this
        simp at this
      rw [if_neg hf, hrest]
  · rw [if_neg hc, h0]

end Dn

/-
  A loop over the entries of a map.
-/
namespace Dn
open Go

variable {P : Program} {m : Nat} {w : World} {L L1 L2 Lb : List (Nat × Obj)} {F : Fr} {T : Rg} {N : Rg → World → Prop} {l : List Ins} {d : Option Nat} {ty : TypeId} {K : Ex → Rg → World → Prop}
variable {α : Type} {enc : α → Value}

/-- keys and births are each there once -/
structure GM.wf (g : GM α) : Prop where
  keys : (g.es.map (·.1)).Nodup
  births : (g.es.map (·.2.2)).Nodup
  lt : ∀ e ∈ g.es, e.2.2 < g.clock

def itO (c : Nat) (g : GM α) (seen : List Nat) : Obj := .mapIter (some c) g.clock ⟨seen⟩ g.clock

theorem e_range {t kt et : TypeId} {x : Operand} {c : Nat} {g : GM α} (S : Sep w L F) (i : Nat) (hx : T.evR x = .map (some c)) (hL : L[i]? = some (c, g.obj enc)) (ht : P.underlying t = some (.map kt et))
    (h : ∀ r w', Sep w' ((r, itO c g []) :: L) F → Evs P l N (updO T d (.pointer (some ⟨r, 0, none⟩))) w') : Evs P (.op (.raw d (.range t x) ty) :: l) N T w := by
  have hb := S.at_ _ _ (Sep.mem hL)
  refine e_raw (w' := w.alloc (itO c g [])) (v := .pointer (some ⟨w.heap.size, 0, none⟩)) ?_ (h _ _ (S.alloc _))
  simp only [rawSem, execOp]
  refine pull ?_
  simp only [Instr.range, Sem.run_bind, run_und ht, Result.andThen_ok, hx]
  rw [getObj_run hb (by intro c t f; simp [GM.obj])]
  simp [GM.obj, itO]

theorem e_next {y : Operand} {r c : Nat} {g : GM α} {seen : List Nat} (S : Sep w L F) (i j : Nat) (hy : T.evR y = .pointer (some ⟨r, 0, none⟩)) (hi : L[i]? = some (r, itO c g seen)) (hj : L[j]? = some (c, g.obj enc)) (hlt : ∀ e ∈ g.es, e.2.2 < g.clock)
    (h0 : (∀ e ∈ g.es, e.2.2 ∈ seen) → ∀ w', Sep w' L F → Evs P l N (updO T d (.tuple ⟨[.bool false]⟩)) w')
    (h1 : ∀ e ∈ g.es, e.2.2 ∉ seen → ∀ w', Sep w' (L.set i (r, itO c g (seen ++ [e.2.2]))) F → Evs P l N (updO T d (.tuple ⟨[.bool true, .int .i64 e.1, enc e.2.1]⟩)) w') :
    Evs P (.op (.raw d (.next y false) ty) :: l) N T w := by
  have hb := S.at_ _ _ (Sep.mem hi)
  have hc := S.at_ _ _ (Sep.mem hj)
  obtain ⟨lf, hlf⟩ : ∃ lf, (g.es.filter fun e => !seen.contains e.2.2) = lf := ⟨_, rfl⟩
  have hleft : ((⟨g.es.map (GM.entry enc)⟩ : Array MapEntry).filter fun e => !(⟨seen⟩ : Array Nat).contains e.born) = ⟨lf.map (GM.entry enc)⟩ := by
    apply Array.ext'
    rw [Array.toList_filter, ← hlf]
    show (g.es.map (GM.entry enc)).filter _ = _
    rw [List.filter_map]
    congr 1
    apply List.filter_congr
    intro e _
    simp [Function.comp, GM.entry]
  have hold : ((⟨lf.map (GM.entry enc)⟩ : Array MapEntry).filter fun e => decide (e.born < g.clock)) = ⟨lf.map (GM.entry enc)⟩ := by
    apply Array.ext'
    rw [Array.toList_filter]
    show (lf.map (GM.entry enc)).filter _ = lf.map (GM.entry enc)
    rw [List.filter_eq_self]
    intro x hx
    obtain ⟨e, he, rfl⟩ := List.mem_map.1 hx
    rw [← hlf] at he
    exact decide_eq_true (hlt e (List.mem_filter.1 he).1)
  have hnew : ((⟨lf.map (GM.entry enc)⟩ : Array MapEntry).filter fun e => decide (e.born ≥ g.clock)) = #[] := by
    apply Array.ext'
    rw [Array.toList_filter]
    show (lf.map (GM.entry enc)).filter _ = []
    rw [List.filter_eq_nil_iff]
    intro x hx
    obtain ⟨e, he, rfl⟩ := List.mem_map.1 hx
    rw [← hlf] at he
    have h9 := hlt e (List.mem_filter.1 he).1
    intro h
    have h8 : e.2.2 ≥ g.clock := of_decide_eq_true h
    omega
  have hno : (!(⟨seen⟩ : Array Nat).isEmpty && !(⟨g.es.map (GM.entry enc)⟩ : Array MapEntry).isEmpty && (⟨g.es.map (GM.entry enc)⟩ : Array MapEntry).all fun e => decide (e.born ≥ g.clock)) = false := by
    cases hes : g.es with
    | nil => simp
    | cons e es =>
      have := hlt e (by rw [hes]; simp)
      simp [GM.entry]
      intro _ h9
      omega
  have hrun : ∃ w', (w' = w ∨ w' = w.drew) ∧ ((lf = [] ∧ (Instr.next (T.evR y) false ty).run P w = .ok (.tuple #[.bool false]) w') ∨
      ∃ e ∈ lf, (Instr.next (T.evR y) false ty).run P w = .ok (.tuple #[.bool true, .int .i64 e.1, enc e.2.1]) (w'.putObj r (itO c g (seen ++ [e.2.2])))) := by
    rw [hy]
    simp only [Instr.next, Sem.run_bind]
    rw [getObj_run hb (by intro c t f; simp [itO])]
    simp only [itO, Result.andThen_ok, Sem.run_bind]
    rw [getObj_run hc (by intro c t f; simp [GM.obj])]
    simp only [GM.obj, Result.andThen_ok, hno, Bool.false_eq_true, if_false, Sem.run_bind, Sem.run_pure, hleft, hold, hnew]
    cases hl : lf with
    | nil => exact ⟨w, .inl rfl, .inl ⟨rfl, by simp [Question.forced]⟩⟩
    | cons e0 l0 =>
      have hcand : ((if (⟨(e0 :: l0).map (GM.entry enc)⟩ : Array MapEntry).isEmpty then #[none] else #[]) ++ ((⟨(e0 :: l0).map (GM.entry enc)⟩ : Array MapEntry) ++ #[]).map some : Array (Option MapEntry)) = ⟨(e0 :: l0).map fun e => some (GM.entry enc e)⟩ := by
        apply Array.ext'
        simp
      rw [hcand]
      have hsz : (⟨(e0 :: l0).map fun e => some (GM.entry enc e)⟩ : Array (Option MapEntry)).size = l0.length + 1 := by simp
      rw [hsz]
      have key : ∀ k, k < l0.length + 1 → ∃ e ∈ e0 :: l0, (⟨(e0 :: l0).map fun e => some (GM.entry enc e)⟩ : Array (Option MapEntry))[k]? = some (some (GM.entry enc e)) := by
        intro k hk
        refine ⟨(e0 :: l0)[k]'(by simpa using hk), List.getElem_mem _, ?_⟩
        rw [List.getElem?_toArray, List.getElem?_map, List.getElem?_eq_getElem (by simpa using hk)]
        rfl
      by_cases hf : (Question.mapNext (l0.length + 1)).forced = true
      · obtain ⟨e, he, hk⟩ := key 0 (by omega)
        refine ⟨w, .inl rfl, .inr ⟨e, he, ?_⟩⟩
        rw [run_choose, if_pos hf]
        simp only [Result.andThen_ok, hk, Sem.run_bind, Sem.run_pure]
        rw [setObj_run hb (by intro c t f; simp [itO])]
        simp [GM.entry, itO]
      · obtain ⟨e, he, hk⟩ := key ((Question.mapNext (l0.length + 1)).cut (w.tape w.drawn (.mapNext (l0.length + 1)))) (Nat.mod_lt _ (by omega))
        refine ⟨w.drew, .inr rfl, .inr ⟨e, he, ?_⟩⟩
        rw [run_choose, if_neg hf]
        simp only [Result.andThen_ok, hk, Sem.run_bind, Sem.run_pure]
        show ((Sem.run P (setObj r _) w.drew).andThen _) = _
        rw [setObj_run (w := w.drew) hb (by intro c t f; simp [itO])]
        simp [GM.entry, itO]
  obtain ⟨w', hw', (⟨hl, hr⟩ | ⟨e, he, hr⟩)⟩ := hrun
  · refine e_raw (w' := w') (v := .tuple #[.bool false]) ?_ (h0 ?_ w' ?_)
    · simp only [rawSem, execOp]
      exact pull hr
    · intro e he
      rw [hl] at hlf
      have := (List.filter_eq_nil_iff.1 hlf) e he
      simpa using this
    · rcases hw' with rfl | rfl
      · exact S
      · exact S.drew
  · refine e_raw (w' := w'.putObj r (itO c g (seen ++ [e.2.2]))) (v := .tuple #[.bool true, .int .i64 e.1, enc e.2.1]) ?_ (h1 e ?_ ?_ _ ?_)
    · simp only [rawSem, execOp]
      exact pull hr
    · rw [← hlf] at he; exact (List.mem_filter.1 he).1
    · rw [← hlf] at he
      have := (List.mem_filter.1 he).2
      simpa using this
    · rcases hw' with rfl | rfl
      · exact S.put i hi _
      · exact S.drew.put i hi _

theorem find_born {es : List (Int × α × Nat)} (hn : (es.map (·.2.2)).Nodup) {e : Int × α × Nat} (he : e ∈ es) : (es.map (GM.entry enc)).find? (fun x => x.born == e.2.2) = some (GM.entry enc e) := by
  induction es with
  | nil => simp at he
  | cons x es ih =>
    simp only [List.map_cons, List.nodup_cons] at hn
    rw [List.map_cons, List.find?_cons]
    rcases List.mem_cons.1 he with h | h
    · subst h; simp [GM.entry]
    · have hne : x.2.2 ≠ e.2.2 := fun hh => hn.1 (by rw [hh]; exact List.mem_map.2 ⟨e, h, rfl⟩)
      have : ((GM.entry enc x).born == e.2.2) = false := by simpa [GM.entry] using hne
      rw [this]
      exact ih hn.2 h
theorem e_entry {y : Operand} {r c : Nat} {g : GM α} {seen : List Nat} {e : Int × α × Nat} (S : Sep w L F) (i j : Nat) (hy : T.evR y = .pointer (some ⟨r, 0, none⟩)) (hi : L[i]? = some (r, itO c g (seen ++ [e.2.2]))) (hj : L[j]? = some (c, g.obj enc)) (hn : (g.es.map (·.2.2)).Nodup) (he : e ∈ g.es)
    (h : Evs P l N (updO T d (.tuple ⟨[.int .i64 e.1, enc e.2.1]⟩)) w) : Evs P (.op (.raw d (.entry y) ty) :: l) N T w := by
  have hb := S.at_ _ _ (Sep.mem hi)
  have hc := S.at_ _ _ (Sep.mem hj)
  refine e_raw (w' := w) (v := .tuple #[.int .i64 e.1, enc e.2.1]) ?_ h
  simp only [rawSem, execOp]
  refine pull ?_
  rw [hy]
  simp only [Instr.entry, Sem.run_bind]
  rw [getObj_run hb (by intro c t f; simp [itO])]
  simp only [itO, Result.andThen_ok]
  have hback : (⟨seen ++ [e.2.2]⟩ : Array Nat).back? = some e.2.2 := by simp [Array.back?]
  rw [hback]
  simp only [Sem.run_bind]
  rw [getObj_run hc (by intro c t f; simp [GM.obj])]
  simp only [GM.obj, Result.andThen_ok]
  have hf : (⟨g.es.map (GM.entry enc)⟩ : Array MapEntry).find? (fun x => x.born == e.2.2) = some (GM.entry enc e) := by
    rw [List.find?_toArray]; exact find_born hn he
  rw [hf]
  simp [GM.entry]

end Dn

/-
  The walk of a disk's Flush.
-/
namespace Dn
open Go

/-- the sectors, with the entries of a cache written over them -/
def flushD (dur : List Sec) (es : List (Int × Sec × Nat)) : List Sec := dur.mapIdx fun i s => (GM.find (i : Int) es).getD s
def Dk.flush (D : Dk) : Dk := { D with dur := flushD D.dur D.cache.es, cache := D.cache.clear }
/-- the cache: keys are sectors, each once -/
structure Dk.wf (D : Dk) : Prop where
  cache : D.cache.wf
  rng : ∀ e ∈ D.cache.es, 0 ≤ e.1 ∧ e.1 < (D.dur.length : Int)

@[simp] theorem flushD_len (dur : List Sec) (es : List (Int × Sec × Nat)) : (flushD dur es).length = dur.length := by simp [flushD]
theorem flushD_get (dur : List Sec) (es : List (Int × Sec × Nat)) (i : Nat) (h : i < dur.length) : (flushD dur es)[i]? = some ((GM.find (i : Int) es).getD dur[i]) := by
  simp [flushD, List.getElem?_mapIdx, h]
theorem flushD_nil (dur : List Sec) : flushD dur [] = dur := by
  apply List.ext_getElem?
  intro i
  simp [flushD, List.getElem?_mapIdx, GM.find]
theorem GM.find_none {α : Type} {k : Int} {l : List (Int × α × Nat)} (h : ∀ e ∈ l, e.1 ≠ k) : GM.find k l = none := by
  induction l with
  | nil => rfl
  | cons e l ih =>
    simp only [GM.find]
    rw [if_neg (fun hh => h e (by simp) hh.symm)]
    exact ih fun x hx => h x (by simp [hx])
theorem GM.find_of {α : Type} {l : List (Int × α × Nat)} (hn : (l.map (·.1)).Nodup) {e : Int × α × Nat} (he : e ∈ l) : GM.find e.1 l = some e.2.1 := by
  induction l with
  | nil => simp at he
  | cons x l ih =>
    simp only [List.map_cons, List.nodup_cons] at hn
    simp only [GM.find]
    rcases List.mem_cons.1 he with h | h
    · subst h; simp
    · rw [if_neg (fun hh => hn.1 (by rw [← hh]; exact List.mem_map.2 ⟨e, h, rfl⟩))]
      exact ih hn.2 h
theorem flushD_snoc {dur : List Sec} {vis : List (Int × Sec × Nat)} {e : Int × Sec × Nat} (h0 : 0 ≤ e.1) (hk : ∀ x ∈ vis, x.1 ≠ e.1) : flushD dur (vis ++ [e]) = (flushD dur vis).set e.1.toNat e.2.1 := by
  apply List.ext_getElem?
  intro i
  rcases Nat.lt_or_ge i dur.length with hi | hi
  · rw [flushD_get _ _ _ hi, List.getElem?_set]
    obtain ⟨k, v, n⟩ := e
    simp only at h0 hk ⊢
    have hs : GM.find (i : Int) (vis ++ [(k, v, n)]) = (GM.find (i : Int) vis).or (if (i : Int) = k then some v else none) := by
      have : ∀ (l : List (Int × Sec × Nat)), GM.find (i : Int) (l ++ [(k, v, n)]) = (GM.find (i : Int) l).or (if (i : Int) = k then some v else none) := by
        intro l
        induction l with
        | nil => simp [GM.find]
        | cons x l ih =>
          simp only [List.cons_append, GM.find]
          split
          · rfl
          · exact ih
      exact this vis
    rw [hs]
    by_cases e1 : (i : Int) = k
    · have hnone : GM.find (i : Int) vis = none := by rw [e1]; exact GM.find_none hk
      rw [if_pos e1, hnone, if_pos (by omega), if_pos (by simp; omega)]
      rfl
    · rw [if_neg e1, if_neg (by omega), flushD_get _ _ _ hi]
      simp
  · rw [List.getElem?_eq_none (by simpa using hi), List.getElem?_eq_none (by simpa using hi)]

theorem flat_set {dur : List Sec} (h : ∀ s ∈ dur, s.length = 64) {i : Nat} (hi : i < dur.length) {s : Sec} (hs : s.length = 64) : putAt (dur.flatMap bcells) (i * 64) (bcells s) = (dur.set i s).flatMap bcells := by
  induction dur generalizing i with
  | nil => simp at hi
  | cons x dur ih =>
    have hx := h x (by simp)
    have hl : (bcells x).length = 64 := by simp [hx]
    have hls : (bcells s).length = 64 := by simp [hs]
    cases i with
    | zero =>
      simp only [List.set_cons_zero, List.flatMap_cons]
      unfold putAt
      rw [Nat.zero_mul, List.take_zero, List.nil_append, Nat.zero_add, hls, List.drop_left' hl]
    | succ i =>
      have e : (i + 1) * 64 = (bcells x).length + i * 64 := by rw [hl]; omega
      have := ih (fun s hs => h s (by simp [hs])) (i := i) (by simpa using hi)
      unfold putAt at this ⊢
      rw [List.flatMap_cons, List.set_cons_succ, List.flatMap_cons, e, List.take_length_add_append, Nat.add_assoc, List.drop_length_add_append, List.append_assoc, this]

theorem flush_all {D : Dk} (h : D.cache.wf) {vis : List (Int × Sec × Nat)} (h1 : ∀ e ∈ vis, e ∈ D.cache.es) (h2 : ∀ e ∈ D.cache.es, e.2.2 ∈ vis.map (·.2.2)) : flushD D.dur vis = flushD D.dur D.cache.es := by
  have hmem : ∀ e ∈ D.cache.es, e ∈ vis := by
    intro e he
    obtain ⟨e', he', hb⟩ := List.mem_map.1 (h2 e he)
    have h3 := h1 e' he'
    have : e' = e := by
      obtain ⟨i, hi, hie⟩ := List.mem_iff_getElem.1 h3
      obtain ⟨j, hj, hje⟩ := List.mem_iff_getElem.1 he
      have : i = j := by
        refine (List.getElem_inj (xs := D.cache.es.map (·.2.2)) (h₀ := by simpa using hi) (h₁ := by simpa using hj) h.births).1 ?_
        simp [hie, hje, hb]
      subst this
      rw [← hie, ← hje]
    rw [← this]; exact he'
  unfold flushD
  congr 1
  funext i s
  congr 1
  cases hf : GM.find (i : Int) D.cache.es with
  | none =>
    refine GM.find_none fun e he hk => ?_
    have := GM.find_of h.keys (h1 e he)
    rw [hk, hf] at this
    simp at this
  | some v =>
    obtain ⟨b, hb⟩ := GM.find_mem hf
    cases hv : GM.find (i : Int) vis with
    | none =>
      exfalso
      have hvis := hmem _ hb
      have key : ∀ (l : List (Int × Sec × Nat)), GM.find (i : Int) l = none → ∀ e ∈ l, e.1 ≠ (i : Int) := by
        intro l
        induction l with
        | nil => intro _ e he; simp at he
        | cons x l ih =>
          intro hn e he
          simp only [GM.find] at hn
          split at hn
          · simp at hn
          · rename_i hne
            rcases List.mem_cons.1 he with rfl | he
            · exact fun h => hne h.symm
            · exact ih hn e he
      exact key vis hv _ hvis rfl
    | some v' =>
      obtain ⟨b', hb'⟩ := GM.find_mem hv
      have := GM.find_of h.keys (h1 _ hb')
      simp only at this
      rw [hf] at this
      exact this.symm

theorem left_lt {α : Type} {es : List (Int × α × Nat)} {seen : List Nat} {e : Int × α × Nat} (he : e ∈ es) (hn : e.2.2 ∉ seen) : (es.filter fun x => !(seen ++ [e.2.2]).contains x.2.2).length < (es.filter fun x => !seen.contains x.2.2).length := by
  have e1 : (es.filter fun x => !(seen ++ [e.2.2]).contains x.2.2) = (es.filter fun x => !seen.contains x.2.2).filter fun x => !(x.2.2 == e.2.2) := by
    rw [List.filter_filter]
    apply List.filter_congr
    intro x _
    by_cases h1 : x.2.2 = e.2.2 <;> by_cases h2 : x.2.2 ∈ seen <;> simp [h1, h2]
  rw [e1, List.length_filter_lt_length_iff_exists]
  exact ⟨e, List.mem_filter.2 ⟨he, by simpa using hn⟩, by simp⟩

end Dn
namespace Go.Proofs.Ytgendpinmmmfjaa
open Dn
attribute [local irreducible] Evs Ev EvT DSpec PSpec CallTo
set_option maxRecDepth 10000
set_option maxHeartbeats 1000000

theorem dk_flush (D : Dk) (hok : D.ok) (hwf : D.wf) : DSpec Try.prog 44 [D.v] D.L fun _ L => L = D.flush.L := by
  refine spec_of mix Try.func44 c44_eq rfl rfl fun w F Q S hQ => ?_
  (repeat (first|(with_reducible first|refine Ja ?_|refine Jb ?_|refine Jc ?_|refine Jd ?_|refine Je ?_|refine Jf ?_|refine Jg ?_|refine Jh ?_|refine Ji ?_|refine Jj ?_|refine Jk rfl ?_|refine Jl ?_|refine Jm ?_|refine Jn ?_|refine Jo ?_|refine Jp ?_|refine Jq ?_)|refine JA rfl ?_|refine JB rfl ?_|refine JC rfl ?_|refine JD rfl ?_|refine JE rfl ?_|refine JF rfl ?_|refine JG rfl ?_|refine JH rfl ?_|refine JI rfl ?_|refine J2 rfl ?_|refine J3 rfl ?_|refine J4 rfl ?_|refine J1 rfl ?_|refine J6 rfl ?_|refine J7 rfl ?_|refine JJ rfl ?_|refine JK rfl ?_|refine JQ rfl ?_|refine JL rfl rfl ?_|refine JM rfl rfl ?_|refine JN rfl ?_|refine JO rfl ?_|refine JP rfl ?_))
  refine e_ld (S.cell 0 rfl rfl) ?_
  refine e_range (enc := encS) S 2 rfl rfl Try.underlying116 fun r w S => ?_
  (repeat (first|(with_reducible first|refine Ja ?_|refine Jb ?_|refine Jc ?_|refine Jd ?_|refine Je ?_|refine Jf ?_|refine Jg ?_|refine Jh ?_|refine Ji ?_|refine Jj ?_|refine Jk rfl ?_|refine Jl ?_|refine Jm ?_|refine Jn ?_|refine Jo ?_|refine Jp ?_|refine Jq ?_)|refine JA rfl ?_|refine JB rfl ?_|refine JC rfl ?_|refine JD rfl ?_|refine JE rfl ?_|refine JF rfl ?_|refine JG rfl ?_|refine JH rfl ?_|refine JI rfl ?_|refine J2 rfl ?_|refine J3 rfl ?_|refine J4 rfl ?_|refine J1 rfl ?_|refine J6 rfl ?_|refine J7 rfl ?_|refine JJ rfl ?_|refine JK rfl ?_|refine JQ rfl ?_|refine JL rfl rfl ?_|refine JM rfl rfl ?_|refine JN rfl ?_|refine JO rfl ?_|refine JP rfl ?_))
  refine s_loop (σ := List (Int × Sec × Nat)) (fun _ => [(0, D.v), (8, .pointer (some ⟨r, 0, none⟩))])
    (fun vis w => (∀ e ∈ vis, e ∈ D.cache.es) ∧ Dn.Sep w ((r, itO D.c D.cache (vis.map (·.2.2))) :: (D.q, .cells ⟨D.hd⟩ 119) :: (D.b, .cells ⟨(flushD D.dur vis).flatMap bcells⟩ 114) :: [(D.c, D.cache.obj encS), (D.a, D.armed.obj encI)]) F)
    (fun vis => (D.cache.es.filter fun x => !(vis.map (·.2.2)).contains x.2.2).length) [] ⟨rfl, rfl, trivial⟩ rfl ⟨by simp, by
      have e : flushD D.dur [] = D.dur := flushD_nil D.dur
      rw [e]; exact S⟩ ?_
  rintro g vis w ⟨hvis, S⟩
  simp only [setL]
  (repeat (first|(with_reducible first|refine Ja ?_|refine Jb ?_|refine Jc ?_|refine Jd ?_|refine Je ?_|refine Jf ?_|refine Jg ?_|refine Jh ?_|refine Ji ?_|refine Jj ?_|refine Jk rfl ?_|refine Jl ?_|refine Jm ?_|refine Jn ?_|refine Jo ?_|refine Jp ?_|refine Jq ?_)|refine JA rfl ?_|refine JB rfl ?_|refine JC rfl ?_|refine JD rfl ?_|refine JE rfl ?_|refine JF rfl ?_|refine JG rfl ?_|refine JH rfl ?_|refine JI rfl ?_|refine J2 rfl ?_|refine J3 rfl ?_|refine J4 rfl ?_|refine J1 rfl ?_|refine J6 rfl ?_|refine J7 rfl ?_|refine JJ rfl ?_|refine JK rfl ?_|refine JQ rfl ?_|refine JL rfl rfl ?_|refine JM rfl rfl ?_|refine JN rfl ?_|refine JO rfl ?_|refine JP rfl ?_))
  refine e_next S 0 3 rfl rfl rfl hwf.cache.lt (fun hall w S => ?_) (fun e he hne w S => ?_)
  · (repeat (first|(with_reducible first|refine Ja ?_|refine Jb ?_|refine Jc ?_|refine Jd ?_|refine Je ?_|refine Jf ?_|refine Jg ?_|refine Jh ?_|refine Ji ?_|refine Jj ?_|refine Jk rfl ?_|refine Jl ?_|refine Jm ?_|refine Jn ?_|refine Jo ?_|refine Jp ?_|refine Jq ?_)|refine JA rfl ?_|refine JB rfl ?_|refine JC rfl ?_|refine JD rfl ?_|refine JE rfl ?_|refine JF rfl ?_|refine JG rfl ?_|refine JH rfl ?_|refine JI rfl ?_|refine J2 rfl ?_|refine J3 rfl ?_|refine J4 rfl ?_|refine J1 rfl ?_|refine J6 rfl ?_|refine J7 rfl ?_|refine JJ rfl ?_|refine JK rfl ?_|refine JQ rfl ?_|refine JL rfl rfl ?_|refine JM rfl rfl ?_|refine JN rfl ?_|refine JO rfl ?_|refine JP rfl ?_))
    refine e_ld (S.cell 1 rfl rfl) ?_
    refine e_clearM S 3 rfl rfl rfl Try.underlying116 fun w S => ?_
    (repeat (first|(with_reducible first|refine Ja ?_|refine Jb ?_|refine Jc ?_|refine Jd ?_|refine Je ?_|refine Jf ?_|refine Jg ?_|refine Jh ?_|refine Ji ?_|refine Jj ?_|refine Jk rfl ?_|refine Jl ?_|refine Jm ?_|refine Jn ?_|refine Jo ?_|refine Jp ?_|refine Jq ?_)|refine JA rfl ?_|refine JB rfl ?_|refine JC rfl ?_|refine JD rfl ?_|refine JE rfl ?_|refine JF rfl ?_|refine JG rfl ?_|refine JH rfl ?_|refine JI rfl ?_|refine J2 rfl ?_|refine J3 rfl ?_|refine J4 rfl ?_|refine J1 rfl ?_|refine J6 rfl ?_|refine J7 rfl ?_|refine JJ rfl ?_|refine JK rfl ?_|refine JQ rfl ?_|refine JL rfl rfl ?_|refine JM rfl rfl ?_|refine JN rfl ?_|refine JO rfl ?_|refine JP rfl ?_))
    refine f_end rfl rfl (hQ _ _ _ ?_ (Sep.drop (L2 := [_]) S))
    rw [flush_all hwf.cache hvis hall]
    simp [Dk.L, Dk.flush, Dk.hd]
  have hs64 : e.2.1.length = 64 := hok.2 e he
  have hrng := hwf.rng e he
  have hdur : ∀ s ∈ flushD D.dur vis, s.length = 64 := by
    intro s hs
    obtain ⟨i, hi, hie⟩ := List.mem_iff_getElem.1 hs
    have h1 := flushD_get D.dur vis i (by simpa using hi)
    rw [List.getElem?_eq_getElem hi, Option.some.injEq, hie] at h1
    rw [h1]
    cases hf : GM.find (i : Int) vis with
    | none => exact hok.1 _ (List.getElem_mem _)
    | some v =>
      obtain ⟨b, hb⟩ := GM.find_mem hf
      exact hok.2 _ (hvis _ hb)
  have hkey : ∀ x ∈ vis, x.1 ≠ e.1 := by
    intro x hx hk
    apply hne
    have h1 := GM.find_of hwf.cache.keys he
    have h2 := hvis x hx
    obtain ⟨i, hi, hie⟩ := List.mem_iff_getElem.1 h2
    obtain ⟨j, hj, hje⟩ := List.mem_iff_getElem.1 he
    have : i = j := by
      refine (List.getElem_inj (xs := D.cache.es.map (·.1)) (h₀ := by simpa using hi) (h₁ := by simpa using hj) hwf.cache.keys).1 ?_
      simp [hie, hje, hk]
    subst this
    rw [hie] at hje
    rw [← hje]
    exact List.mem_map.2 ⟨x, hx, rfl⟩
  (repeat (first|(with_reducible first|refine Ja ?_|refine Jb ?_|refine Jc ?_|refine Jd ?_|refine Je ?_|refine Jf ?_|refine Jg ?_|refine Jh ?_|refine Ji ?_|refine Jj ?_|refine Jk rfl ?_|refine Jl ?_|refine Jm ?_|refine Jn ?_|refine Jo ?_|refine Jp ?_|refine Jq ?_)|refine JA rfl ?_|refine JB rfl ?_|refine JC rfl ?_|refine JD rfl ?_|refine JE rfl ?_|refine JF rfl ?_|refine JG rfl ?_|refine JH rfl ?_|refine JI rfl ?_|refine J2 rfl ?_|refine J3 rfl ?_|refine J4 rfl ?_|refine J1 rfl ?_|refine J6 rfl ?_|refine J7 rfl ?_|refine JJ rfl ?_|refine JK rfl ?_|refine JQ rfl ?_|refine JL rfl rfl ?_|refine JM rfl rfl ?_|refine JN rfl ?_|refine JO rfl ?_|refine JP rfl ?_))
  refine e_entry (e := e) S 0 3 rfl rfl rfl hwf.cache.births he ?_
  refine e_p (v := .int .i64 e.1) rfl ?_
  refine e_p (v := encS e.2.1) rfl ?_
  refine e_nw S fun b3 w S => ?_
  refine e_mvI rfl ?_
  refine e_st (vs := bcells e.2.1) S 0 rfl rfl rfl (by simp [hs64]) (bcells_flat _) (by simp) fun w S => ?_
  replace S : Dn.Sep w ((b3, .cells ⟨putAt _ 0 (bcells e.2.1)⟩ 114) :: (r, itO D.c D.cache (vis.map (·.2.2) ++ [e.2.2])) :: (D.q, .cells ⟨D.hd⟩ 119) :: (D.b, .cells ⟨(flushD D.dur vis).flatMap bcells⟩ 114) :: [(D.c, D.cache.obj encS), (D.a, D.armed.obj encI)]) F := S
  rw [putAt_all (by simp [hs64])] at S
  (repeat (with_reducible first|refine Ja ?_|refine Jb ?_|refine Jc ?_|refine Jd ?_|refine Je ?_|refine Jf ?_|refine Jg ?_|refine Jh ?_|refine Ji ?_|refine Jj ?_|refine Jk rfl ?_|refine Jl ?_|refine Jm ?_|refine Jn ?_|refine Jo ?_|refine Jp ?_|refine Jq ?_))
  refine s_opsd ?_
  replace S := S.drew
  (repeat (first|(with_reducible first|refine Ja ?_|refine Jb ?_|refine Jc ?_|refine Jd ?_|refine Je ?_|refine Jf ?_|refine Jg ?_|refine Jh ?_|refine Ji ?_|refine Jj ?_|refine Jk rfl ?_|refine Jl ?_|refine Jm ?_|refine Jn ?_|refine Jo ?_|refine Jp ?_|refine Jq ?_)|refine JA rfl ?_|refine JB rfl ?_|refine JC rfl ?_|refine JD rfl ?_|refine JE rfl ?_|refine JF rfl ?_|refine JG rfl ?_|refine JH rfl ?_|refine JI rfl ?_|refine J2 rfl ?_|refine J3 rfl ?_|refine J4 rfl ?_|refine J1 rfl ?_|refine J6 rfl ?_|refine J7 rfl ?_|refine JJ rfl ?_|refine JK rfl ?_|refine JQ rfl ?_|refine JL rfl rfl ?_|refine JM rfl rfl ?_|refine JN rfl ?_|refine JO rfl ?_|refine JP rfl ?_))
  refine e_ld (S.cell 2 rfl rfl) ?_
  (repeat (first|(with_reducible first|refine Ja ?_|refine Jb ?_|refine Jc ?_|refine Jd ?_|refine Je ?_|refine Jf ?_|refine Jg ?_|refine Jh ?_|refine Ji ?_|refine Jj ?_|refine Jk rfl ?_|refine Jl ?_|refine Jm ?_|refine Jn ?_|refine Jo ?_|refine Jp ?_|refine Jq ?_)|refine JA rfl ?_|refine JB rfl ?_|refine JC rfl ?_|refine JD rfl ?_|refine JE rfl ?_|refine JF rfl ?_|refine JG rfl ?_|refine JH rfl ?_|refine JI rfl ?_|refine J2 rfl ?_|refine J3 rfl ?_|refine J4 rfl ?_|refine J1 rfl ?_|refine J6 rfl ?_|refine J7 rfl ?_|refine JJ rfl ?_|refine JK rfl ?_|refine JQ rfl ?_|refine JL rfl rfl ?_|refine JM rfl rfl ?_|refine JN rfl ?_|refine JO rfl ?_|refine JP rfl ?_))
  refine e_ld (v := encS e.2.1) (S.row 0 rfl (by simp [hs64]) (by rw [List.drop_zero, List.take_of_length_le (by simp [hs64])])) ?_
  refine e_ixa rfl rfl hrng.1 hrng.2 ?_
  rw [show 0 + e.1.toNat * 64 = e.1.toNat * 64 by omega]
  have hlen : e.1.toNat < (flushD D.dur vis).length := by simp; omega
  refine e_st (vs := bcells e.2.1) S 3 rfl rfl rfl (by simp [hs64]) (bcells_flat _) (by rw [flat_len hdur]; omega) fun w S => ?_
  rw [flat_set hdur hlen hs64, ← flushD_snoc hrng.1 hkey] at S
  (repeat (first|(with_reducible first|refine Ja ?_|refine Jb ?_|refine Jc ?_|refine Jd ?_|refine Je ?_|refine Jf ?_|refine Jg ?_|refine Jh ?_|refine Ji ?_|refine Jj ?_|refine Jk rfl ?_|refine Jl ?_|refine Jm ?_|refine Jn ?_|refine Jo ?_|refine Jp ?_|refine Jq ?_)|refine JA rfl ?_|refine JB rfl ?_|refine JC rfl ?_|refine JD rfl ?_|refine JE rfl ?_|refine JF rfl ?_|refine JG rfl ?_|refine JH rfl ?_|refine JI rfl ?_|refine J2 rfl ?_|refine J3 rfl ?_|refine J4 rfl ?_|refine J1 rfl ?_|refine J6 rfl ?_|refine J7 rfl ?_|refine JJ rfl ?_|refine JK rfl ?_|refine JQ rfl ?_|refine JL rfl rfl ?_|refine JM rfl rfl ?_|refine JN rfl ?_|refine JO rfl ?_|refine JP rfl ?_))
  refine ⟨rfl, vis ++ [e], ⟨rfl, rfl, trivial⟩, ⟨fun x hx => ?_, ?_⟩, ?_⟩
  · rcases List.mem_append.1 hx with h | h
    · exact hvis x h
    · simp only [List.mem_singleton] at h; subst h; exact he
  · rw [List.map_append]; exact Sep.drop (L2 := [_]) S
  · rw [List.map_append]; exact left_lt he hne

end Go.Proofs.Ytgendpinmmmfjaa

/-
  The walks of a shelf's Flush and FlushAll.
-/
namespace Dn
open Go

/-- every disk's cache: keys are sectors, each once -/
def Sh.wf (s : Sh) : Prop := ∀ b ∈ s.bays, b.1.wf
def Sh.flE (s : Sh) (d : Int) : Int := if s.state d = 0 then 1 else s.stepE d.toNat
def Sh.flS (s : Sh) (d : Int) : Sh := if s.state d = 0 then s else s.stepS d.toNat ((s.dk d.toNat).flush)
/-- all bays from the d-th on are flushed: the error, the shelf -/
def faW : Nat → Nat → Sh → Int × Sh
  | 0, _, s => (0, s)
  | k + 1, d, s =>
    if ((s.bays[d]?).map (·.2)).getD 0 ≠ 1 then faW k (d + 1) s
    else if s.flE d ≠ 0 then (s.flE d, s.flS d) else faW k (d + 1) (s.flS d)
def flushAllW (s : Sh) : Int × Sh := if s.off = true then (14, s) else faW s.bays.length 0 s

theorem flush_ok {D : Dk} (h : D.ok) : D.flush.ok ∧ D.flush.dur.length = D.dur.length := by
  refine ⟨⟨fun s hs => ?_, fun e he => by simp [Dk.flush, GM.clear] at he⟩, by simp [Dk.flush]⟩
  have hs : s ∈ flushD D.dur D.cache.es := hs
  obtain ⟨i, hi, hie⟩ := List.mem_iff_getElem.1 hs
  have h1 := flushD_get D.dur D.cache.es i (by simpa using hi)
  rw [List.getElem?_eq_getElem hi, Option.some.injEq, hie] at h1
  rw [h1]
  cases hf : GM.find (i : Int) D.cache.es with
  | none => exact h.1 _ (List.getElem_mem _)
  | some v =>
    obtain ⟨b, hb⟩ := GM.find_mem hf
    exact h.2 _ hb
theorem flush_wf (D : Dk) : D.flush.wf := ⟨⟨by simp [Dk.flush, GM.clear], by simp [Dk.flush, GM.clear], by simp [Dk.flush, GM.clear]⟩, by simp [Dk.flush, GM.clear]⟩

/-- what a step leaves as it was -/
theorem step_keep (s : Sh) (d : Nat) (D : Dk) : (s.stepS d D).q = s.q ∧ (s.stepS d D).bb = s.bb ∧ (s.stepS d D).cap = s.cap ∧ (s.stepS d D).bays.length = s.bays.length ∧ (s.stepS d D).cfg = s.cfg := by
  unfold Sh.stepS
  repeat' split
  all_goals simp [Sh.setD]
theorem step_wf {s : Sh} (h : s.wf) {d : Nat} {D : Dk} (hD : D.wf) : (s.stepS d D).wf := by
  have hset : (s.setD d D).wf := by
    intro b hb
    rcases List.mem_or_eq_of_mem_set (show b ∈ s.bays.set d (D, ((s.bays[d]?).getD (D, 0)).2) from hb) with h1 | h1
    · exact h b h1
    · rw [h1]; exact hD
  unfold Sh.stepS
  repeat' split
  · exact h
  · exact h
  · exact hset
  · exact hset
end Dn
namespace Go.Proofs.Ytgendpinmmmfjaa
open Dn
attribute [local irreducible] Evs Ev EvT DSpec PSpec CallTo
set_option maxRecDepth 10000
set_option maxHeartbeats 1000000

theorem state_in {s : Sh} {d : Int} (h : ¬ s.state d = 0) : 0 ≤ d ∧ d < (s.bays.length : Int) := by
  unfold Sh.state at h
  by_cases e : d < 0 ∨ d ≥ (s.bays.length : Int)
  · rw [if_pos e] at h; exact absurd rfl h
  · omega
theorem fl_ok {s : Sh} (h : s.ok) (hw : s.wf) (d : Int) : (s.flS d).ok ∧ (s.flS d).wf ∧ (s.flS d).q = s.q ∧ (s.flS d).bb = s.bb ∧ (s.flS d).cap = s.cap ∧ (s.flS d).bays.length = s.bays.length ∧ (s.flS d).cfg = s.cfg := by
  unfold Sh.flS
  by_cases e : s.state d = 0
  · rw [if_pos e]; exact ⟨h, hw, rfl, rfl, rfl, rfl, rfl⟩
  · rw [if_neg e]
    obtain ⟨k1, k2⟩ := state_in e
    obtain ⟨st, hb⟩ := dk_at (s := s) (d := d.toNat) (by omega)
    have hf := flush_ok (h.dks _ (List.mem_of_getElem? hb))
    have hs := step_ok h (d := d.toNat) hf.1 (by rw [hf.2]; exact h.szs _ (List.mem_of_getElem? hb))
    obtain ⟨a1, a2, a3, a4, a5⟩ := step_keep s d.toNat (s.dk d.toNat).flush
    exact ⟨hs.1, step_wf hw (flush_wf _), a1, a2, a3, a4, a5⟩

theorem flush_closure (D : Dk) (st : Int) (hok : D.ok) (hwf : D.wf) :
    DSpec Try.prog 43 ([] ++ [.agg ⟨bayV (D, st)⟩] ++ []) ([] ++ D.L) fun _ L => L = [] ++ D.flush.L := by
  refine spec_of mix Try.func43 c43_eq rfl rfl fun w F Q S hQ => ?_
  (repeat (first|(with_reducible first|refine Ja ?_|refine Jb ?_|refine Jc ?_|refine Jd ?_|refine Je ?_|refine Jf ?_|refine Jg ?_|refine Jh ?_|refine Ji ?_|refine Jj ?_|refine Jk rfl ?_|refine Jl ?_|refine Jm ?_|refine Jn ?_|refine Jo ?_|refine Jp ?_|refine Jq ?_)|refine JA rfl ?_|refine JB rfl ?_|refine JC rfl ?_|refine JD rfl ?_|refine JE rfl ?_|refine JF rfl ?_|refine JG rfl ?_|refine JH rfl ?_|refine JI rfl ?_|refine J2 rfl ?_|refine J3 rfl ?_|refine J4 rfl ?_|refine J1 rfl ?_|refine J6 rfl ?_|refine J7 rfl ?_|refine JJ rfl ?_|refine JK rfl ?_|refine JQ rfl ?_|refine JL rfl rfl ?_|refine JM rfl rfl ?_|refine JN rfl ?_|refine JO rfl ?_|refine JP rfl ?_))
  refine e_bx S rfl fun b w S => ?_
  (repeat (first|(with_reducible first|refine Ja ?_|refine Jb ?_|refine Jc ?_|refine Jd ?_|refine Je ?_|refine Jf ?_|refine Jg ?_|refine Jh ?_|refine Ji ?_|refine Jj ?_|refine Jk rfl ?_|refine Jl ?_|refine Jm ?_|refine Jn ?_|refine Jo ?_|refine Jp ?_|refine Jq ?_)|refine JA rfl ?_|refine JB rfl ?_|refine JC rfl ?_|refine JD rfl ?_|refine JE rfl ?_|refine JF rfl ?_|refine JG rfl ?_|refine JH rfl ?_|refine JI rfl ?_|refine J2 rfl ?_|refine J3 rfl ?_|refine J4 rfl ?_|refine J1 rfl ?_|refine J6 rfl ?_|refine J7 rfl ?_|refine JJ rfl ?_|refine JK rfl ?_|refine JQ rfl ?_|refine JL rfl rfl ?_|refine JM rfl rfl ?_|refine JN rfl ?_|refine JO rfl ?_|refine JP rfl ?_))
  refine e_ld (v := D.v) (S.cell 0 rfl rfl) ?_
  refine e_call (L2 := [_]) rfl (dk_flush D hok hwf) S ?_
  rintro _ _ w rfl S
  (repeat (first|(with_reducible first|refine Ja ?_|refine Jb ?_|refine Jc ?_|refine Jd ?_|refine Je ?_|refine Jf ?_|refine Jg ?_|refine Jh ?_|refine Ji ?_|refine Jj ?_|refine Jk rfl ?_|refine Jl ?_|refine Jm ?_|refine Jn ?_|refine Jo ?_|refine Jp ?_|refine Jq ?_)|refine JA rfl ?_|refine JB rfl ?_|refine JC rfl ?_|refine JD rfl ?_|refine JE rfl ?_|refine JF rfl ?_|refine JG rfl ?_|refine JH rfl ?_|refine JI rfl ?_|refine J2 rfl ?_|refine J3 rfl ?_|refine J4 rfl ?_|refine J1 rfl ?_|refine J6 rfl ?_|refine J7 rfl ?_|refine JJ rfl ?_|refine JK rfl ?_|refine JQ rfl ?_|refine JL rfl rfl ?_|refine JM rfl rfl ?_|refine JN rfl ?_|refine JO rfl ?_|refine JP rfl ?_))
  exact f_end rfl rfl (hQ _ _ _ rfl (Sep.drop (L2 := [_]) S))

theorem sh_flush (s : Sh) (d : Int) (h : s.ok) (hw : s.wf) : DSpec Try.prog 21 [s.v, .int .i64 d] s.L fun v L => v = .int .i64 (s.flE d) ∧ L = (s.flS d).L := by
  refine spec_of mix Try.func21 c21_eq rfl rfl fun w F Q S hQ => ?_
  (repeat (first|(with_reducible first|refine Ja ?_|refine Jb ?_|refine Jc ?_|refine Jd ?_|refine Je ?_|refine Jf ?_|refine Jg ?_|refine Jh ?_|refine Ji ?_|refine Jj ?_|refine Jk rfl ?_|refine Jl ?_|refine Jm ?_|refine Jn ?_|refine Jo ?_|refine Jp ?_|refine Jq ?_)|refine JA rfl ?_|refine JB rfl ?_|refine JC rfl ?_|refine JD rfl ?_|refine JE rfl ?_|refine JF rfl ?_|refine JG rfl ?_|refine JH rfl ?_|refine JI rfl ?_|refine J2 rfl ?_|refine J3 rfl ?_|refine J4 rfl ?_|refine J1 rfl ?_|refine J6 rfl ?_|refine J7 rfl ?_|refine JJ rfl ?_|refine JK rfl ?_|refine JQ rfl ?_|refine JL rfl rfl ?_|refine JM rfl rfl ?_|refine JN rfl ?_|refine JO rfl ?_|refine JP rfl ?_))
  refine e_call (L2 := []) rfl (sh_state s d) S ?_
  rintro _ _ w ⟨rfl, rfl⟩ S
  refine e_p (cmp_eqlD rfl rfl) ?_
  (repeat (with_reducible first|refine Ja ?_|refine Jb ?_|refine Jc ?_|refine Jd ?_|refine Je ?_|refine Jf ?_|refine Jg ?_|refine Jh ?_|refine Ji ?_|refine Jj ?_|refine Jk rfl ?_|refine Jl ?_|refine Jm ?_|refine Jn ?_|refine Jo ?_|refine Jp ?_|refine Jq ?_))
  refine s_iteD rfl (fun h1 => ?_) (fun h1 => ?_)
  · (repeat (first|(with_reducible first|refine Ja ?_|refine Jb ?_|refine Jc ?_|refine Jd ?_|refine Je ?_|refine Jf ?_|refine Jg ?_|refine Jh ?_|refine Ji ?_|refine Jj ?_|refine Jk rfl ?_|refine Jl ?_|refine Jm ?_|refine Jn ?_|refine Jo ?_|refine Jp ?_|refine Jq ?_)|refine JA rfl ?_|refine JB rfl ?_|refine JC rfl ?_|refine JD rfl ?_|refine JE rfl ?_|refine JF rfl ?_|refine JG rfl ?_|refine JH rfl ?_|refine JI rfl ?_|refine J2 rfl ?_|refine J3 rfl ?_|refine J4 rfl ?_|refine J1 rfl ?_|refine J6 rfl ?_|refine J7 rfl ?_|refine JJ rfl ?_|refine JK rfl ?_|refine JQ rfl ?_|refine JL rfl rfl ?_|refine JM rfl rfl ?_|refine JN rfl ?_|refine JO rfl ?_|refine JP rfl ?_))
    exact f_ret rfl rfl (hQ _ _ _ ⟨by unfold Sh.flE; rw [if_pos h1]; rfl, by unfold Sh.flS; rw [if_pos h1]; rfl⟩ S)
  obtain ⟨k1, k2⟩ := state_in h1
  obtain ⟨dn, rfl⟩ : ∃ dn : Nat, d = dn := ⟨d.toNat, by omega⟩
  obtain ⟨st, hb⟩ := dk_at (s := s) (d := dn) (by omega)
  have hm := List.mem_of_getElem? hb
  have hstep := sh_step s dn (s.dk dn) (s.dk dn).flush st 43 [] [] [] hb rfl h.fuse (by kernel_rfl) (flush_closure _ _ (h.dks _ hm) (hw _ hm))
  rw [List.append_nil] at hstep
  simp only [List.append_nil] at hstep
  (repeat (first|(with_reducible first|refine Ja ?_|refine Jb ?_|refine Jc ?_|refine Jd ?_|refine Je ?_|refine Jf ?_|refine Jg ?_|refine Jh ?_|refine Ji ?_|refine Jj ?_|refine Jk rfl ?_|refine Jl ?_|refine Jm ?_|refine Jn ?_|refine Jo ?_|refine Jp ?_|refine Jq ?_)|refine JA rfl ?_|refine JB rfl ?_|refine JC rfl ?_|refine JD rfl ?_|refine JE rfl ?_|refine JF rfl ?_|refine JG rfl ?_|refine JH rfl ?_|refine JI rfl ?_|refine J2 rfl ?_|refine J3 rfl ?_|refine J4 rfl ?_|refine J1 rfl ?_|refine J6 rfl ?_|refine J7 rfl ?_|refine JJ rfl ?_|refine JK rfl ?_|refine JQ rfl ?_|refine JL rfl rfl ?_|refine JM rfl rfl ?_|refine JN rfl ?_|refine JO rfl ?_|refine JP rfl ?_))
  refine e_call (L2 := []) rfl hstep S ?_
  rintro _ _ w ⟨rfl, rfl⟩ S
  (repeat (first|(with_reducible first|refine Ja ?_|refine Jb ?_|refine Jc ?_|refine Jd ?_|refine Je ?_|refine Jf ?_|refine Jg ?_|refine Jh ?_|refine Ji ?_|refine Jj ?_|refine Jk rfl ?_|refine Jl ?_|refine Jm ?_|refine Jn ?_|refine Jo ?_|refine Jp ?_|refine Jq ?_)|refine JA rfl ?_|refine JB rfl ?_|refine JC rfl ?_|refine JD rfl ?_|refine JE rfl ?_|refine JF rfl ?_|refine JG rfl ?_|refine JH rfl ?_|refine JI rfl ?_|refine J2 rfl ?_|refine J3 rfl ?_|refine J4 rfl ?_|refine J1 rfl ?_|refine J6 rfl ?_|refine J7 rfl ?_|refine JJ rfl ?_|refine JK rfl ?_|refine JQ rfl ?_|refine JL rfl rfl ?_|refine JM rfl rfl ?_|refine JN rfl ?_|refine JO rfl ?_|refine JP rfl ?_))
  exact f_ret rfl rfl (hQ _ _ _ ⟨by unfold Sh.flE; rw [if_neg h1]; rfl, by unfold Sh.flS; rw [if_neg h1]; rfl⟩ S)

theorem sh_flushAll (s : Sh) (h : s.ok) (hw : s.wf) : DSpec Try.prog 16 [s.v] s.L fun v L => v = .int .i64 (flushAllW s).1 ∧ L = (flushAllW s).2.L := by
  refine spec_of mix Try.func16 c16_eq rfl rfl fun w F Q S hQ => ?_
  (repeat (first|(with_reducible first|refine Ja ?_|refine Jb ?_|refine Jc ?_|refine Jd ?_|refine Je ?_|refine Jf ?_|refine Jg ?_|refine Jh ?_|refine Ji ?_|refine Jj ?_|refine Jk rfl ?_|refine Jl ?_|refine Jm ?_|refine Jn ?_|refine Jo ?_|refine Jp ?_|refine Jq ?_)|refine JA rfl ?_|refine JB rfl ?_|refine JC rfl ?_|refine JD rfl ?_|refine JE rfl ?_|refine JF rfl ?_|refine JG rfl ?_|refine JH rfl ?_|refine JI rfl ?_|refine J2 rfl ?_|refine J3 rfl ?_|refine J4 rfl ?_|refine J1 rfl ?_|refine J6 rfl ?_|refine J7 rfl ?_|refine JJ rfl ?_|refine JK rfl ?_|refine JQ rfl ?_|refine JL rfl rfl ?_|refine JM rfl rfl ?_|refine JN rfl ?_|refine JO rfl ?_|refine JP rfl ?_))
  refine e_ld (v := .bool s.off) (S.cell 0 rfl rfl) ?_
  (repeat (with_reducible first|refine Ja ?_|refine Jb ?_|refine Jc ?_|refine Jd ?_|refine Je ?_|refine Jf ?_|refine Jg ?_|refine Jh ?_|refine Ji ?_|refine Jj ?_|refine Jk rfl ?_|refine Jl ?_|refine Jm ?_|refine Jn ?_|refine Jo ?_|refine Jp ?_|refine Jq ?_))
  refine s_ite rfl (fun h1 => ?_) (fun h1 => ?_)
  · (repeat (first|(with_reducible first|refine Ja ?_|refine Jb ?_|refine Jc ?_|refine Jd ?_|refine Je ?_|refine Jf ?_|refine Jg ?_|refine Jh ?_|refine Ji ?_|refine Jj ?_|refine Jk rfl ?_|refine Jl ?_|refine Jm ?_|refine Jn ?_|refine Jo ?_|refine Jp ?_|refine Jq ?_)|refine JA rfl ?_|refine JB rfl ?_|refine JC rfl ?_|refine JD rfl ?_|refine JE rfl ?_|refine JF rfl ?_|refine JG rfl ?_|refine JH rfl ?_|refine JI rfl ?_|refine J2 rfl ?_|refine J3 rfl ?_|refine J4 rfl ?_|refine J1 rfl ?_|refine J6 rfl ?_|refine J7 rfl ?_|refine JJ rfl ?_|refine JK rfl ?_|refine JQ rfl ?_|refine JL rfl rfl ?_|refine JM rfl rfl ?_|refine JN rfl ?_|refine JO rfl ?_|refine JP rfl ?_))
    exact f_ret rfl rfl (hQ _ _ _ ⟨by unfold flushAllW; rw [if_pos h1]; rfl, by unfold flushAllW; rw [if_pos h1]⟩ S)
  obtain ⟨RES, hRES⟩ : ∃ RES, faW s.bays.length 0 s = RES := ⟨_, rfl⟩
  have hF : flushAllW s = RES := by unfold flushAllW; rw [if_neg (by simp [h1]), hRES]
  rw [hF] at hQ
  have hlen := h.len
  have hcf := h.cfg
  unfold Cfg.ok at hcf
  (repeat (first|(with_reducible first|refine Ja ?_|refine Jb ?_|refine Jc ?_|refine Jd ?_|refine Je ?_|refine Jf ?_|refine Jg ?_|refine Jh ?_|refine Ji ?_|refine Jj ?_|refine Jk rfl ?_|refine Jl ?_|refine Jm ?_|refine Jn ?_|refine Jo ?_|refine Jp ?_|refine Jq ?_)|refine JA rfl ?_|refine JB rfl ?_|refine JC rfl ?_|refine JD rfl ?_|refine JE rfl ?_|refine JF rfl ?_|refine JG rfl ?_|refine JH rfl ?_|refine JI rfl ?_|refine J2 rfl ?_|refine J3 rfl ?_|refine J4 rfl ?_|refine J1 rfl ?_|refine J6 rfl ?_|refine J7 rfl ?_|refine JJ rfl ?_|refine JK rfl ?_|refine JQ rfl ?_|refine JL rfl rfl ?_|refine JM rfl rfl ?_|refine JN rfl ?_|refine JO rfl ?_|refine JP rfl ?_))
  refine e_ld (S.cell 0 rfl rfl) ?_
  refine e_p (v := .int .i64 (s.bays.length : Int)) rfl ?_
  (repeat (first|(with_reducible first|refine Ja ?_|refine Jb ?_|refine Jc ?_|refine Jd ?_|refine Je ?_|refine Jf ?_|refine Jg ?_|refine Jh ?_|refine Ji ?_|refine Jj ?_|refine Jk rfl ?_|refine Jl ?_|refine Jm ?_|refine Jn ?_|refine Jo ?_|refine Jp ?_|refine Jq ?_)|refine JA rfl ?_|refine JB rfl ?_|refine JC rfl ?_|refine JD rfl ?_|refine JE rfl ?_|refine JF rfl ?_|refine JG rfl ?_|refine JH rfl ?_|refine JI rfl ?_|refine J2 rfl ?_|refine J3 rfl ?_|refine J4 rfl ?_|refine J1 rfl ?_|refine J6 rfl ?_|refine J7 rfl ?_|refine JJ rfl ?_|refine JK rfl ?_|refine JQ rfl ?_|refine JL rfl rfl ?_|refine JM rfl rfl ?_|refine JN rfl ?_|refine JO rfl ?_|refine JP rfl ?_))
  refine s_loop (σ := Nat × Sh) (fun q => [(15, .int .i64 (q.1 : Int)), (0, s.v), (13, .slice (some ⟨s.bb, 0, none⟩) s.bays.length s.cap), (14, .int .i64 (s.bays.length : Int))])
    (fun q w => q.1 ≤ s.bays.length ∧ q.2.ok ∧ q.2.wf ∧ q.2.q = s.q ∧ q.2.bb = s.bb ∧ q.2.bays.length = s.bays.length ∧ faW (s.bays.length - q.1) q.1 q.2 = RES ∧ Dn.Sep w q.2.L F) (fun q => s.bays.length - q.1) (0, s)
    ⟨rfl, rfl, rfl, rfl, trivial⟩ rfl ⟨by simp, h, hw, rfl, rfl, rfl, by simpa using hRES, S⟩ ?_
  rintro g ⟨i, u⟩ w ⟨hi, hok, hwf, hq, hbb, hl, hres, S⟩
  simp only [setL] at hi hok hwf hq hbb hl hres S ⊢
  have huv : u.v = s.v := by simp only [Sh.v, hq]
  (repeat (first|(with_reducible first|refine Ja ?_|refine Jb ?_|refine Jc ?_|refine Jd ?_|refine Je ?_|refine Jf ?_|refine Jg ?_|refine Jh ?_|refine Ji ?_|refine Jj ?_|refine Jk rfl ?_|refine Jl ?_|refine Jm ?_|refine Jn ?_|refine Jo ?_|refine Jp ?_|refine Jq ?_)|refine JA rfl ?_|refine JB rfl ?_|refine JC rfl ?_|refine JD rfl ?_|refine JE rfl ?_|refine JF rfl ?_|refine JG rfl ?_|refine JH rfl ?_|refine JI rfl ?_|refine J2 rfl ?_|refine J3 rfl ?_|refine J4 rfl ?_|refine J1 rfl ?_|refine J6 rfl ?_|refine J7 rfl ?_|refine JJ rfl ?_|refine JK rfl ?_|refine JQ rfl ?_|refine JL rfl rfl ?_|refine JM rfl rfl ?_|refine JN rfl ?_|refine JO rfl ?_|refine JP rfl ?_))
  refine s_iteD rfl (fun h2 => ?_) (fun h2 => ?_)
  rotate_left
  · have e : s.bays.length - i = 0 := by omega
    rw [e] at hres
    (repeat (first|(with_reducible first|refine Ja ?_|refine Jb ?_|refine Jc ?_|refine Jd ?_|refine Je ?_|refine Jf ?_|refine Jg ?_|refine Jh ?_|refine Ji ?_|refine Jj ?_|refine Jk rfl ?_|refine Jl ?_|refine Jm ?_|refine Jn ?_|refine Jo ?_|refine Jp ?_|refine Jq ?_)|refine JA rfl ?_|refine JB rfl ?_|refine JC rfl ?_|refine JD rfl ?_|refine JE rfl ?_|refine JF rfl ?_|refine JG rfl ?_|refine JH rfl ?_|refine JI rfl ?_|refine J2 rfl ?_|refine J3 rfl ?_|refine J4 rfl ?_|refine J1 rfl ?_|refine J6 rfl ?_|refine J7 rfl ?_|refine JJ rfl ?_|refine JK rfl ?_|refine JQ rfl ?_|refine JL rfl rfl ?_|refine JM rfl rfl ?_|refine JN rfl ?_|refine JO rfl ?_|refine JP rfl ?_))
    exact f_ret rfl rfl (hQ _ _ _ ⟨by rw [← hres]; rfl, by rw [← hres]; rfl⟩ S)
  have hil : i < u.bays.length := by omega
  obtain ⟨b, hb⟩ : ∃ b, u.bays[i]? = some b := ⟨_, List.getElem?_eq_getElem hil⟩
  obtain ⟨D, st⟩ := b
  have hbay := bay_at u.bays i _ u.sp hb
  have e : s.bays.length - i = (s.bays.length - (i + 1)) + 1 := by omega
  rw [e] at hres
  simp only [faW, hb, Option.map_some, Option.getD_some] at hres
  (repeat (with_reducible first|refine Ja ?_|refine Jb ?_|refine Jc ?_|refine Jd ?_|refine Je ?_|refine Jf ?_|refine Jg ?_|refine Jh ?_|refine Ji ?_|refine Jj ?_|refine Jk rfl ?_|refine Jl ?_|refine Jm ?_|refine Jn ?_|refine Jo ?_|refine Jp ?_|refine Jq ?_))
  refine e_mvI rfl ?_
  refine e_ixa rfl rfl (by omega) (by omega) ?_
  rw [show 0 + (i : Int).toNat * 2 = i * 2 by omega]
  refine e_ld (v := .agg ⟨bayV (D, st)⟩) (S.row 1 (b := s.bb) (by rw [← hbb]; rfl) hbay.2.2.2 hbay.1) ?_
  refine e_nw S fun b4 w S => ?_
  (repeat (first|(with_reducible first|refine Ja ?_|refine Jb ?_|refine Jc ?_|refine Jd ?_|refine Je ?_|refine Jf ?_|refine Jg ?_|refine Jh ?_|refine Ji ?_|refine Jj ?_|refine Jk rfl ?_|refine Jl ?_|refine Jm ?_|refine Jn ?_|refine Jo ?_|refine Jp ?_|refine Jq ?_)|refine JA rfl ?_|refine JB rfl ?_|refine JC rfl ?_|refine JD rfl ?_|refine JE rfl ?_|refine JF rfl ?_|refine JG rfl ?_|refine JH rfl ?_|refine JI rfl ?_|refine J2 rfl ?_|refine J3 rfl ?_|refine J4 rfl ?_|refine J1 rfl ?_|refine J6 rfl ?_|refine J7 rfl ?_|refine JJ rfl ?_|refine JK rfl ?_|refine JQ rfl ?_|refine JL rfl rfl ?_|refine JM rfl rfl ?_|refine JN rfl ?_|refine JO rfl ?_|refine JP rfl ?_))
  refine e_st (vs := bayV (D, st)) S 0 rfl rfl rfl rfl (by simp [bayV, Dk.v, Value.flat]) (by simp) fun w S => ?_
  replace S : Dn.Sep w ([(b4, .cells ⟨bayV (D, st)⟩ 83)] ++ u.L) F := S
  (repeat (first|(with_reducible first|refine Ja ?_|refine Jb ?_|refine Jc ?_|refine Jd ?_|refine Je ?_|refine Jf ?_|refine Jg ?_|refine Jh ?_|refine Ji ?_|refine Jj ?_|refine Jk rfl ?_|refine Jl ?_|refine Jm ?_|refine Jn ?_|refine Jo ?_|refine Jp ?_|refine Jq ?_)|refine JA rfl ?_|refine JB rfl ?_|refine JC rfl ?_|refine JD rfl ?_|refine JE rfl ?_|refine JF rfl ?_|refine JG rfl ?_|refine JH rfl ?_|refine JI rfl ?_|refine J2 rfl ?_|refine J3 rfl ?_|refine J4 rfl ?_|refine J1 rfl ?_|refine J6 rfl ?_|refine J7 rfl ?_|refine JJ rfl ?_|refine JK rfl ?_|refine JQ rfl ?_|refine JL rfl rfl ?_|refine JM rfl rfl ?_|refine JN rfl ?_|refine JO rfl ?_|refine JP rfl ?_))
  refine e_ld (v := .int .i64 st) (S.cell 0 rfl rfl) ?_
  refine e_p (cmp_neqD rfl rfl) ?_
  (repeat (with_reducible first|refine Ja ?_|refine Jb ?_|refine Jc ?_|refine Jd ?_|refine Je ?_|refine Jf ?_|refine Jg ?_|refine Jh ?_|refine Ji ?_|refine Jj ?_|refine Jk rfl ?_|refine Jl ?_|refine Jm ?_|refine Jn ?_|refine Jo ?_|refine Jp ?_|refine Jq ?_))
  refine s_iteN rfl (fun h3 => ?_) (fun h3 => ?_)
  · rw [if_pos h3] at hres
    (repeat (first|(with_reducible first|refine Ja ?_|refine Jb ?_|refine Jc ?_|refine Jd ?_|refine Je ?_|refine Jf ?_|refine Jg ?_|refine Jh ?_|refine Ji ?_|refine Jj ?_|refine Jk rfl ?_|refine Jl ?_|refine Jm ?_|refine Jn ?_|refine Jo ?_|refine Jp ?_|refine Jq ?_)|refine JA rfl ?_|refine JB rfl ?_|refine JC rfl ?_|refine JD rfl ?_|refine JE rfl ?_|refine JF rfl ?_|refine JG rfl ?_|refine JH rfl ?_|refine JI rfl ?_|refine J2 rfl ?_|refine J3 rfl ?_|refine J4 rfl ?_|refine J1 rfl ?_|refine J6 rfl ?_|refine J7 rfl ?_|refine JJ rfl ?_|refine JK rfl ?_|refine JQ rfl ?_|refine JL rfl rfl ?_|refine JM rfl rfl ?_|refine JN rfl ?_|refine JO rfl ?_|refine JP rfl ?_))
    refine e_add (a := (i : Int)) (b := 1) rfl rfl (by omega) (by omega) ?_
    (repeat (first|(with_reducible first|refine Ja ?_|refine Jb ?_|refine Jc ?_|refine Jd ?_|refine Je ?_|refine Jf ?_|refine Jg ?_|refine Jh ?_|refine Ji ?_|refine Jj ?_|refine Jk rfl ?_|refine Jl ?_|refine Jm ?_|refine Jn ?_|refine Jo ?_|refine Jp ?_|refine Jq ?_)|refine JA rfl ?_|refine JB rfl ?_|refine JC rfl ?_|refine JD rfl ?_|refine JE rfl ?_|refine JF rfl ?_|refine JG rfl ?_|refine JH rfl ?_|refine JI rfl ?_|refine J2 rfl ?_|refine J3 rfl ?_|refine J4 rfl ?_|refine J1 rfl ?_|refine J6 rfl ?_|refine J7 rfl ?_|refine JJ rfl ?_|refine JK rfl ?_|refine JQ rfl ?_|refine JL rfl rfl ?_|refine JM rfl rfl ?_|refine JN rfl ?_|refine JO rfl ?_|refine JP rfl ?_))
    exact ⟨rfl, (i + 1, u), ⟨rfl, rfl, rfl, rfl, trivial⟩, ⟨by simp only; omega, hok, hwf, hq, hbb, hl, hres, Sep.drop (L2 := [_]) S⟩, by simp only; omega⟩
  rw [if_neg (by simpa using h3)] at hres
  have hfl := sh_flush u i hok hwf
  rw [huv] at hfl
  obtain ⟨f1, f2, f3, f4, f5, f6, f7⟩ := fl_ok hok hwf (i : Int)
  (repeat (first|(with_reducible first|refine Ja ?_|refine Jb ?_|refine Jc ?_|refine Jd ?_|refine Je ?_|refine Jf ?_|refine Jg ?_|refine Jh ?_|refine Ji ?_|refine Jj ?_|refine Jk rfl ?_|refine Jl ?_|refine Jm ?_|refine Jn ?_|refine Jo ?_|refine Jp ?_|refine Jq ?_)|refine JA rfl ?_|refine JB rfl ?_|refine JC rfl ?_|refine JD rfl ?_|refine JE rfl ?_|refine JF rfl ?_|refine JG rfl ?_|refine JH rfl ?_|refine JI rfl ?_|refine J2 rfl ?_|refine J3 rfl ?_|refine J4 rfl ?_|refine J1 rfl ?_|refine J6 rfl ?_|refine J7 rfl ?_|refine JJ rfl ?_|refine JK rfl ?_|refine JQ rfl ?_|refine JL rfl rfl ?_|refine JM rfl rfl ?_|refine JN rfl ?_|refine JO rfl ?_|refine JP rfl ?_))
  refine e_call (L2 := [_]) rfl hfl S ?_
  rintro _ _ w ⟨rfl, rfl⟩ S
  (repeat (with_reducible first|refine Ja ?_|refine Jb ?_|refine Jc ?_|refine Jd ?_|refine Je ?_|refine Jf ?_|refine Jg ?_|refine Jh ?_|refine Ji ?_|refine Jj ?_|refine Jk rfl ?_|refine Jl ?_|refine Jm ?_|refine Jn ?_|refine Jo ?_|refine Jp ?_|refine Jq ?_))
  refine e_mvI rfl ?_
  (repeat (with_reducible first|refine Ja ?_|refine Jb ?_|refine Jc ?_|refine Jd ?_|refine Je ?_|refine Jf ?_|refine Jg ?_|refine Jh ?_|refine Ji ?_|refine Jj ?_|refine Jk rfl ?_|refine Jl ?_|refine Jm ?_|refine Jn ?_|refine Jo ?_|refine Jp ?_|refine Jq ?_))
  refine e_mvI rfl ?_
  refine e_p (cmp_neqD rfl rfl) ?_
  (repeat (with_reducible first|refine Ja ?_|refine Jb ?_|refine Jc ?_|refine Jd ?_|refine Je ?_|refine Jf ?_|refine Jg ?_|refine Jh ?_|refine Ji ?_|refine Jj ?_|refine Jk rfl ?_|refine Jl ?_|refine Jm ?_|refine Jn ?_|refine Jo ?_|refine Jp ?_|refine Jq ?_))
  refine s_iteN rfl (fun h4 => ?_) (fun h4 => ?_)
  · rw [if_pos h4] at hres
    (repeat (first|(with_reducible first|refine Ja ?_|refine Jb ?_|refine Jc ?_|refine Jd ?_|refine Je ?_|refine Jf ?_|refine Jg ?_|refine Jh ?_|refine Ji ?_|refine Jj ?_|refine Jk rfl ?_|refine Jl ?_|refine Jm ?_|refine Jn ?_|refine Jo ?_|refine Jp ?_|refine Jq ?_)|refine JA rfl ?_|refine JB rfl ?_|refine JC rfl ?_|refine JD rfl ?_|refine JE rfl ?_|refine JF rfl ?_|refine JG rfl ?_|refine JH rfl ?_|refine JI rfl ?_|refine J2 rfl ?_|refine J3 rfl ?_|refine J4 rfl ?_|refine J1 rfl ?_|refine J6 rfl ?_|refine J7 rfl ?_|refine JJ rfl ?_|refine JK rfl ?_|refine JQ rfl ?_|refine JL rfl rfl ?_|refine JM rfl rfl ?_|refine JN rfl ?_|refine JO rfl ?_|refine JP rfl ?_))
    exact f_ret rfl rfl (hQ _ _ _ ⟨by rw [← hres]; rfl, by rw [← hres]⟩ (Sep.drop (L2 := [_]) S))
  · rw [if_neg (by simpa using h4)] at hres
    (repeat (first|(with_reducible first|refine Ja ?_|refine Jb ?_|refine Jc ?_|refine Jd ?_|refine Je ?_|refine Jf ?_|refine Jg ?_|refine Jh ?_|refine Ji ?_|refine Jj ?_|refine Jk rfl ?_|refine Jl ?_|refine Jm ?_|refine Jn ?_|refine Jo ?_|refine Jp ?_|refine Jq ?_)|refine JA rfl ?_|refine JB rfl ?_|refine JC rfl ?_|refine JD rfl ?_|refine JE rfl ?_|refine JF rfl ?_|refine JG rfl ?_|refine JH rfl ?_|refine JI rfl ?_|refine J2 rfl ?_|refine J3 rfl ?_|refine J4 rfl ?_|refine J1 rfl ?_|refine J6 rfl ?_|refine J7 rfl ?_|refine JJ rfl ?_|refine JK rfl ?_|refine JQ rfl ?_|refine JL rfl rfl ?_|refine JM rfl rfl ?_|refine JN rfl ?_|refine JO rfl ?_|refine JP rfl ?_))
    refine e_add (a := (i : Int)) (b := 1) rfl rfl (by omega) (by omega) ?_
    (repeat (first|(with_reducible first|refine Ja ?_|refine Jb ?_|refine Jc ?_|refine Jd ?_|refine Je ?_|refine Jf ?_|refine Jg ?_|refine Jh ?_|refine Ji ?_|refine Jj ?_|refine Jk rfl ?_|refine Jl ?_|refine Jm ?_|refine Jn ?_|refine Jo ?_|refine Jp ?_|refine Jq ?_)|refine JA rfl ?_|refine JB rfl ?_|refine JC rfl ?_|refine JD rfl ?_|refine JE rfl ?_|refine JF rfl ?_|refine JG rfl ?_|refine JH rfl ?_|refine JI rfl ?_|refine J2 rfl ?_|refine J3 rfl ?_|refine J4 rfl ?_|refine J1 rfl ?_|refine J6 rfl ?_|refine J7 rfl ?_|refine JJ rfl ?_|refine JK rfl ?_|refine JQ rfl ?_|refine JL rfl rfl ?_|refine JM rfl rfl ?_|refine JN rfl ?_|refine JO rfl ?_|refine JP rfl ?_))
    exact ⟨rfl, (i + 1, u.flS i), ⟨rfl, rfl, rfl, rfl, trivial⟩, ⟨by simp only; omega, f1, f2, f3.trans hq, f4.trans hbb, f6.trans hl, hres, Sep.drop (L2 := [_]) S⟩, by simp only; omega⟩

end Go.Proofs.Ytgendpinmmmfjaa

/-
  The plain law: the laws' log.
-/
namespace Dn
open Go

def after (t : Tl) (g : Gn) (r : Sec) : Tl := ⟨t.next + sizeW r.length, t.number + 1, g⟩
def endT : Tl → List (Gn × Sec) → Tl
  | t, [] => t
  | t, (g, r) :: l => endT (after t g r) l
theorem endT_app : ∀ (l m : List (Gn × Sec)) (t : Tl), endT t (l ++ m) = endT (endT t l) m
  | [], _, _ => rfl
  | (g, r) :: l, m, t => endT_app l m (after t g r)
theorem chain_end {s : Sh} {d : Int} : ∀ {l : List (Gn × Sec)} {t t' : Tl}, chain s d t l t' → t' = endT t l := by
  intro l
  induction l with
  | nil => intro t t' h; have h : t = t' := h; exact h.symm
  | cons x l ih => obtain ⟨g, r⟩ := x; intro t t' h; exact ih h.2.2.2.2.2.2
theorem chain_snoc {s : Sh} {d : Int} : ∀ {l : List (Gn × Sec)} {t t' : Tl} {g : Gn} {r : Sec}, chain s d t l t' → t'.ok → g.ok → g.newer t'.gen → r.length ≤ 4096 → t'.next + sizeW r.length ≤ s.cfg.logN → recAt s d t' g r → chain s d t (l ++ [(g, r)]) (after t' g r) := by
  intro l
  induction l with
  | nil =>
    intro t t' g r h h1 h2 h3 h4 h5 h6
    have h : t = t' := h
    subst h
    exact ⟨h1, h2, h3, h4, h5, h6, rfl⟩
  | cons x l ih =>
    obtain ⟨g', r'⟩ := x
    intro t t' g r h h1 h2 h3 h4 h5 h6
    obtain ⟨k1, k2, k3, k4, k5, k6, k7⟩ := h
    exact ⟨k1, k2, k3, k4, k5, k6, ih k7 h1 h2 h3 h4 h5 h6⟩
theorem chain_drop {s : Sh} {d : Int} : ∀ {l m : List (Gn × Sec)} {t t' : Tl}, chain s d t (l ++ m) t' → chain s d (endT t l) m t' := by
  intro l
  induction l with
  | nil => intro m t t' h; exact h
  | cons x l ih => obtain ⟨g, r⟩ := x; intro m t t' h; exact ih h.2.2.2.2.2.2
theorem chain_take {s : Sh} {d : Int} : ∀ {l m : List (Gn × Sec)} {t t' : Tl}, chain s d t (l ++ m) t' → chain s d t l (endT t l) := by
  intro l
  induction l with
  | nil => intro m t t' h; exact rfl
  | cons x l ih =>
    obtain ⟨g, r⟩ := x
    intro m t t' h
    obtain ⟨k1, k2, k3, k4, k5, k6, k7⟩ := h
    exact ⟨k1, k2, k3, k4, k5, k6, ih k7⟩
theorem end_le (t : Tl) : ∀ (l : List (Gn × Sec)), t.next ≤ (endT t l).next := by
  intro l
  induction l generalizing t with
  | nil => exact Int.le_refl _
  | cons x l ih =>
    obtain ⟨g, r⟩ := x
    have := ih (after t g r)
    unfold endT
    refine Int.le_trans ?_ this
    unfold after; simp only; omega
theorem chain_keep {s s' : Sh} {d : Int} (hc : s'.cfg = s.cfg) : ∀ {l : List (Gn × Sec)} {t t' : Tl}, chain s d t l t' → (∀ i, t.next ≤ i → i < t'.next → s'.vw d i = s.vw d i) → chain s' d t l t' := by
  intro l
  induction l with
  | nil => intro t t' h _; exact h
  | cons x l ih =>
    obtain ⟨g, r⟩ := x
    intro t t' h hv
    obtain ⟨k1, k2, k3, k4, k5, k6, k7⟩ := h
    have he : t.next + sizeW r.length ≤ t'.next := (chain_len _ _ _ k7).1 |> fun h => by simp only at h; omega
    refine ⟨k1, k2, k3, k4, by rw [hc]; exact k5, fun i hi => ?_, ih k7 fun i h1 h2 => hv i (by simp only at h1; omega) h2⟩
    rw [hv _ (by omega) (by omega)]
    exact k6 i hi

/-- an append with the power on -/
theorem append_on {s : Sh} (h : s.on) (hf : s.fused = false) {d : Int} {t : Tl} {g : Gn} {r : Sec} (hn : ¬ refused s d t g r) :
    (appendW s d t g r).2.1 = 0 ∧ (appendW s d t g r).1 = after t g r ∧ (appendW s d t g r).2.2.on ∧ (appendW s d t g r).2.2.fused = false ∧ (appendW s d t g r).2.2.cfg = s.cfg ∧ recAt (appendW s d t g r).2.2 d t g r ∧
      ∀ d' i', 0 ≤ d' → 0 ≤ i' → ¬ (d' = d ∧ t.next ≤ i' ∧ i' < t.next + sizeW r.length) → (appendW s d t g r).2.2.vw d' i' = s.vw d' i' := by
  obtain ⟨j, w, ha⟩ := append_taken h.std hn
  have hn' := hn
  unfold refused at hn'
  simp only [not_or, Classical.not_not] at hn'
  obtain ⟨⟨hv, -⟩, -, -, -⟩ := hn'
  unfold validW at hv
  obtain ⟨hd0, hd1, ht⟩ := hv
  unfold Tl.ok at ht
  have hp := size_pos r.length
  rcases w.or with ⟨e1, e2, e3, e4, e5⟩ | ⟨e1, e2, e3, e4⟩
  rotate_left
  · rcases e4 with e4 | e4
    · rw [h.off] at e4; simp at e4
    · rw [hf] at e4; simp at e4
  refine ⟨e1, ha e1, ⟨w.std, e3.trans h.off⟩, e4.trans hf, w.cfg, fun i hi => ?_, fun d' i' h1 h2 h3 => ?_⟩
  · unfold Sh.vw
    rw [w.dk, if_pos rfl, putP_read d t g r ht.1 _ _ _ _ (by omega), if_pos (by omega)]
    congr 2
    omega
  · unfold Sh.vw
    rw [w.dk]
    by_cases e : d' = d
    · subst e
      rw [if_pos rfl, putP_read _ t g r ht.1 _ _ _ _ h2, if_neg (by omega)]
    · rw [if_neg (by omega)]

/-! caches stay well formed -/
theorem GM.upd_keys {α : Type} {k : Int} {v : α} : ∀ {l es : List (Int × α × Nat)}, GM.upd k v l = some es → es.map (·.1) = l.map (·.1) ∧ es.map (·.2.2) = l.map (·.2.2) := by
  intro l
  induction l with
  | nil => intro es h; simp [GM.upd] at h
  | cons e l ih =>
    intro es h
    simp only [GM.upd] at h
    split at h
    · rename_i hk
      injection h with h; subst h
      simp [hk]
    · cases hu : GM.upd k v l with
      | none => rw [hu] at h; simp at h
      | some es' =>
        rw [hu] at h
        simp only [Option.map_some, Option.some.injEq] at h
        subst h
        simp [ih hu]
theorem GM.upd_nokey {α : Type} {k : Int} {v : α} : ∀ {l : List (Int × α × Nat)}, GM.upd k v l = none → ∀ e ∈ l, e.1 ≠ k := by
  intro l
  induction l with
  | nil => intro _ e he; simp at he
  | cons x l ih =>
    intro h e he
    simp only [GM.upd] at h
    split at h
    · simp at h
    · rename_i hk
      rcases List.mem_cons.1 he with rfl | he
      · exact fun hh => hk hh.symm
      · exact ih (by simpa using h) e he
theorem GM.set_wf {α : Type} {g : GM α} (h : g.wf) (k : Int) (v : α) : (g.set k v).wf := by
  unfold GM.set
  cases hu : GM.upd k v g.es with
  | some es =>
    obtain ⟨h1, h2⟩ := GM.upd_keys hu
    refine ⟨by simp only [h1]; exact h.keys, by simp only [h2]; exact h.births, fun e he => ?_⟩
    have : e.2.2 ∈ es.map (·.2.2) := List.mem_map.2 ⟨e, he, rfl⟩
    rw [h2] at this
    obtain ⟨e', he', hb⟩ := List.mem_map.1 this
    have := h.lt e' he'
    simp only at hb ⊢
    omega
  | none =>
    refine ⟨?_, ?_, fun e he => ?_⟩
    · simp only [List.map_append, List.map_cons, List.map_nil]
      rw [List.nodup_append]
      refine ⟨h.keys, by simp, fun a ha b hb => ?_⟩
      obtain ⟨e, he, rfl⟩ := List.mem_map.1 ha
      simp only [List.mem_singleton] at hb
      subst hb
      exact GM.upd_nokey hu e he
    · simp only [List.map_append, List.map_cons, List.map_nil]
      rw [List.nodup_append]
      refine ⟨h.births, by simp, fun a ha b hb => ?_⟩
      obtain ⟨e, he, rfl⟩ := List.mem_map.1 ha
      simp only [List.mem_singleton] at hb
      subst hb
      have := h.lt e he
      omega
    · rcases List.mem_append.1 he with h1 | h1
      · have := h.lt e h1
        show e.2.2 < g.clock + 1
        omega
      · simp only [List.mem_singleton] at h1
        subst h1
        show g.clock < g.clock + 1
        omega
theorem GM.set_key {α : Type} {g : GM α} {k : Int} {v : α} {e : Int × α × Nat} (h : e ∈ (g.set k v).es) : e.1 = k ∨ ∃ e' ∈ g.es, e'.1 = e.1 := by
  unfold GM.set at h
  cases hu : GM.upd k v g.es with
  | some es =>
    rw [hu] at h
    have h : e ∈ es := h
    have : e.1 ∈ es.map (·.1) := List.mem_map.2 ⟨e, h, rfl⟩
    rw [(GM.upd_keys hu).1] at this
    obtain ⟨e', he', hb⟩ := List.mem_map.1 this
    exact .inr ⟨e', he', hb⟩
  | none =>
    rw [hu] at h
    rcases List.mem_append.1 h with h1 | h1
    · exact .inr ⟨e, h1, rfl⟩
    · simp only [List.mem_singleton] at h1; subst h1; exact .inl rfl
theorem putC_wf {D : Dk} (h : D.wf) {i : Int} (hi : 0 ≤ i ∧ i < (D.dur.length : Int)) (t : Sec) : (D.putC i t).wf := by
  refine ⟨GM.set_wf h.cache i t, fun e he => ?_⟩
  have he : e ∈ (D.cache.set i t).es := he
  show 0 ≤ e.1 ∧ e.1 < (D.dur.length : Int)
  rcases GM.set_key he with h1 | ⟨e', h1, h2⟩
  · rw [h1]; exact hi
  · rw [← h2]; exact h.rng e' h1
theorem Sh.std.wr_wf {s : Sh} (h : s.std) (hw : s.wf) {d i : Int} {t : Sec} (hd : 0 ≤ d ∧ d < s.cfg.disks) (hi : 0 ≤ i ∧ i < s.cfg.log) (ht : t.length = 64) : (s.wrS (plW d i) t).wf := by
  rw [(h.wr hd hi ht).2]
  refine step_wf hw ?_
  obtain ⟨D, hb, hD, -⟩ := h.bays hd
  have hm := List.mem_of_getElem? hb
  have hsz := h.ok.szs _ hm
  have hc := h.ok.cfg
  unfold Cfg.ok at hc
  rw [hD]
  refine putC_wf (hw _ hm) ⟨hi.1, ?_⟩ t
  simp only at hsz
  rw [hsz]
  unfold Cfg.total
  omega
theorem appW_wf (d : Int) (t : Tl) (g : Gn) (r : Sec) (ht : 0 ≤ t.next) : ∀ (k i : Nat) (s : Sh), s.std → s.wf → 0 ≤ d ∧ d < s.cfg.disks → t.next + i + k ≤ s.cfg.log → (appW d t g r k i s).2.wf := by
  intro k
  induction k with
  | zero => intro i s h hw hd hk; exact hw
  | succ k ih =>
    intro i s h hw hd hk
    have hl : (sealS (plW d (t.next + i)) g (payB t r i)).length = 64 := sealS_len pay_le
    have hw' := h.wr_wf hw hd (i := t.next + i) (by omega) hl
    by_cases he : s.wrE (plW d (t.next + i)) (sealS (plW d (t.next + i)) g (payB t r i)) = 0
    · obtain ⟨a1, a2, a3, a4, a5, a6, a7, a8⟩ := h.wrOK hd (i := t.next + i) (by omega) hl he
      have e : appW d t g r (k + 1) i s = appW d t g r k (i + 1) (s.wrS (plW d (t.next + i)) (sealS (plW d (t.next + i)) g (payB t r i))) := by simp only [appW, if_pos he]
      rw [e]
      exact ih (i + 1) _ a1 hw' (by rw [a2]; exact hd) (by rw [a2]; omega)
    · have e : appW d t g r (k + 1) i s = (s.wrE (plW d (t.next + i)) (sealS (plW d (t.next + i)) g (payB t r i)), s.wrS (plW d (t.next + i)) (sealS (plW d (t.next + i)) g (payB t r i))) := by simp only [appW, if_neg he]
      rw [e]
      exact hw'
theorem append_wf {s : Sh} {d : Int} {t : Tl} {g : Gn} {r : Sec} (h : s.std) (hw : s.wf) : (appendW s d t g r).2.2.wf := by
  by_cases hn : refused s d t g r
  · rw [(append_refused hn).2.2]; exact hw
  · have hn' := hn
    unfold refused at hn'
    simp only [not_or, Classical.not_not] at hn'
    obtain ⟨⟨hv, hg⟩, hnew, hlen, hfit⟩ := hn'
    have hv' := hv
    unfold validW Tl.ok at hv'
    have hp := size_pos r.length
    have hN := logN_le (c := s.cfg)
    have := appW_wf d t g r hv'.2.2.1 (sizeW r.length) 0 s h hw ⟨hv'.1, hv'.2.1⟩ (by omega)
    unfold appendW
    rw [if_neg (fun hh => hh ⟨hv, hg⟩), if_neg (fun hh => hh hnew), if_neg hlen, if_neg hfit]
    split
    · exact this
    · exact this

/-- the records with the generations that the laws' log gives them -/
def tagged (k : Nat) : List Sec → List (Gn × Sec)
  | [] => []
  | r :: l => (⟨1, (k : Int) + 1⟩, r) :: tagged (k + 1) l
theorem tagged_app : ∀ (l m : List Sec) (k : Nat), tagged k (l ++ m) = tagged k l ++ tagged (k + l.length) m
  | [], m, k => by simp [tagged]
  | r :: l, m, k => by
    simp only [List.cons_append, tagged, List.cons.injEq, true_and, List.length_cons]
    rw [tagged_app l m (k + 1)]
    congr 2
    omega
theorem tagged_snd : ∀ (l : List Sec) (k : Nat), (tagged k l).map (·.2) = l
  | [], _ => rfl
  | r :: l, k => by simp only [tagged, List.map_cons, tagged_snd l (k + 1)]
theorem tagged_len : ∀ (l : List Sec) (k : Nat), (tagged k l).length = l.length
  | [], _ => rfl
  | r :: l, k => by simp only [tagged, List.length_cons, tagged_len l (k + 1)]
def gI (i : Nat) : Gn := if i = 0 then ⟨0, 0⟩ else ⟨1, (i : Int)⟩
theorem end_tagged : ∀ (l : List Sec) (k : Nat) (t : Tl), (endT t (tagged k l)).number = t.number + l.length ∧ (endT t (tagged k l)).gen = if l.length = 0 then t.gen else ⟨1, (k : Int) + l.length⟩
  | [], k, t => by simp [tagged, endT]
  | r :: l, k, t => by
    simp only [tagged, endT]
    obtain ⟨h1, h2⟩ := end_tagged l (k + 1) (after t ⟨1, (k : Int) + 1⟩ r)
    rw [h1, h2]
    simp only [after, List.length_cons]
    refine ⟨by omega, ?_⟩
    by_cases e : l.length = 0
    · rw [if_pos e, if_neg (by omega), e]; simp
    · rw [if_neg e, if_neg (by omega)]
      congr 1
      omega
/-- the tail behind i records -/
def tailAt (l : List Sec) (i : Nat) : Tl := endT zT (tagged 0 (l.take i))
theorem tailAt_num {l : List Sec} {i : Nat} (hi : i ≤ l.length) : (tailAt l i).number = i ∧ (tailAt l i).gen = gI i := by
  obtain ⟨h1, h2⟩ := end_tagged (l.take i) 0 zT
  unfold tailAt
  rw [h1, h2, List.length_take, Nat.min_eq_left hi]
  refine ⟨by simp [zT], ?_⟩
  unfold gI
  by_cases e : i = 0
  · rw [if_pos e, if_pos e]; rfl
  · rw [if_neg e, if_neg e]; congr 1; omega
theorem tailAt_succ {l : List Sec} {i : Nat} (hi : i < l.length) : tailAt l (i + 1) = after (tailAt l i) ⟨1, (i : Int) + 1⟩ l[i] := by
  unfold tailAt
  rw [List.take_succ_eq_append_getElem hi, tagged_app, endT_app]
  simp only [tagged, endT, List.length_take, Nat.zero_add]
  rw [Nat.min_eq_left (by omega)]

/-- what the laws' log leaves -/
structure Logged (s : Sh) (c : Cfg) (l : List Sec) (n : Nat) : Prop where
  on : s.on
  fused : s.fused = false
  cfg : s.cfg = c
  le : n ≤ l.length
  chain : chain s 0 zT (tagged 0 (l.take n)) (tailAt l n)
  fit : (tailAt l n).next ≤ c.logN ∨ n = 0
  z0 : ∀ i, (tailAt l n).next ≤ i → i < c.total → s.vw 0 i = zsec
  z1 : ∀ i, 0 ≤ i → i < c.total → s.vw 1 i = zsec
  wf : s.wf

theorem tailAt_ok {s : Sh} {c : Cfg} {l : List Sec} {n : Nat} (h : Logged s c l n) (hn : n ≤ 1000) : (tailAt l n).ok := by
  obtain ⟨h1, h2⟩ := tailAt_num h.le
  have h3 := end_le zT (tagged 0 (l.take n))
  have hc := h.on.std.ok.cfg
  rw [h.cfg] at hc
  unfold Cfg.ok at hc
  have hN := logN_le (c := c)
  have h4 : (tailAt l n).next ≤ 65536 := by
    rcases h.fit with h5 | h5
    · omega
    · subst h5; show (0 : Int) ≤ _; omega
  have h3' : 0 ≤ (tailAt l n).next := h3
  unfold Tl.ok
  rw [h1, h2]
  refine ⟨h3', by omega, by omega, by omega, ?_⟩
  unfold Gn.ok0 gI
  split <;> simp only <;> omega

theorem logRun_logged {c : Cfg} (hdk : 2 ≤ c.disks) {l : List Sec} (hl : l.length ≤ 1000) : ∀ (k i : Nat) (s : Sh) (ts : List Tl), i + k = l.length → Logged s c l i →
    ∃ n, i ≤ n ∧ Logged (logRun (l.drop i) i s (tailAt l i) ts (l.take i)).1 c l n ∧ (logRun (l.drop i) i s (tailAt l i) ts (l.take i)).2.2 = l.take n ∧
      (logRun (l.drop i) i s (tailAt l i) ts (l.take i)).2.1 = ts ++ ((List.range n).drop i).map fun j => tailAt l (j + 1) := by
  intro k
  induction k with
  | zero =>
    intro i s ts hk h
    have e : i = l.length := by omega
    subst e
    rw [List.drop_length]
    refine ⟨l.length, Nat.le_refl _, h, rfl, ?_⟩
    rw [List.drop_eq_nil_of_le (by simp)]
    simp [logRun]
  | succ k ih =>
    intro i s ts hk h
    have hi : i < l.length := by omega
    rw [List.drop_eq_getElem_cons hi, Go.Proofs.Ytgendpinmmmfjaa.logRun_cons]
    by_cases hn : refused s 0 (tailAt l i) ⟨1, (i : Int) + 1⟩ l[i]
    · obtain ⟨h1, h2, h3⟩ := append_refused hn
      rw [if_pos h1, h3]
      refine ⟨i, Nat.le_refl _, h, rfl, ?_⟩
      rw [List.drop_eq_nil_of_le (by simp)]
      simp
    · obtain ⟨h1, h2, h3, h4, h5, h6, h7⟩ := append_on h.on h.fused hn
      rw [if_neg (by rw [h1]; simp), h2, ← tailAt_succ hi, ← List.take_succ_eq_append_getElem hi]
      unfold refused at hn
      simp only [not_or, Classical.not_not] at hn
      obtain ⟨⟨hv, hg⟩, hnew, hlen, hfit⟩ := hn
      obtain ⟨n1, n2⟩ := tailAt_num (l := l) (i := i) (by omega)
      have hp := size_pos l[i].length
      have htl : (tailAt l (i + 1)).next = (tailAt l i).next + sizeW l[i].length := by rw [tailAt_succ hi]; rfl
      have hcfg := h.cfg
      have h0 : (0 : Int) ≤ (tailAt l i).next := end_le zT _
      have htok := tailAt_ok h (by omega)
      have hL : Logged (appendW s 0 (tailAt l i) ⟨1, (i : Int) + 1⟩ l[i]).2.2 c l (i + 1) := by
        refine ⟨h3, h4, h5.trans h.cfg, by omega, ?_, .inl ?_, fun j k1 k2 => ?_, fun j k1 k2 => ?_, append_wf h.on.std h.wf⟩
        · have hck := chain_keep h5 h.chain (fun j k1 k2 => h7 0 j (by omega) (by have : (0 : Int) ≤ j := k1; exact this) (by omega))
          have := chain_snoc hck htok (g := ⟨1, (i : Int) + 1⟩) (r := l[i]) (by unfold Gn.ok Gn.ok0; simp only; omega) hnew (by omega) (by rw [h5]; omega) h6
          rw [tailAt_succ hi, List.take_succ_eq_append_getElem hi, tagged_app]
          simp only [tagged, List.length_take, Nat.zero_add]
          rw [Nat.min_eq_left (by omega)]
          exact this
        · rw [htl, ← hcfg]; omega
        · rw [h7 0 j (by omega) (by omega) (by omega)]
          exact h.z0 j (by omega) k2
        · rw [h7 1 j (by omega) (by omega) (by omega)]
          exact h.z1 j k1 k2
      obtain ⟨n, e1, e2, e3, e4⟩ := ih (i + 1) _ (ts ++ [tailAt l (i + 1)]) (by omega) hL
      refine ⟨n, by omega, e2, e3, ?_⟩
      rw [e4, List.append_assoc]
      congr 1
      have hin : i < (List.range n).length := by simp; omega
      rw [List.drop_eq_getElem_cons hin]
      simp

end Dn

/-
  The plain law: the log that was begun on a new shelf; where a scan stops.
-/
namespace Dn
open Go

theorem opened_zero (p : Pl) : opened p zsec = none := by
  unfold opened
  rw [if_neg]
  rintro ⟨h, -⟩
  unfold lblOK at h
  have h2 := h.2.1
  unfold Pl.ok at h2
  have : (lblP zsec).area = 0 := rfl
  omega
theorem stop_zero {s : Sh} {d : Int} {t : Tl} (h : t.next ≥ s.cfg.logN ∨ s.vw d t.next = zsec) : stopAt s d t := by
  rcases h with h | h
  · exact .inl h
  · right
    intro g p ho
    rw [h, opened_zero] at ho; simp at ho

theorem chain_at {s : Sh} (h : s.ok) {d : Int} (hd : 0 ≤ d ∧ d < s.cfg.disks) : ∀ {l : List (Gn × Sec)} {t t' : Tl}, chain s d t l t' → 0 ≤ t.next → ∀ i, t.next ≤ i → i < t'.next → ∃ g ∈ l.map (·.1), ∃ p, opened (plW d i) (s.vw d i) = some (g, p) := by
  intro l
  induction l with
  | nil => intro t t' hc h0 i h1 h2; have hc : t = t' := hc; subst hc; omega
  | cons x l ih =>
    obtain ⟨g, r⟩ := x
    intro t t' hc h0 i h1 h2
    obtain ⟨k1, k2, k3, k4, k5, k6, k7⟩ := hc
    by_cases e : i < t.next + sizeW r.length
    · have := k6 (i - t.next).toNat (by omega)
      rw [show t.next + ((i - t.next).toNat : Int) = i by omega] at this
      have ho := opened_seal (p := plW d i) (g := g) (s := payB t r (i - t.next).toNat) (pl_ok h hd (by omega)) k2 pay_le
      rw [← this] at ho
      exact ⟨g, by simp, _, ho⟩
    · obtain ⟨g', hg, p, ho⟩ := ih k7 (by simp only; omega) i (by simp only; omega) h2
      exact ⟨g', by simp at hg ⊢; exact .inr hg, p, ho⟩

theorem tagged_gen : ∀ (l : List Sec) (k : Nat) (g : Gn), g ∈ (tagged k l).map (·.1) → g.epoch = 1 ∧ k < g.count ∧ g.count ≤ k + l.length
  | [], k, g, h => by simp [tagged] at h
  | r :: l, k, g, h => by
    simp only [tagged, List.map_cons, List.mem_cons] at h
    rcases h with rfl | h
    · simp only [List.length_cons]; exact ⟨trivial, by omega, by omega⟩
    · obtain ⟨h1, h2, h3⟩ := tagged_gen l (k + 1) g h
      simp only [List.length_cons]; omega

/-- What is read in the first disk's log: nothing, or a part of a record with a generation of epoch 1. -/
theorem logged_at {s : Sh} {c : Cfg} {l : List Sec} {n : Nat} (h : Logged s c l n) (hdk : 2 ≤ c.disks) {i : Int} (h0 : 0 ≤ i) (h1 : i < c.logN) {g : Gn} {p : Sec} (ho : opened (plW 0 i) (s.vw 0 i) = some (g, p)) : g.epoch = 1 ∧ 0 < g.count ∧ g.count ≤ n := by
  by_cases e : i < (tailAt l n).next
  · obtain ⟨g', hg, p', ho'⟩ := chain_at h.on.std.ok (d := 0) (by rw [h.cfg]; omega) h.chain (by show (0 : Int) ≤ 0; omega) i h0 e
    rw [ho] at ho'
    injection ho' with ho'
    injection ho' with e1 e2
    subst e1
    obtain ⟨k1, k2, k3⟩ := tagged_gen _ _ _ hg
    have := List.length_take_le n l
    omega
  · have hc := h.on.std.ok.cfg
    rw [h.cfg] at hc
    unfold Cfg.ok at hc
    have hN := logN_le (c := c)
    rw [h.z0 i (by omega) (by unfold Cfg.total; omega), opened_zero] at ho
    simp at ho

theorem logged_stop {s : Sh} {c : Cfg} {l : List Sec} {n : Nat} (h : Logged s c l n) : stopAt s 0 (tailAt l n) := by
  apply stop_zero
  have hc := h.on.std.ok.cfg
  rw [h.cfg] at hc
  unfold Cfg.ok at hc
  have hN := logN_le (c := c)
  rw [h.cfg]
  by_cases e : (tailAt l n).next ≥ c.logN
  · exact .inl e
  · exact .inr (h.z0 _ (Int.le_refl _) (by unfold Cfg.total; omega))

theorem sizeW_le (n : Nat) : sizeW n ≤ n + 1 := by unfold sizeW; split <;> omega

/-- a scan from the tail behind k records -/
theorem logged_scan {s : Sh} {c : Cfg} {l : List Sec} {n k : Nat} (h : Logged s c l n) (hdk : 2 ≤ c.disks) (hn : n ≤ 1000) (hk : k ≤ n) : scanFull s 0 (tailAt l k) = ((l.take n).drop k, tailAt l n, 0) := by
  have hd : 0 ≤ (0 : Int) ∧ 0 < s.cfg.disks := by rw [h.cfg]; omega
  have e : tagged 0 (l.take n) = tagged 0 (l.take k) ++ tagged k ((l.take n).drop k) := by
    have := tagged_app (l.take k) ((l.take n).drop k) 0
    have e1 : l.take k ++ (l.take n).drop k = l.take n := by
      have e2 : l.take k = (l.take n).take k := by rw [List.take_take, Nat.min_eq_left hk]
      rw [e2, List.take_append_drop]
    rw [e1] at this
    rw [this, List.length_take, Nat.zero_add, Nat.min_eq_left (by have := h.le; omega)]
  have hc := h.chain
  rw [e] at hc
  have hcd := chain_drop hc
  have htk : (tailAt l k).ok := by
    obtain ⟨n1, n2⟩ := tailAt_num (l := l) (i := k) (by have := h.le; omega)
    have h0 : (0 : Int) ≤ (tailAt l k).next := end_le zT _
    have h1 : (tailAt l k).next ≤ (tailAt l n).next := by
      have := chain_len _ _ _ hcd
      have h2 : (endT zT (tagged 0 (l.take k))).next = (tailAt l k).next := rfl
      omega
    have h2 := tailAt_ok h hn
    unfold Tl.ok at h2 ⊢
    rw [n1, n2]
    refine ⟨h0, by omega, by omega, by omega, ?_⟩
    unfold Gn.ok0 gI
    split <;> simp only <;> omega
  have := scan_all h.on hd htk hcd (logged_stop h)
  rw [this, tagged_snd]

/-- the sum of the sizes -/
def sumW (l : List Sec) : Nat := (l.map fun r => sizeW r.length).sum
theorem end_next : ∀ (l : List Sec) (k : Nat) (t : Tl), (endT t (tagged k l)).next = t.next + sumW l
  | [], k, t => by simp [tagged, endT, sumW]
  | r :: l, k, t => by
    simp only [tagged, endT]
    rw [end_next l (k + 1)]
    simp only [after, sumW, List.map_cons, List.sum_cons]
    omega
theorem tailAt_next (l : List Sec) (n : Nat) : (tailAt l n).next = sumW (l.take n) := by
  unfold tailAt; rw [end_next]; simp [zT]

end Dn

namespace Go.Proofs.Ytgendpinmmmfjaa
open Dn
attribute [local irreducible] Evs Ev EvT DSpec PSpec CallTo
theorem fresh_std {s : Sh} {c : Cfg} (hc : c.ok) (h : ShFresh s c) : s.std := by
  refine ⟨fresh_ok hc h, fun b hb => (h.bay b hb).1, fun b hb => ?_⟩
  obtain ⟨h1, h2, h3⟩ := (h.bay b hb).2
  rw [h3]
theorem fresh_vw {s : Sh} {c : Cfg} (hc : c.ok) (h : ShFresh s c) {d i : Int} (hd : 0 ≤ d ∧ d < c.disks) (hi : 0 ≤ i ∧ i < c.total) : s.vw d i = zsec := by
  have hl := h.len
  obtain ⟨st, hb⟩ := dk_at (s := s) (d := d.toNat) (by omega)
  obtain ⟨h1, h2, h3⟩ := (h.bay _ (List.mem_of_getElem? hb)).2
  unfold Sh.vw Dk.read
  simp only at h1 h2 h3
  have e : (s.dk d.toNat).cache.get (i.toNat : Int) = none := by rw [h2]; rfl
  rw [e]
  unfold Dk.sec
  rw [h1]
  simp only [Option.getD_none, List.getD_eq_getElem?_getD]
  rw [List.getElem?_eq_getElem (by simp; omega)]
  simp
theorem fresh_wf {s : Sh} {c : Cfg} (h : ShFresh s c) : s.wf := by
  intro b hb
  obtain ⟨h1, h2, h3⟩ := (h.bay b hb).2
  refine ⟨?_, fun e he => ?_⟩
  · rw [h2]; exact ⟨by simp, by simp, by simp⟩
  · rw [h2] at he; simp at he
theorem fresh_logged {s : Sh} {c : Cfg} (hc : c.ok) (hdk : 2 ≤ c.disks) (h : ShFresh s c) (l : List Sec) : Logged s c l 0 := by
  refine ⟨⟨fresh_std hc h, h.off⟩, h.fused, h.cfg, Nat.zero_le _, rfl, .inr rfl, fun i h1 h2 => ?_, fun i h1 h2 => ?_, fresh_wf h⟩
  · exact fresh_vw hc h (by omega) ⟨h1, h2⟩
  · exact fresh_vw hc h (by omega) ⟨h1, h2⟩

/-- the laws' log on a new shelf -/
theorem log_fresh {s : Sh} {c : Cfg} (hc : c.ok) (hdk : 2 ≤ c.disks) (h : ShFresh s c) {l : List Sec} (hl : l.length ≤ 1000) :
    ∃ n, Logged (logRun l 0 s zT [zT] []).1 c l n ∧ (logRun l 0 s zT [zT] []).2.2 = l.take n ∧ (logRun l 0 s zT [zT] []).2.1 = (List.range (n + 1)).map (tailAt l) := by
  obtain ⟨n, h1, h2, h3, h4⟩ := logRun_logged hdk hl l.length 0 s [zT] (by omega) (fresh_logged hc hdk h l)
  refine ⟨n, h2, h3, ?_⟩
  have e : logRun (l.drop 0) 0 s (tailAt l 0) [zT] (l.take 0) = logRun l 0 s zT [zT] [] := rfl
  rw [e] at h4
  rw [h4, List.range_succ_eq_map]
  simp [Function.comp_def]
  rfl
end Go.Proofs.Ytgendpinmmmfjaa

/-
  The walk of WalReads.
-/
namespace Go.Proofs.Ytgendpinmmmfjaa
open Dn
attribute [local irreducible] Evs Ev EvT DSpec PSpec CallTo
set_option maxRecDepth 100000
set_option maxHeartbeats 4000000

theorem eqc_tl {T : Rg} {x y : X} {p q : Tl} (hx : T.ev x = .agg ⟨p.v⟩) (hy : T.ev y = .agg ⟨q.v⟩) : (PE.eqc false 4 x y).ev T = some (.bool (decide (p = q))) := by
  simp only [PE.ev, hx, hy]
  show some (Value.bool (sgn false (p.next == q.next && (p.number == q.number && (p.gen.epoch == q.gen.epoch && (p.gen.count == q.gen.count && true)))))) = _
  simp only [sgn, cond_false]
  by_cases h : p = q
  · subst h; simp
  · rw [decide_eq_false h]
    have : ¬ (p.next = q.next ∧ p.number = q.number ∧ p.gen.epoch = q.gen.epoch ∧ p.gen.count = q.gen.count) := by
      rintro ⟨h1, h2, h3, h4⟩
      apply h
      obtain ⟨a, b, ⟨c, d⟩⟩ := p
      obtain ⟨a', b', ⟨c', d'⟩⟩ := q
      simp only at h1 h2 h3 h4
      subst h1; subst h2; subst h3; subst h4; rfl
    congr 2
    by_cases h1 : p.next = q.next <;> by_cases h2 : p.number = q.number <;> by_cases h3 : p.gen.epoch = q.gen.epoch <;> by_cases h4 : p.gen.count = q.gen.count <;> simp_all
theorem tls_at (ts : List Tl) (sp : List Value) {k : Nat} (hk : k < ts.length) : ((ts.flatMap Tl.v ++ sp).drop (k * 4)).take 4 = ts[k].v := by
  have e : ts = ts.take k ++ ts[k] :: ts.drop (k + 1) := by rw [List.getElem_cons_drop]; simp
  have h4 : k * 4 = ((ts.take k).flatMap Tl.v).length := by rw [tls_len]; simp; omega
  conv => lhs; rw [e]
  rw [List.flatMap_append, List.append_assoc, h4, List.drop_left, List.flatMap_cons, List.append_assoc]
  rfl

theorem DSpecF.mono {P : Program} {f : FuncId} {args : List Value} {L : List (Nat × Obj)} {Φ : Fr → Prop} {post post' : Value → List (Nat × Obj) → Prop} (h : DSpecF P f args L Φ post) (hp : ∀ v L', post v L' → post' v L') : DSpecF P f args L Φ post' :=
  fun w F hF S => (h w F hF S).mono fun v w' ⟨L', h1, h2⟩ => ⟨L', hp _ _ h1, h2⟩

/-- the laws' log, with what is known of it -/
theorem l_log2 (size : Int) (ad : Option Addr) (cap : Nat) (l : List Sec) (h1 : 1 ≤ size) (h2 : size ≤ 40) (hl : l.length ≤ 40) (hr : ∀ r ∈ l, r.length < 4611686018427387904) :
    DSpecF Try.prog 11 [.int .i64 size, .slice ad l.length cap] [] (fun F => FSl F ad (l.map strV))
      fun v L => ∃ s n adt capt Lt adi capi Li, Logged s (lawCfg size) l n ∧ v = .tuple ⟨[s.v, .slice adt (n + 1) capt, .slice adi n capi]⟩ ∧ L = s.L ++ (Lt ++ Li) ∧ OwnTl adt (n + 1) capt ((List.range (n + 1)).map (tailAt l)) Lt ∧ OwnT adi n capi (l.take n) Li := by
  obtain ⟨hc, hct⟩ := lawCfg_ok (n := size) (by omega) (by omega)
  refine DSpecF.mono (l_log size ad cap l (by omega) (by omega) hl hr) ?_
  rintro v L ⟨s0, adt, capt, Lt, adi, capi, Li, hfr, hsv, hv, rfl, hOt, hOi⟩
  obtain ⟨n, hL, hins, hts⟩ := log_fresh hc (by show (2 : Int) ≤ 2; omega) hfr (l := l) (by omega)
  have e1 : (l.take n).length = n := by rw [List.length_take]; have := hL.le; omega
  have e2 : ((List.range (n + 1)).map (tailAt l)).length = n + 1 := by simp
  rw [hins, e1] at hOi
  rw [hts, e2] at hOt
  refine ⟨_, n, adt, capt, Lt, adi, capi, Li, hL, ?_, rfl, hOt, hOi⟩
  rw [hv, hins, hts, hsv, e1, e2]

theorem sumW_bd : ∀ (l : List Sec) (n : Nat), (∀ r ∈ l, r.length < 4611686018427387904) → l.length ≤ n → sumW l ≤ n * 177372539170284152
  | [], n, _, _ => by simp [sumW]
  | r :: l, n, h, hn => by
    have h1 := sumW_bd l (n - 1) (fun r hr => h r (List.mem_cons_of_mem _ hr)) (by simp at hn; omega)
    have h2 := h r (List.mem_cons_self ..)
    have h3 : sizeW r.length ≤ 177372539170284152 := by unfold sizeW; split <;> omega
    have h4 : sumW (r :: l) = sizeW r.length + sumW l := by simp [sumW]
    simp at hn
    omega
theorem strs_at {l : List Sec} {n i : Nat} {sp : List Value} (hi : i < n) (hn : n ≤ l.length) : ((l.take n).map strV ++ sp)[i]? = some (strV (l[i]'(by omega))) := by
  rw [List.getElem?_append_left (by simp; omega), List.getElem?_map, List.getElem?_take_of_lt hi, List.getElem?_eq_getElem (by omega)]
  rfl
theorem cellM {w : World} {L : List (Nat × Obj)} {F : Fr} (S : Dn.Sep w L F) {b off ty : Nat} {cs : List Value} {fr : Nat × Nat} {v : Value} (h : (b, .cells ⟨cs⟩ ty fr) ∈ L) (hv : cs[off]? = some v) : ldV none (.pointer (some ⟨b, off, none⟩)) w = some v := by
  have := S.at_ _ _ h
  simp [ldV, World.cell?, this, hv]

theorem law_reads (size k : Int) (ad : Option Addr) (cap : Nat) (l : List Sec) (hb : l.length < 4611686018427387904) (hr : ∀ r ∈ l, r.length < 4611686018427387904) :
    DSpecF Try.prog 3 [.int .i64 size, .slice ad l.length cap, .int .i64 k] [] (fun F => FSl F ad (l.map strV)) fun v _ => v = .bool true := by
  refine specF_of mix Try.func3 c3_eq rfl rfl fun w F Q hF S hQ => ?_
  (repeat (first|(with_reducible first|refine Ja ?_|refine Jb ?_|refine Jc ?_|refine Jd ?_|refine Je ?_|refine Jf ?_|refine Jg ?_|refine Jh ?_|refine Ji ?_|refine Jj ?_|refine Jk rfl ?_|refine Jl ?_|refine Jm ?_|refine Jn ?_|refine Jo ?_|refine Jp ?_|refine Jq ?_)|refine JA rfl ?_|refine JB rfl ?_|refine JC rfl ?_|refine JD rfl ?_|refine JE rfl ?_|refine JF rfl ?_|refine JG rfl ?_|refine JH rfl ?_|refine JI rfl ?_|refine J2 rfl ?_|refine J3 rfl ?_|refine J4 rfl ?_|refine J1 rfl ?_|refine J6 rfl ?_|refine J7 rfl ?_|refine JJ rfl ?_|refine JK rfl ?_|refine JQ rfl ?_|refine JL rfl rfl ?_|refine JM rfl rfl ?_|refine JN rfl ?_|refine JO rfl ?_|refine JP rfl ?_))
  refine e_brD rfl (fun h1 => ?_) (fun h1 => ?_)
  · (repeat (first|(with_reducible first|refine Ja ?_|refine Jb ?_|refine Jc ?_|refine Jd ?_|refine Je ?_|refine Jf ?_|refine Jg ?_|refine Jh ?_|refine Ji ?_|refine Jj ?_|refine Jk rfl ?_|refine Jl ?_|refine Jm ?_|refine Jn ?_|refine Jo ?_|refine Jp ?_|refine Jq ?_)|refine JA rfl ?_|refine JB rfl ?_|refine JC rfl ?_|refine JD rfl ?_|refine JE rfl ?_|refine JF rfl ?_|refine JG rfl ?_|refine JH rfl ?_|refine JI rfl ?_|refine J2 rfl ?_|refine J3 rfl ?_|refine J4 rfl ?_|refine J1 rfl ?_|refine J6 rfl ?_|refine J7 rfl ?_|refine JJ rfl ?_|refine JK rfl ?_|refine JQ rfl ?_|refine JL rfl rfl ?_|refine JM rfl rfl ?_|refine JN rfl ?_|refine JO rfl ?_|refine JP rfl ?_))
    refine e_callP rfl l_sanity S fun w S => ?_
    (repeat (first|(with_reducible first|refine Ja ?_|refine Jb ?_|refine Jc ?_|refine Jd ?_|refine Je ?_|refine Jf ?_|refine Jg ?_|refine Jh ?_|refine Ji ?_|refine Jj ?_|refine Jk rfl ?_|refine Jl ?_|refine Jm ?_|refine Jn ?_|refine Jo ?_|refine Jp ?_|refine Jq ?_)|refine JA rfl ?_|refine JB rfl ?_|refine JC rfl ?_|refine JD rfl ?_|refine JE rfl ?_|refine JF rfl ?_|refine JG rfl ?_|refine JH rfl ?_|refine JI rfl ?_|refine J2 rfl ?_|refine J3 rfl ?_|refine J4 rfl ?_|refine J1 rfl ?_|refine J6 rfl ?_|refine J7 rfl ?_|refine JJ rfl ?_|refine JK rfl ?_|refine JQ rfl ?_|refine JL rfl rfl ?_|refine JM rfl rfl ?_|refine JN rfl ?_|refine JO rfl ?_|refine JP rfl ?_))
    exact f_ret rfl rfl (hQ _ _ _ rfl S)
  (repeat (first|(with_reducible first|refine Ja ?_|refine Jb ?_|refine Jc ?_|refine Jd ?_|refine Je ?_|refine Jf ?_|refine Jg ?_|refine Jh ?_|refine Ji ?_|refine Jj ?_|refine Jk rfl ?_|refine Jl ?_|refine Jm ?_|refine Jn ?_|refine Jo ?_|refine Jp ?_|refine Jq ?_)|refine JA rfl ?_|refine JB rfl ?_|refine JC rfl ?_|refine JD rfl ?_|refine JE rfl ?_|refine JF rfl ?_|refine JG rfl ?_|refine JH rfl ?_|refine JI rfl ?_|refine J2 rfl ?_|refine J3 rfl ?_|refine J4 rfl ?_|refine J1 rfl ?_|refine J6 rfl ?_|refine J7 rfl ?_|refine JJ rfl ?_|refine JK rfl ?_|refine JQ rfl ?_|refine JL rfl rfl ?_|refine JM rfl rfl ?_|refine JN rfl ?_|refine JO rfl ?_|refine JP rfl ?_))
  refine e_brD rfl (fun h2 => ?_) (fun h2 => ?_)
  · (repeat (first|(with_reducible first|refine Ja ?_|refine Jb ?_|refine Jc ?_|refine Jd ?_|refine Je ?_|refine Jf ?_|refine Jg ?_|refine Jh ?_|refine Ji ?_|refine Jj ?_|refine Jk rfl ?_|refine Jl ?_|refine Jm ?_|refine Jn ?_|refine Jo ?_|refine Jp ?_|refine Jq ?_)|refine JA rfl ?_|refine JB rfl ?_|refine JC rfl ?_|refine JD rfl ?_|refine JE rfl ?_|refine JF rfl ?_|refine JG rfl ?_|refine JH rfl ?_|refine JI rfl ?_|refine J2 rfl ?_|refine J3 rfl ?_|refine J4 rfl ?_|refine J1 rfl ?_|refine J6 rfl ?_|refine J7 rfl ?_|refine JJ rfl ?_|refine JK rfl ?_|refine JQ rfl ?_|refine JL rfl rfl ?_|refine JM rfl rfl ?_|refine JN rfl ?_|refine JO rfl ?_|refine JP rfl ?_))
    refine e_callP rfl l_sanity S fun w S => ?_
    (repeat (first|(with_reducible first|refine Ja ?_|refine Jb ?_|refine Jc ?_|refine Jd ?_|refine Je ?_|refine Jf ?_|refine Jg ?_|refine Jh ?_|refine Ji ?_|refine Jj ?_|refine Jk rfl ?_|refine Jl ?_|refine Jm ?_|refine Jn ?_|refine Jo ?_|refine Jp ?_|refine Jq ?_)|refine JA rfl ?_|refine JB rfl ?_|refine JC rfl ?_|refine JD rfl ?_|refine JE rfl ?_|refine JF rfl ?_|refine JG rfl ?_|refine JH rfl ?_|refine JI rfl ?_|refine J2 rfl ?_|refine J3 rfl ?_|refine J4 rfl ?_|refine J1 rfl ?_|refine J6 rfl ?_|refine J7 rfl ?_|refine JJ rfl ?_|refine JK rfl ?_|refine JQ rfl ?_|refine JL rfl rfl ?_|refine JM rfl rfl ?_|refine JN rfl ?_|refine JO rfl ?_|refine JP rfl ?_))
    exact f_ret rfl rfl (hQ _ _ _ rfl S)
  (repeat (with_reducible first|refine Ja ?_|refine Jb ?_|refine Jc ?_|refine Jd ?_|refine Je ?_|refine Jf ?_|refine Jg ?_|refine Jh ?_|refine Ji ?_|refine Jj ?_|refine Jk rfl ?_|refine Jl ?_|refine Jm ?_|refine Jn ?_|refine Jo ?_|refine Jp ?_|refine Jq ?_))
  refine e_gdT rfl ?_
  refine e_mvL rfl ?_
  refine e_gdT rfl ?_
  refine e_p (v := .int .i64 ((l.length : Nat) : Int)) rfl ?_
  (repeat (first|(with_reducible first|refine Ja ?_|refine Jb ?_|refine Jc ?_|refine Jd ?_|refine Je ?_|refine Jf ?_|refine Jg ?_|refine Jh ?_|refine Ji ?_|refine Jj ?_|refine Jk rfl ?_|refine Jl ?_|refine Jm ?_|refine Jn ?_|refine Jo ?_|refine Jp ?_|refine Jq ?_)|refine JA rfl ?_|refine JB rfl ?_|refine JC rfl ?_|refine JD rfl ?_|refine JE rfl ?_|refine JF rfl ?_|refine JG rfl ?_|refine JH rfl ?_|refine JI rfl ?_|refine J2 rfl ?_|refine J3 rfl ?_|refine J4 rfl ?_|refine J1 rfl ?_|refine J6 rfl ?_|refine J7 rfl ?_|refine JJ rfl ?_|refine JK rfl ?_|refine JQ rfl ?_|refine JL rfl rfl ?_|refine JM rfl rfl ?_|refine JN rfl ?_|refine JO rfl ?_|refine JP rfl ?_))
  refine s_iteD rfl (fun h3 => ?_) (fun h3 => ?_)
  · (repeat (first|(with_reducible first|refine Ja ?_|refine Jb ?_|refine Jc ?_|refine Jd ?_|refine Je ?_|refine Jf ?_|refine Jg ?_|refine Jh ?_|refine Ji ?_|refine Jj ?_|refine Jk rfl ?_|refine Jl ?_|refine Jm ?_|refine Jn ?_|refine Jo ?_|refine Jp ?_|refine Jq ?_)|refine JA rfl ?_|refine JB rfl ?_|refine JC rfl ?_|refine JD rfl ?_|refine JE rfl ?_|refine JF rfl ?_|refine JG rfl ?_|refine JH rfl ?_|refine JI rfl ?_|refine J2 rfl ?_|refine J3 rfl ?_|refine J4 rfl ?_|refine J1 rfl ?_|refine J6 rfl ?_|refine J7 rfl ?_|refine JJ rfl ?_|refine JK rfl ?_|refine JQ rfl ?_|refine JL rfl rfl ?_|refine JM rfl rfl ?_|refine JN rfl ?_|refine JO rfl ?_|refine JP rfl ?_))
    refine e_callP rfl l_sanity S fun w S => ?_
    (repeat (first|(with_reducible first|refine Ja ?_|refine Jb ?_|refine Jc ?_|refine Jd ?_|refine Je ?_|refine Jf ?_|refine Jg ?_|refine Jh ?_|refine Ji ?_|refine Jj ?_|refine Jk rfl ?_|refine Jl ?_|refine Jm ?_|refine Jn ?_|refine Jo ?_|refine Jp ?_|refine Jq ?_)|refine JA rfl ?_|refine JB rfl ?_|refine JC rfl ?_|refine JD rfl ?_|refine JE rfl ?_|refine JF rfl ?_|refine JG rfl ?_|refine JH rfl ?_|refine JI rfl ?_|refine J2 rfl ?_|refine J3 rfl ?_|refine J4 rfl ?_|refine J1 rfl ?_|refine J6 rfl ?_|refine J7 rfl ?_|refine JJ rfl ?_|refine JK rfl ?_|refine JQ rfl ?_|refine JL rfl rfl ?_|refine JM rfl rfl ?_|refine JN rfl ?_|refine JO rfl ?_|refine JP rfl ?_))
    exact f_ret rfl rfl (hQ _ _ _ rfl S)
  have hl : l.length ≤ 40 := by omega
  (repeat (first|(with_reducible first|refine Ja ?_|refine Jb ?_|refine Jc ?_|refine Jd ?_|refine Je ?_|refine Jf ?_|refine Jg ?_|refine Jh ?_|refine Ji ?_|refine Jj ?_|refine Jk rfl ?_|refine Jl ?_|refine Jm ?_|refine Jn ?_|refine Jo ?_|refine Jp ?_|refine Jq ?_)|refine JA rfl ?_|refine JB rfl ?_|refine JC rfl ?_|refine JD rfl ?_|refine JE rfl ?_|refine JF rfl ?_|refine JG rfl ?_|refine JH rfl ?_|refine JI rfl ?_|refine J2 rfl ?_|refine J3 rfl ?_|refine J4 rfl ?_|refine J1 rfl ?_|refine J6 rfl ?_|refine J7 rfl ?_|refine JJ rfl ?_|refine JK rfl ?_|refine JQ rfl ?_|refine JL rfl rfl ?_|refine JM rfl rfl ?_|refine JN rfl ?_|refine JO rfl ?_|refine JP rfl ?_))
  refine e_callF (L2 := []) (L1 := []) rfl (l_log2 size ad cap l (by omega) (by omega) hl hr) S (by simpa using hF.add (L2 := []) S) ?_
  rintro _ _ w ⟨s, n, adt, capt, Lt, adi, capi, Li, hL, rfl, rfl, hOt, hOi⟩ S
  replace S : Dn.Sep w (s.L ++ (Lt ++ Li)) F := S
  replace S : Dn.Sep w ((Lt ++ Li) ++ s.L) F := S.perm List.perm_append_comm
  refine e_mvT rfl ?_
  refine e_p (v := s.v) rfl ?_
  refine e_p (v := .slice adt (n + 1) capt) rfl ?_
  refine e_p (v := .slice adi n capi) rfl ?_
  refine e_p (v := s.v) rfl ?_
  refine e_mvL rfl ?_
  refine e_mvL rfl ?_
  (repeat (first|(with_reducible first|refine Ja ?_|refine Jb ?_|refine Jc ?_|refine Jd ?_|refine Je ?_|refine Jf ?_|refine Jg ?_|refine Jh ?_|refine Ji ?_|refine Jj ?_|refine Jk rfl ?_|refine Jl ?_|refine Jm ?_|refine Jn ?_|refine Jo ?_|refine Jp ?_|refine Jq ?_)|refine JA rfl ?_|refine JB rfl ?_|refine JC rfl ?_|refine JD rfl ?_|refine JE rfl ?_|refine JF rfl ?_|refine JG rfl ?_|refine JH rfl ?_|refine JI rfl ?_|refine J2 rfl ?_|refine J3 rfl ?_|refine J4 rfl ?_|refine J1 rfl ?_|refine J6 rfl ?_|refine J7 rfl ?_|refine JJ rfl ?_|refine JK rfl ?_|refine JQ rfl ?_|refine JL rfl rfl ?_|refine JM rfl rfl ?_|refine JN rfl ?_|refine JO rfl ?_|refine JP rfl ?_))
  have bad : k < 0 ∨ k > n → ∀ {w : World} {L : List (Nat × Obj)}, Dn.Sep w L F → True := fun _ _ _ _ => trivial
  refine e_brD rfl (fun hk1 => ?_) (fun hk1 => ?_)
  · (repeat (first|(with_reducible first|refine Ja ?_|refine Jb ?_|refine Jc ?_|refine Jd ?_|refine Je ?_|refine Jf ?_|refine Jg ?_|refine Jh ?_|refine Ji ?_|refine Jj ?_|refine Jk rfl ?_|refine Jl ?_|refine Jm ?_|refine Jn ?_|refine Jo ?_|refine Jp ?_|refine Jq ?_)|refine JA rfl ?_|refine JB rfl ?_|refine JC rfl ?_|refine JD rfl ?_|refine JE rfl ?_|refine JF rfl ?_|refine JG rfl ?_|refine JH rfl ?_|refine JI rfl ?_|refine J2 rfl ?_|refine J3 rfl ?_|refine J4 rfl ?_|refine J1 rfl ?_|refine J6 rfl ?_|refine J7 rfl ?_|refine JJ rfl ?_|refine JK rfl ?_|refine JQ rfl ?_|refine JL rfl rfl ?_|refine JM rfl rfl ?_|refine JN rfl ?_|refine JO rfl ?_|refine JP rfl ?_))
    refine e_callP rfl l_sanity S fun w S => ?_
    (repeat (first|(with_reducible first|refine Ja ?_|refine Jb ?_|refine Jc ?_|refine Jd ?_|refine Je ?_|refine Jf ?_|refine Jg ?_|refine Jh ?_|refine Ji ?_|refine Jj ?_|refine Jk rfl ?_|refine Jl ?_|refine Jm ?_|refine Jn ?_|refine Jo ?_|refine Jp ?_|refine Jq ?_)|refine JA rfl ?_|refine JB rfl ?_|refine JC rfl ?_|refine JD rfl ?_|refine JE rfl ?_|refine JF rfl ?_|refine JG rfl ?_|refine JH rfl ?_|refine JI rfl ?_|refine J2 rfl ?_|refine J3 rfl ?_|refine J4 rfl ?_|refine J1 rfl ?_|refine J6 rfl ?_|refine J7 rfl ?_|refine JJ rfl ?_|refine JK rfl ?_|refine JQ rfl ?_|refine JL rfl rfl ?_|refine JM rfl rfl ?_|refine JN rfl ?_|refine JO rfl ?_|refine JP rfl ?_))
    exact f_ret rfl rfl (hQ _ _ _ rfl S)
  (repeat (with_reducible first|refine Ja ?_|refine Jb ?_|refine Jc ?_|refine Jd ?_|refine Je ?_|refine Jf ?_|refine Jg ?_|refine Jh ?_|refine Ji ?_|refine Jj ?_|refine Jk rfl ?_|refine Jl ?_|refine Jm ?_|refine Jn ?_|refine Jo ?_|refine Jp ?_|refine Jq ?_))
  refine e_gdT rfl ?_
  refine e_mvI rfl ?_
  refine e_gdT rfl ?_
  refine e_mvL rfl ?_
  refine e_gdT rfl ?_
  refine e_p (v := .int .i64 (n : Int)) rfl ?_
  (repeat (first|(with_reducible first|refine Ja ?_|refine Jb ?_|refine Jc ?_|refine Jd ?_|refine Je ?_|refine Jf ?_|refine Jg ?_|refine Jh ?_|refine Ji ?_|refine Jj ?_|refine Jk rfl ?_|refine Jl ?_|refine Jm ?_|refine Jn ?_|refine Jo ?_|refine Jp ?_|refine Jq ?_)|refine JA rfl ?_|refine JB rfl ?_|refine JC rfl ?_|refine JD rfl ?_|refine JE rfl ?_|refine JF rfl ?_|refine JG rfl ?_|refine JH rfl ?_|refine JI rfl ?_|refine J2 rfl ?_|refine J3 rfl ?_|refine J4 rfl ?_|refine J1 rfl ?_|refine J6 rfl ?_|refine J7 rfl ?_|refine JJ rfl ?_|refine JK rfl ?_|refine JQ rfl ?_|refine JL rfl rfl ?_|refine JM rfl rfl ?_|refine JN rfl ?_|refine JO rfl ?_|refine JP rfl ?_))
  refine s_iteD rfl (fun hk2 => ?_) (fun hk2 => ?_)
  · (repeat (first|(with_reducible first|refine Ja ?_|refine Jb ?_|refine Jc ?_|refine Jd ?_|refine Je ?_|refine Jf ?_|refine Jg ?_|refine Jh ?_|refine Ji ?_|refine Jj ?_|refine Jk rfl ?_|refine Jl ?_|refine Jm ?_|refine Jn ?_|refine Jo ?_|refine Jp ?_|refine Jq ?_)|refine JA rfl ?_|refine JB rfl ?_|refine JC rfl ?_|refine JD rfl ?_|refine JE rfl ?_|refine JF rfl ?_|refine JG rfl ?_|refine JH rfl ?_|refine JI rfl ?_|refine J2 rfl ?_|refine J3 rfl ?_|refine J4 rfl ?_|refine J1 rfl ?_|refine J6 rfl ?_|refine J7 rfl ?_|refine JJ rfl ?_|refine JK rfl ?_|refine JQ rfl ?_|refine JL rfl rfl ?_|refine JM rfl rfl ?_|refine JN rfl ?_|refine JO rfl ?_|refine JP rfl ?_))
    refine e_callP rfl l_sanity S fun w S => ?_
    (repeat (first|(with_reducible first|refine Ja ?_|refine Jb ?_|refine Jc ?_|refine Jd ?_|refine Je ?_|refine Jf ?_|refine Jg ?_|refine Jh ?_|refine Ji ?_|refine Jj ?_|refine Jk rfl ?_|refine Jl ?_|refine Jm ?_|refine Jn ?_|refine Jo ?_|refine Jp ?_|refine Jq ?_)|refine JA rfl ?_|refine JB rfl ?_|refine JC rfl ?_|refine JD rfl ?_|refine JE rfl ?_|refine JF rfl ?_|refine JG rfl ?_|refine JH rfl ?_|refine JI rfl ?_|refine J2 rfl ?_|refine J3 rfl ?_|refine J4 rfl ?_|refine J1 rfl ?_|refine J6 rfl ?_|refine J7 rfl ?_|refine JJ rfl ?_|refine JK rfl ?_|refine JQ rfl ?_|refine JL rfl rfl ?_|refine JM rfl rfl ?_|refine JN rfl ?_|refine JO rfl ?_|refine JP rfl ?_))
    exact f_ret rfl rfl (hQ _ _ _ rfl S)
  obtain ⟨kn, rfl⟩ : ∃ kn : Nat, k = kn := ⟨k.toNat, by omega⟩
  have hkn : kn ≤ n := by omega
  have hle := hL.le
  rcases hOt.own with ⟨_, hcp, _⟩ | ⟨bt, sp, lo, hi0, rfl, hsp, hfr0, rfl⟩
  · have := hOt.le; omega
  (repeat (with_reducible first|refine Ja ?_|refine Jb ?_|refine Jc ?_|refine Jd ?_|refine Je ?_|refine Jf ?_|refine Jg ?_|refine Jh ?_|refine Ji ?_|refine Jj ?_|refine Jk rfl ?_|refine Jl ?_|refine Jm ?_|refine Jn ?_|refine Jo ?_|refine Jp ?_|refine Jq ?_))
  refine e_mvP rfl ?_
  refine e_mvL rfl ?_
  refine e_mvI rfl ?_
  refine e_ixa rfl rfl (by omega) (by omega) ?_
  rw [show 0 + (kn : Int).toNat * 4 = kn * 4 by omega]
  have htl : ((List.range (n + 1)).map (tailAt l)).length = n + 1 := by simp
  have hrow : ∀ {j : Nat}, j < n + 1 → (((((List.range (n + 1)).map (tailAt l)).flatMap Tl.v ++ sp).drop (j * 4)).take 4 = (tailAt l j).v) ∧ j * 4 + 4 ≤ (((List.range (n + 1)).map (tailAt l)).flatMap Tl.v ++ sp).length := by
    intro j hj
    refine ⟨?_, ?_⟩
    · rw [tls_at _ _ (by rw [htl]; exact hj)]; simp
    · rw [List.length_append, tls_len, htl]; omega
  refine e_ld (v := .agg ⟨(tailAt l kn).v⟩) (rowM S (ty := 31) (fr := (lo, hi0)) (cs := ((List.range (n + 1)).map (tailAt l)).flatMap Tl.v ++ sp) (by simp) (hrow (by omega)).2 (hrow (by omega)).1) ?_
  have hsc := w_scan s 0 (tailAt l kn) hL.on.std.ok
  rw [logged_scan hL (by show (2 : Int) ≤ 2; omega) (by omega) hkn] at hsc
  have elen : ((l.take n).drop kn).length = n - kn := by simp; omega
  simp only [elen] at hsc
  refine e_call (L2 := _ ++ Li) rfl hsc S ?_
  rintro _ _ w ⟨ado, capo, Lo, rfl, rfl, hOo⟩ S
  refine e_mvT rfl ?_
  refine e_p (v := .slice ado (n - kn) capo) rfl ?_
  refine e_p (v := .agg ⟨(tailAt l n).v⟩) rfl ?_
  refine e_p (v := .int .i64 0) rfl ?_
  refine e_nwE S (cs' := zT.v) rfl fun b11 w S => ?_
  refine e_mvL rfl ?_
  refine e_st (vs := (tailAt l n).v) S 0 rfl rfl rfl rfl (by simp [Tl.v, Value.flat]) (by simp [zT, Tl.v]) fun w S => ?_
  refine e_mvI rfl ?_
  obtain ⟨XS, hXS⟩ : ∃ XS, (([(bt, Obj.cells ⟨((List.range (n + 1)).map (tailAt l)).flatMap Tl.v ++ sp⟩ 31 (lo, hi0))] ++ Li) ++ (s.L ++ Lo)) = XS := ⟨_, rfl⟩
  replace S : Dn.Sep w ((b11, .cells ⟨(tailAt l n).v⟩ 31) :: (([(bt, Obj.cells ⟨((List.range (n + 1)).map (tailAt l)).flatMap Tl.v ++ sp⟩ 31 (lo, hi0))] ++ Li) ++ (s.L ++ Lo))) F := S
  rw [hXS] at S
  have hbt : (bt, Obj.cells ⟨((List.range (n + 1)).map (tailAt l)).flatMap Tl.v ++ sp⟩ 31 (lo, hi0)) ∈ XS := by rw [← hXS]; simp
  have hLi : ∀ x ∈ Li, x ∈ XS := by intro x hx; rw [← hXS]; simp [hx]
  have hLo : ∀ x ∈ Lo, x ∈ XS := by intro x hx; rw [← hXS]; simp [hx]
  clear hXS
  (repeat (first|(with_reducible first|refine Ja ?_|refine Jb ?_|refine Jc ?_|refine Jd ?_|refine Je ?_|refine Jf ?_|refine Jg ?_|refine Jh ?_|refine Ji ?_|refine Jj ?_|refine Jk rfl ?_|refine Jl ?_|refine Jm ?_|refine Jn ?_|refine Jo ?_|refine Jp ?_|refine Jq ?_)|refine JA rfl ?_|refine JB rfl ?_|refine JC rfl ?_|refine JD rfl ?_|refine JE rfl ?_|refine JF rfl ?_|refine JG rfl ?_|refine JH rfl ?_|refine JI rfl ?_|refine J2 rfl ?_|refine J3 rfl ?_|refine J4 rfl ?_|refine J1 rfl ?_|refine J6 rfl ?_|refine J7 rfl ?_|refine JJ rfl ?_|refine JK rfl ?_|refine JQ rfl ?_|refine JL rfl rfl ?_|refine JM rfl rfl ?_|refine JN rfl ?_|refine JO rfl ?_|refine JP rfl ?_))
  refine s_loop (σ := Nat) (fun i => [(13, .int .i64 (sumW (l.take i) : Int)), (14, .int .i64 (i : Int)), (2, .int .i64 (kn : Int)), (8, .slice (some ⟨bt, 0, none⟩) (n + 1) capt), (9, .slice adi n capi), (10, .slice ado (n - kn) capo), (11, .pointer (some ⟨b11, 0, none⟩)), (12, .int .i64 0)])
    (fun i w => i ≤ n ∧ Dn.Sep w ((b11, .cells ⟨(tailAt l n).v⟩ 31) :: XS) F) (fun i => n - i) 0 ⟨rfl, rfl, rfl, rfl, rfl, rfl, rfl, rfl, trivial⟩ rfl ⟨by omega, S⟩ ?_
  rintro gg i w ⟨hi, S⟩
  simp only [setL]
  have hsum : sumW (l.take i) ≤ i * 177372539170284152 := sumW_bd _ _ (by intro r hr'; exact hr r (List.mem_of_mem_take hr')) (by simp; omega)
  (repeat (with_reducible first|refine Ja ?_|refine Jb ?_|refine Jc ?_|refine Jd ?_|refine Je ?_|refine Jf ?_|refine Jg ?_|refine Jh ?_|refine Ji ?_|refine Jj ?_|refine Jk rfl ?_|refine Jl ?_|refine Jm ?_|refine Jn ?_|refine Jo ?_|refine Jp ?_|refine Jq ?_))
  refine e_mvI rfl ?_
  refine e_mvL rfl ?_
  refine e_p (v := .int .i64 (n : Int)) rfl ?_
  (repeat (first|(with_reducible first|refine Ja ?_|refine Jb ?_|refine Jc ?_|refine Jd ?_|refine Je ?_|refine Jf ?_|refine Jg ?_|refine Jh ?_|refine Ji ?_|refine Jj ?_|refine Jk rfl ?_|refine Jl ?_|refine Jm ?_|refine Jn ?_|refine Jo ?_|refine Jp ?_|refine Jq ?_)|refine JA rfl ?_|refine JB rfl ?_|refine JC rfl ?_|refine JD rfl ?_|refine JE rfl ?_|refine JF rfl ?_|refine JG rfl ?_|refine JH rfl ?_|refine JI rfl ?_|refine J2 rfl ?_|refine J3 rfl ?_|refine J4 rfl ?_|refine J1 rfl ?_|refine J6 rfl ?_|refine J7 rfl ?_|refine JJ rfl ?_|refine JK rfl ?_|refine JQ rfl ?_|refine JL rfl rfl ?_|refine JM rfl rfl ?_|refine JN rfl ?_|refine JO rfl ?_|refine JP rfl ?_))
  refine s_iteD rfl (fun h => ?_) (fun h => ?_)
  · have hin : i < n := by omega
    have hil : i < l.length := by omega
    rcases hOi.own with ⟨_, hcp, _⟩ | ⟨bi, spi, loi, hii, rfl, hspi, hfri, eLi⟩
    · have := hOi.le; omega
    have hsz : sumW (l.take (i + 1)) = sumW (l.take i) + sizeW l[i].length := by
      rw [List.take_succ_eq_append_getElem hil]; unfold sumW; rw [List.map_append, List.sum_append]; simp
    have hb26 : sizeW l[i].length ≤ 177372539170284152 := by
      have := hr _ (List.getElem_mem hil)
      unfold sizeW; split <;> omega
    (repeat (with_reducible first|refine Ja ?_|refine Jb ?_|refine Jc ?_|refine Jd ?_|refine Je ?_|refine Jf ?_|refine Jg ?_|refine Jh ?_|refine Ji ?_|refine Jj ?_|refine Jk rfl ?_|refine Jl ?_|refine Jm ?_|refine Jn ?_|refine Jo ?_|refine Jp ?_|refine Jq ?_))
    refine e_mvI rfl ?_
    refine e_mvL rfl ?_
    refine e_mvI rfl ?_
    refine e_ixa rfl rfl (by omega) (by omega) ?_
    rw [show 0 + (i : Int).toNat * 1 = i by omega]
    refine e_ld (v := strV l[i]) (cellM S (List.mem_cons_of_mem _ (hLi _ (by rw [eLi]; exact List.mem_singleton.2 rfl))) (strs_at hin (by omega))) ?_
    refine e_p (v := .int .i64 (l[i].length : Int)) rfl ?_
    refine e_callP rfl (w_size l[i].length (by have := hr _ (List.getElem_mem hil); omega)) S fun w S => ?_
    refine e_add (a := (sumW (l.take i) : Int)) (b := (sizeW l[i].length : Int)) rfl rfl (by omega) (by omega) ?_
    (repeat (first|(with_reducible first|refine Ja ?_|refine Jb ?_|refine Jc ?_|refine Jd ?_|refine Je ?_|refine Jf ?_|refine Jg ?_|refine Jh ?_|refine Ji ?_|refine Jj ?_|refine Jk rfl ?_|refine Jl ?_|refine Jm ?_|refine Jn ?_|refine Jo ?_|refine Jp ?_|refine Jq ?_)|refine JA rfl ?_|refine JB rfl ?_|refine JC rfl ?_|refine JD rfl ?_|refine JE rfl ?_|refine JF rfl ?_|refine JG rfl ?_|refine JH rfl ?_|refine JI rfl ?_|refine J2 rfl ?_|refine J3 rfl ?_|refine J4 rfl ?_|refine J1 rfl ?_|refine J6 rfl ?_|refine J7 rfl ?_|refine JJ rfl ?_|refine JK rfl ?_|refine JQ rfl ?_|refine JL rfl rfl ?_|refine JM rfl rfl ?_|refine JN rfl ?_|refine JO rfl ?_|refine JP rfl ?_))
    refine e_add (a := (i : Int)) (b := 1) rfl rfl (by omega) (by omega) ?_
    (repeat (first|(with_reducible first|refine Ja ?_|refine Jb ?_|refine Jc ?_|refine Jd ?_|refine Je ?_|refine Jf ?_|refine Jg ?_|refine Jh ?_|refine Ji ?_|refine Jj ?_|refine Jk rfl ?_|refine Jl ?_|refine Jm ?_|refine Jn ?_|refine Jo ?_|refine Jp ?_|refine Jq ?_)|refine JA rfl ?_|refine JB rfl ?_|refine JC rfl ?_|refine JD rfl ?_|refine JE rfl ?_|refine JF rfl ?_|refine JG rfl ?_|refine JH rfl ?_|refine JI rfl ?_|refine J2 rfl ?_|refine J3 rfl ?_|refine J4 rfl ?_|refine J1 rfl ?_|refine J6 rfl ?_|refine J7 rfl ?_|refine JJ rfl ?_|refine JK rfl ?_|refine JQ rfl ?_|refine JL rfl rfl ?_|refine JM rfl rfl ?_|refine JN rfl ?_|refine JO rfl ?_|refine JP rfl ?_))
    refine ⟨rfl, i + 1, ⟨?_, rfl, rfl, rfl, rfl, rfl, rfl, rfl, trivial⟩, ⟨by omega, S⟩, by omega⟩
    show Value.int .i64 ((sumW (l.take i) : Int) + (sizeW l[i].length : Int)) = _
    rw [hsz]; rfl
  have hin : i = n := by omega
  subst hin
  (repeat (with_reducible first|refine Ja ?_|refine Jb ?_|refine Jc ?_|refine Jd ?_|refine Je ?_|refine Jf ?_|refine Jg ?_|refine Jh ?_|refine Ji ?_|refine Jj ?_|refine Jk rfl ?_|refine Jl ?_|refine Jm ?_|refine Jn ?_|refine Jo ?_|refine Jp ?_|refine Jq ?_))
  refine e_mvL rfl ?_
  refine e_mvL rfl ?_
  refine e_p (v := .int .i64 ((i : Int) + 1)) rfl ?_
  refine e_sub (a := (i : Int) + 1) (b := 1) rfl rfl (by omega) (by omega) ?_
  refine e_ixa rfl rfl (by omega) (by omega) ?_
  rw [show 0 + ((i : Int) + 1 - 1).toNat * 4 = i * 4 by omega]
  refine e_ld (v := .agg ⟨(tailAt l i).v⟩) (rowM S (ty := 31) (fr := (lo, hi0)) (cs := ((List.range (i + 1)).map (tailAt l)).flatMap Tl.v ++ sp) (List.mem_cons_of_mem _ hbt) (hrow (by omega)).2 (hrow (by omega)).1) ?_
  refine e_nwE S (cs' := zT.v) rfl fun b15 w S => ?_
  refine e_st (vs := (tailAt l i).v) S 0 rfl rfl rfl rfl (by simp [Tl.v, Value.flat]) (by simp [zT, Tl.v]) fun w S => ?_
  replace S : Dn.Sep w ((b15, .cells ⟨(tailAt l i).v⟩ 31) :: (b11, .cells ⟨(tailAt l i).v⟩ 31) :: XS) F := S
  (repeat (first|(with_reducible first|refine Ja ?_|refine Jb ?_|refine Jc ?_|refine Jd ?_|refine Je ?_|refine Jf ?_|refine Jg ?_|refine Jh ?_|refine Ji ?_|refine Jj ?_|refine Jk rfl ?_|refine Jl ?_|refine Jm ?_|refine Jn ?_|refine Jo ?_|refine Jp ?_|refine Jq ?_)|refine JA rfl ?_|refine JB rfl ?_|refine JC rfl ?_|refine JD rfl ?_|refine JE rfl ?_|refine JF rfl ?_|refine JG rfl ?_|refine JH rfl ?_|refine JI rfl ?_|refine J2 rfl ?_|refine J3 rfl ?_|refine J4 rfl ?_|refine J1 rfl ?_|refine J6 rfl ?_|refine J7 rfl ?_|refine JJ rfl ?_|refine JK rfl ?_|refine JQ rfl ?_|refine JL rfl rfl ?_|refine JM rfl rfl ?_|refine JN rfl ?_|refine JO rfl ?_|refine JP rfl ?_))
  refine e_callP rfl l_sanity S fun w S => ?_
  (repeat (first|(with_reducible first|refine Ja ?_|refine Jb ?_|refine Jc ?_|refine Jd ?_|refine Je ?_|refine Jf ?_|refine Jg ?_|refine Jh ?_|refine Ji ?_|refine Jj ?_|refine Jk rfl ?_|refine Jl ?_|refine Jm ?_|refine Jn ?_|refine Jo ?_|refine Jp ?_|refine Jq ?_)|refine JA rfl ?_|refine JB rfl ?_|refine JC rfl ?_|refine JD rfl ?_|refine JE rfl ?_|refine JF rfl ?_|refine JG rfl ?_|refine JH rfl ?_|refine JI rfl ?_|refine J2 rfl ?_|refine J3 rfl ?_|refine J4 rfl ?_|refine J1 rfl ?_|refine J6 rfl ?_|refine J7 rfl ?_|refine JJ rfl ?_|refine JK rfl ?_|refine JQ rfl ?_|refine JL rfl rfl ?_|refine JM rfl rfl ?_|refine JN rfl ?_|refine JO rfl ?_|refine JP rfl ?_))
  refine e_ld (v := .agg ⟨(tailAt l i).v⟩) (S.row 1 rfl (by simp [Tl.v]) rfl) ?_
  (repeat (first|(with_reducible first|refine Ja ?_|refine Jb ?_|refine Jc ?_|refine Jd ?_|refine Je ?_|refine Jf ?_|refine Jg ?_|refine Jh ?_|refine Ji ?_|refine Jj ?_|refine Jk rfl ?_|refine Jl ?_|refine Jm ?_|refine Jn ?_|refine Jo ?_|refine Jp ?_|refine Jq ?_)|refine JA rfl ?_|refine JB rfl ?_|refine JC rfl ?_|refine JD rfl ?_|refine JE rfl ?_|refine JF rfl ?_|refine JG rfl ?_|refine JH rfl ?_|refine JI rfl ?_|refine J2 rfl ?_|refine J3 rfl ?_|refine J4 rfl ?_|refine J1 rfl ?_|refine J6 rfl ?_|refine J7 rfl ?_|refine JJ rfl ?_|refine JK rfl ?_|refine JQ rfl ?_|refine JL rfl rfl ?_|refine JM rfl rfl ?_|refine JN rfl ?_|refine JO rfl ?_|refine JP rfl ?_))
  refine e_ld (v := .agg ⟨(tailAt l i).v⟩) (S.row 0 rfl (by simp [Tl.v]) rfl) ?_
  refine e_gdT rfl ?_
  refine e_p (eqc_tl (p := tailAt l i) (q := tailAt l i) rfl rfl) ?_
  rw [decide_eq_true rfl]
  (repeat (with_reducible first|refine Ja ?_|refine Jb ?_|refine Jc ?_|refine Jd ?_|refine Je ?_|refine Jf ?_|refine Jg ?_|refine Jh ?_|refine Ji ?_|refine Jj ?_|refine Jk rfl ?_|refine Jl ?_|refine Jm ?_|refine Jn ?_|refine Jo ?_|refine Jp ?_|refine Jq ?_))
  refine e_pkTB rfl rfl ?_
  refine e_mvB rfl ?_
  refine e_gdT rfl ?_
  refine e_mvL rfl ?_
  refine e_gdT rfl ?_
  refine e_mvL rfl ?_
  refine e_gdT rfl ?_
  refine e_mvI rfl ?_
  refine e_gdT rfl ?_
  refine e_sll (a := kn) (b := i) rfl rfl (bnd_s rfl rfl hkn) ?_
  refine e_gdT rfl ?_
  have hsame := l_same ado (if capi = kn then adi else adi.map (·.add (kn * 1))) capo (capi - kn) ((l.take i).drop kn) ((l.take i).drop kn) (by rw [elen]; omega)
  rw [elen] at hsame
  refine e_callFN rfl hsame S ?_ ?_
  · have S' : Dn.Sep w (((b15, .cells ⟨(tailAt l i).v⟩ 31) :: (b11, .cells ⟨(tailAt l i).v⟩ 31) :: XS) ++ []) F := by simpa using S
    refine ⟨hOo.fsl S' (by intro x hx; simp [hLo x hx]), ?_⟩
    have := hOi.fsl S' (by intro x hx; simp [hLi x hx])
    rcases this.drop kn capi with h9 | ⟨h9, h10⟩
    · simpa using h9
    · have : kn = i := by have := hOi.le; omega
      rw [List.drop_eq_nil_of_le (by simp; omega)]
      exact FSl.nil
  rintro _ _ w ⟨rfl, rfl⟩ S
  rw [decide_eq_true rfl]
  (repeat (first|(with_reducible first|refine Ja ?_|refine Jb ?_|refine Jc ?_|refine Jd ?_|refine Je ?_|refine Jf ?_|refine Jg ?_|refine Jh ?_|refine Ji ?_|refine Jj ?_|refine Jk rfl ?_|refine Jl ?_|refine Jm ?_|refine Jn ?_|refine Jo ?_|refine Jp ?_|refine Jq ?_)|refine JA rfl ?_|refine JB rfl ?_|refine JC rfl ?_|refine JD rfl ?_|refine JE rfl ?_|refine JF rfl ?_|refine JG rfl ?_|refine JH rfl ?_|refine JI rfl ?_|refine J2 rfl ?_|refine J3 rfl ?_|refine J4 rfl ?_|refine J1 rfl ?_|refine J6 rfl ?_|refine J7 rfl ?_|refine JJ rfl ?_|refine JK rfl ?_|refine JQ rfl ?_|refine JL rfl rfl ?_|refine JM rfl rfl ?_|refine JN rfl ?_|refine JO rfl ?_|refine JP rfl ?_))
  refine e_ld (S.cell 0 rfl rfl) ?_
  refine e_gdT rfl ?_
  refine e_mvI rfl ?_
  refine e_gdT rfl ?_
  refine e_p (cmp_eqlD rfl rfl) ?_
  rw [decide_eq_true (tailAt_next l i)]
  (repeat (first|(with_reducible first|refine Ja ?_|refine Jb ?_|refine Jc ?_|refine Jd ?_|refine Je ?_|refine Jf ?_|refine Jg ?_|refine Jh ?_|refine Ji ?_|refine Jj ?_|refine Jk rfl ?_|refine Jl ?_|refine Jm ?_|refine Jn ?_|refine Jo ?_|refine Jp ?_|refine Jq ?_)|refine JA rfl ?_|refine JB rfl ?_|refine JC rfl ?_|refine JD rfl ?_|refine JE rfl ?_|refine JF rfl ?_|refine JG rfl ?_|refine JH rfl ?_|refine JI rfl ?_|refine J2 rfl ?_|refine J3 rfl ?_|refine J4 rfl ?_|refine J1 rfl ?_|refine J6 rfl ?_|refine J7 rfl ?_|refine JJ rfl ?_|refine JK rfl ?_|refine JQ rfl ?_|refine JL rfl rfl ?_|refine JM rfl rfl ?_|refine JN rfl ?_|refine JO rfl ?_|refine JP rfl ?_))
  refine e_ld (S.cell 0 rfl rfl) ?_
  refine e_gdT rfl ?_
  refine e_mvL rfl ?_
  refine e_gdT rfl ?_
  refine e_p (v := .int .i64 (i : Int)) rfl ?_
  refine e_gdT rfl ?_
  refine e_p (cmp_eqlD rfl rfl) ?_
  rw [decide_eq_true (tailAt_num hle).1]
  (repeat (first|(with_reducible first|refine Ja ?_|refine Jb ?_|refine Jc ?_|refine Jd ?_|refine Je ?_|refine Jf ?_|refine Jg ?_|refine Jh ?_|refine Ji ?_|refine Jj ?_|refine Jk rfl ?_|refine Jl ?_|refine Jm ?_|refine Jn ?_|refine Jo ?_|refine Jp ?_|refine Jq ?_)|refine JA rfl ?_|refine JB rfl ?_|refine JC rfl ?_|refine JD rfl ?_|refine JE rfl ?_|refine JF rfl ?_|refine JG rfl ?_|refine JH rfl ?_|refine JI rfl ?_|refine J2 rfl ?_|refine J3 rfl ?_|refine J4 rfl ?_|refine J1 rfl ?_|refine J6 rfl ?_|refine J7 rfl ?_|refine JJ rfl ?_|refine JK rfl ?_|refine JQ rfl ?_|refine JL rfl rfl ?_|refine JM rfl rfl ?_|refine JN rfl ?_|refine JO rfl ?_|refine JP rfl ?_))
  exact f_ret rfl rfl (hQ _ _ _ rfl S)

/-- with the arguments in the row's order -/
theorem law_readsR (size : Int) (ad : Option Addr) (cap : Nat) (l : List Sec) (k : Int) (hb : l.length < 4611686018427387904) (hr : ∀ r ∈ l, r.length < 4611686018427387904) :
    DSpecF Try.prog 3 [.int .i64 size, .slice ad l.length cap, .int .i64 k] [] (fun F => FSl F ad (l.map strV)) fun v _ => v = .bool true := law_reads size k ad cap l hb hr

end Go.Proofs.Ytgendpinmmmfjaa

/-
  The plain laws WalSeparate, WalRestarts, WalChains.
-/
namespace Dn
open Go

variable {s s' : Sh} {c : Cfg} {l : List Sec} {n : Nat}

theorem zT_ok : zT.ok := by unfold zT Tl.ok Gn.ok0; simp only; omega
theorem logN_tot {c : Cfg} (hc : c.ok) : c.logN ≤ c.total := by
  unfold Cfg.ok at hc
  have := logN_le (c := c)
  unfold Cfg.total
  omega

/-- the first disk's log is read as before, if its sectors are as before -/
theorem scan0_keep (h : Logged s c l n) (hdk : 2 ≤ c.disks) (hon : s'.on) (hcfg : s'.cfg = c) (hv : ∀ i, 0 ≤ i → s'.vw 0 i = s.vw 0 i) : scanFull s' 0 zT = (l.take n, tailAt l n, 0) := by
  have hc0 : (0 : Int) ≤ (tailAt l n).next := end_le zT _
  have hck := chain_keep (s := s) (s' := s') (hcfg.trans h.cfg.symm) h.chain (fun i h1 h2 => hv i h1)
  have hst : stopAt s' 0 (tailAt l n) := by
    rcases logged_stop h with h1 | h1
    · left; rw [hcfg]; rw [h.cfg] at h1; exact h1
    · right; rw [hv _ hc0]; exact h1
  have := scan_all hon (d := 0) (by rw [hcfg]; omega) zT_ok hck hst
  rw [this, tagged_snd]

/-- an append behind the empty log of the second disk -/
theorem separate (h : Logged s c l n) (hdk : 2 ≤ c.disks) (r : Sec) :
    ((appendW s 1 zT ⟨1, 0⟩ r).2.1 ≠ 0 ∧ scanFull (appendW s 1 zT ⟨1, 0⟩ r).2.2 0 zT = (l.take n, tailAt l n, 0) ∧ ∃ t, scanFull (appendW s 1 zT ⟨1, 0⟩ r).2.2 1 zT = ([], t, 0)) ∨
    ((appendW s 1 zT ⟨1, 0⟩ r).2.1 = 0 ∧ scanFull (appendW s 1 zT ⟨1, 0⟩ r).2.2 0 zT = (l.take n, tailAt l n, 0) ∧ ∃ t, scanFull (appendW s 1 zT ⟨1, 0⟩ r).2.2 1 zT = ([r], t, 0)) := by
  have hcok := h.on.std.ok.cfg
  rw [h.cfg] at hcok
  have htot := logN_tot hcok
  have hd1 : 0 ≤ (1 : Int) ∧ 1 < s.cfg.disks := by rw [h.cfg]; omega
  by_cases hn : refused s 1 zT ⟨1, 0⟩ r
  · obtain ⟨h1, h2, h3⟩ := append_refused hn
    left
    rw [h3]
    refine ⟨h1, scan0_keep h hdk h.on h.cfg (fun _ _ => rfl), zT, ?_⟩
    have hst : stopAt s 1 zT := by
      apply stop_zero
      rw [h.cfg]
      by_cases e : zT.next ≥ c.logN
      · exact .inl e
      · exact .inr (h.z1 _ (by show (0 : Int) ≤ 0; omega) (by omega))
    exact scan_all h.on hd1 zT_ok (l := []) rfl hst
  · obtain ⟨h1, h2, h3, h4, h5, h6, h7⟩ := append_on h.on h.fused hn
    right
    refine ⟨h1, scan0_keep h hdk h3 (h5.trans h.cfg) (fun i hi => h7 0 i (by omega) hi (by omega)), after zT ⟨1, 0⟩ r, ?_⟩
    unfold refused at hn
    simp only [not_or, Classical.not_not] at hn
    obtain ⟨⟨hv, hg⟩, hnew, hlen, hfit⟩ := hn
    have hz : zT.next = 0 := rfl
    have hch : chain (appendW s 1 zT ⟨1, 0⟩ r).2.2 1 zT [(⟨1, 0⟩, r)] (after zT ⟨1, 0⟩ r) :=
      ⟨zT_ok, by unfold Gn.ok Gn.ok0; simp only; omega, hnew, by omega, by rw [h5]; omega, h6, rfl⟩
    have hst : stopAt (appendW s 1 zT ⟨1, 0⟩ r).2.2 1 (after zT ⟨1, 0⟩ r) := by
      apply stop_zero
      rw [h5, h.cfg]
      have hnx : (after zT ⟨1, 0⟩ r).next = 0 + sizeW r.length := rfl
      by_cases e : (after zT ⟨1, 0⟩ r).next ≥ c.logN
      · exact .inl e
      · right
        rw [h7 1 _ (by omega) (by omega) (by omega)]
        exact h.z1 _ (by omega) (by omega)
    exact scan_all h3 (by rw [h5]; exact hd1) zT_ok hch hst

/-! ### WalRestarts -/

def tag2 (k : Nat) : List Sec → List (Gn × Sec)
  | [] => []
  | r :: l => (⟨2, (k : Int)⟩, r) :: tag2 (k + 1) l
theorem tag2_app : ∀ (l m : List Sec) (k : Nat), tag2 k (l ++ m) = tag2 k l ++ tag2 (k + l.length) m
  | [], m, k => by simp [tag2]
  | r :: l, m, k => by
    simp only [List.cons_append, tag2, List.cons.injEq, true_and, List.length_cons]
    rw [tag2_app l m (k + 1)]
    congr 2
    omega
theorem tag2_snd : ∀ (l : List Sec) (k : Nat), (tag2 k l).map (·.2) = l
  | [], _ => rfl
  | r :: l, k => by simp only [tag2, List.map_cons, tag2_snd l (k + 1)]
theorem end_tag2 : ∀ (l : List Sec) (k : Nat) (t : Tl), (endT t (tag2 k l)).number = t.number + l.length ∧ (endT t (tag2 k l)).gen = if l.length = 0 then t.gen else ⟨2, (k : Int) + l.length - 1⟩
  | [], k, t => by simp [tag2, endT]
  | r :: l, k, t => by
    simp only [tag2, endT]
    obtain ⟨h1, h2⟩ := end_tag2 l (k + 1) (after t ⟨2, (k : Int)⟩ r)
    rw [h1, h2]
    simp only [after, List.length_cons]
    refine ⟨by omega, ?_⟩
    by_cases e : l.length = 0
    · rw [if_pos e, if_neg (by omega), e]; congr 1; omega
    · rw [if_neg e, if_neg (by omega)]
      congr 1
      omega

/-- the log begun again -/
def from0 (l : List Sec) (n : Nat) : Tl := ⟨0, (tailAt l n).number, (tailAt l n).gen⟩
def tail2 (l : List Sec) (n : Nat) (m : List Sec) (i : Nat) : Tl := endT (from0 l n) (tag2 0 (m.take i))

/-- i of the new records are written -/
structure Again (s s1 : Sh) (c : Cfg) (l : List Sec) (n : Nat) (m : List Sec) (i : Nat) : Prop where
  on : s.on
  fused : s.fused = false
  cfg : s.cfg = c
  le : i ≤ m.length
  chain : chain s 0 (from0 l n) (tag2 0 (m.take i)) (tail2 l n m i)
  fit : (tail2 l n m i).next ≤ c.logN ∨ i = 0
  same : ∀ j, (tail2 l n m i).next ≤ j → s.vw 0 j = s1.vw 0 j

theorem again_zero (h : Logged s c l n) (m : List Sec) : Again s s c l n m 0 := ⟨h.on, h.fused, h.cfg, Nat.zero_le _, rfl, .inr rfl, fun _ _ => rfl⟩

theorem tail2_facts {l m : List Sec} {n i : Nat} (hn : n ≤ l.length) (hi : i ≤ m.length) : (tail2 l n m i).number = n + i ∧ (tail2 l n m i).gen = if i = 0 then gI n else ⟨2, (i : Int) - 1⟩ := by
  obtain ⟨h1, h2⟩ := end_tag2 (m.take i) 0 (from0 l n)
  obtain ⟨h3, h4⟩ := tailAt_num hn
  unfold tail2
  rw [h1, h2, List.length_take, Nat.min_eq_left hi]
  refine ⟨by show (tailAt l n).number + _ = _; rw [h3], ?_⟩
  by_cases e : i = 0
  · rw [if_pos e, if_pos e]; exact h4
  · rw [if_neg e, if_neg e]; congr 1; omega
theorem tail2_succ {l m : List Sec} {n i : Nat} (hi : i < m.length) : tail2 l n m (i + 1) = after (tail2 l n m i) ⟨2, (i : Int)⟩ m[i] := by
  unfold tail2
  rw [List.take_succ_eq_append_getElem hi, tag2_app, endT_app]
  simp only [tag2, endT, List.length_take, Nat.zero_add]
  rw [Nat.min_eq_left (by omega)]
theorem tail2_ok {s s1 : Sh} {m : List Sec} {i : Nat} (hn : n ≤ l.length) (h : Again s s1 c l n m i) (hn' : n ≤ 1000) (hi : i ≤ 1000) : (tail2 l n m i).ok := by
  obtain ⟨h1, h2⟩ := tail2_facts hn h.le
  have h3 : (0 : Int) ≤ (tail2 l n m i).next := end_le (from0 l n) _
  have hc := h.on.std.ok.cfg
  rw [h.cfg] at hc
  unfold Cfg.ok at hc
  have hN := logN_le (c := c)
  have h4 : (tail2 l n m i).next ≤ 65536 := by
    rcases h.fit with h5 | h5
    · omega
    · subst h5; show (0 : Int) ≤ _; omega
  unfold Tl.ok
  rw [h1, h2]
  refine ⟨h3, by omega, by omega, by omega, ?_⟩
  unfold Gn.ok0 gI
  split
  · split <;> simp only <;> omega
  · simp only; omega

theorem again_step {s s1 : Sh} {m : List Sec} {i : Nat} (hn : n ≤ l.length) (h : Again s s1 c l n m i) (hn' : n ≤ 1000) (hm : m.length ≤ 1000) (hi : i < m.length) :
    ((appendW s 0 (tail2 l n m i) ⟨2, (i : Int)⟩ m[i]).2.1 ≠ 0 ∧ (appendW s 0 (tail2 l n m i) ⟨2, (i : Int)⟩ m[i]).2.2 = s) ∨
    ((appendW s 0 (tail2 l n m i) ⟨2, (i : Int)⟩ m[i]).2.1 = 0 ∧ (appendW s 0 (tail2 l n m i) ⟨2, (i : Int)⟩ m[i]).1 = tail2 l n m (i + 1) ∧ Again (appendW s 0 (tail2 l n m i) ⟨2, (i : Int)⟩ m[i]).2.2 s1 c l n m (i + 1)) := by
  by_cases hr : refused s 0 (tail2 l n m i) ⟨2, (i : Int)⟩ m[i]
  · obtain ⟨h1, h2, h3⟩ := append_refused hr
    exact .inl ⟨h1, h3⟩
  · obtain ⟨h1, h2, h3, h4, h5, h6, h7⟩ := append_on h.on h.fused hr
    right
    have htok := tail2_ok hn h hn' (by omega)
    have h0 : (0 : Int) ≤ (tail2 l n m i).next := end_le (from0 l n) _
    unfold refused at hr
    simp only [not_or, Classical.not_not] at hr
    obtain ⟨⟨hv, hg⟩, hnew, hlen, hfit⟩ := hr
    have hnx : (tail2 l n m (i + 1)).next = (tail2 l n m i).next + sizeW m[i].length := by rw [tail2_succ hi]; rfl
    refine ⟨h1, h2.trans (tail2_succ hi).symm, h3, h4, h5.trans h.cfg, by omega, ?_, .inl ?_, fun j k1 => ?_⟩
    · have hck := chain_keep h5 h.chain (fun j k1 k2 => h7 0 j (by omega) (by have : (0 : Int) ≤ j := k1; exact this) (by omega))
      have := chain_snoc hck htok (g := ⟨2, (i : Int)⟩) (r := m[i]) (by unfold Gn.ok Gn.ok0; simp only; omega) hnew (by omega) (by rw [h5]; omega) h6
      rw [tail2_succ hi, List.take_succ_eq_append_getElem hi, tag2_app]
      simp only [tag2, List.length_take, Nat.zero_add]
      rw [Nat.min_eq_left (by omega)]
      exact this
    · rw [hnx, ← h.cfg]; omega
    · rw [h7 0 j (by omega) (by omega) (by omega)]
      exact h.same j (by omega)

theorem again_scan {s s1 : Sh} {m : List Sec} {i : Nat} (hL : Logged s1 c l n) (hdk : 2 ≤ c.disks) (h : Again s s1 c l n m i) (hn' : n ≤ 1000) (hi : i ≤ 1000) : scanFull s 0 (from0 l n) = (m.take i, tail2 l n m i, 0) := by
  have h0 : (0 : Int) ≤ (tail2 l n m i).next := end_le (from0 l n) _
  have hst : stopAt s 0 (tail2 l n m i) := by
    by_cases e : (tail2 l n m i).next ≥ s.cfg.logN
    · exact .inl e
    · right
      intro g p ho hh
      rw [h.same _ (Int.le_refl _)] at ho
      rw [h.cfg] at e
      obtain ⟨k1, k2, k3⟩ := logged_at hL hdk h0 (by omega) ho
      unfold headOK at hh
      have hnw := hh.1
      have e1 : (parse g p).gen = g := rfl
      rw [e1] at hnw
      unfold Gn.newer at hnw
      rw [(tail2_facts hL.le h.le).2] at hnw
      unfold gI at hnw
      split at hnw
      · split at hnw
        · omega
        · simp only at hnw; omega
      · simp only at hnw; omega
  have hok : (from0 l n).ok := by
    have := tailAt_ok hL hn'
    unfold Tl.ok at this ⊢
    exact ⟨Int.le_refl 0, this.2.1, (by decide : (0 : Int) ≤ 2147483647), this.2.2.2.1, this.2.2.2.2⟩
  have := scan_all h.on (d := 0) (by rw [h.cfg]; omega) hok h.chain hst
  rw [this, tag2_snd]

/-! ### WalChains -/

theorem chain_elem {s : Sh} {d : Int} : ∀ {l : List (Gn × Sec)} {m : List (Gn × Sec)} {t t' : Tl} {g : Gn} {r : Sec}, chain s d t (l ++ (g, r) :: m) t' →
    (endT t l).ok ∧ g.ok ∧ g.newer (endT t l).gen ∧ r.length ≤ 4096 ∧ (endT t l).next + sizeW r.length ≤ s.cfg.logN := by
  intro l m t t' g r h
  obtain ⟨h1, h2, h3, h4, h5, h6, h7⟩ := chain_drop h
  exact ⟨h1, h2, h3, h4, h5⟩
theorem logged_elem (h : Logged s c l n) {i : Nat} (hi : i < n) : (tailAt l i).ok ∧ (l[i]'(by have := h.le; omega)).length ≤ 4096 ∧ (tailAt l i).next + sizeW (l[i]'(by have := h.le; omega)).length ≤ c.logN := by
  have hle := h.le
  have hil : i < l.length := by omega
  have e : l.take n = l.take i ++ (l[i] :: (l.take n).drop (i + 1)) := by
    have e1 : (l.take n).take (i + 1) = l.take i ++ [l[i]] := by rw [List.take_take, Nat.min_eq_left (by omega), List.take_succ_eq_append_getElem hil]
    have e2 : l.take n = (l.take n).take (i + 1) ++ (l.take n).drop (i + 1) := (List.take_append_drop _ _).symm
    rw [e1] at e2
    rw [List.append_assoc] at e2
    exact e2
  have hc := h.chain
  rw [e, tagged_app] at hc
  simp only [tagged] at hc
  obtain ⟨h1, h2, h3, h4, h5⟩ := chain_elem hc
  rw [h.cfg] at h5
  exact ⟨h1, h4, h5⟩

/-- the second disk has the first i records of the first one -/
structure Twin (s s1 : Sh) (c : Cfg) (l : List Sec) (i : Nat) : Prop where
  on : s.on
  fused : s.fused = false
  cfg : s.cfg = c
  chain : chain s 1 zT (tagged 0 (l.take i)) (tailAt l i)
  same : ∀ j, 0 ≤ j → s.vw 0 j = s1.vw 0 j

theorem twin_zero (h : Logged s c l n) : Twin s s c l 0 := ⟨h.on, h.fused, h.cfg, rfl, fun _ _ => rfl⟩

theorem twin_step {s s1 : Sh} {i : Nat} (hL : Logged s1 c l n) (hdk : 2 ≤ c.disks) (h : Twin s s1 c l i) (hi : i < n) :
    (appendW s 1 (tailAt l i) ⟨1, (i : Int) + 1⟩ (l[i]'(by have := hL.le; omega))).2.1 = 0 ∧ (appendW s 1 (tailAt l i) ⟨1, (i : Int) + 1⟩ (l[i]'(by have := hL.le; omega))).1 = tailAt l (i + 1) ∧
      Twin (appendW s 1 (tailAt l i) ⟨1, (i : Int) + 1⟩ (l[i]'(by have := hL.le; omega))).2.2 s1 c l (i + 1) := by
  have hle := hL.le
  have hil : i < l.length := by omega
  obtain ⟨h1, h2, h3⟩ := logged_elem hL hi
  obtain ⟨e1, e2⟩ := tailAt_num (l := l) (i := i) (by omega)
  have h0 : (0 : Int) ≤ (tailAt l i).next := end_le zT _
  have h1' := h1
  unfold Tl.ok at h1'
  rw [e1] at h1'
  have hgk : (⟨1, (i : Int) + 1⟩ : Gn).ok := by unfold Gn.ok Gn.ok0; simp only; omega
  have hnew : (⟨1, (i : Int) + 1⟩ : Gn).newer (tailAt l i).gen := by
    rw [e2]; unfold Gn.newer gI; split
    · left; show (0 : Int) < 1; omega
    · right; exact ⟨rfl, by show (i : Int) < i + 1; omega⟩
  have hr : ¬ refused s 1 (tailAt l i) ⟨1, (i : Int) + 1⟩ l[i] := by
    unfold refused
    simp only [not_or, Classical.not_not]
    refine ⟨⟨?_, hgk.1⟩, hnew, by omega, by rw [h.cfg]; omega⟩
    unfold validW; rw [h.cfg]; exact ⟨by omega, by omega, h1⟩
  obtain ⟨a1, a2, a3, a4, a5, a6, a7⟩ := append_on h.on h.fused hr
  refine ⟨a1, a2.trans (tailAt_succ hil).symm, a3, a4, a5.trans h.cfg, ?_, fun j hj => ?_⟩
  · have hck := chain_keep a5 h.chain (fun j k1 k2 => a7 1 j (by omega) (by have : (0 : Int) ≤ j := k1; exact this) (by omega))
    have := chain_snoc hck h1 hgk hnew h2 (by rw [a5, h.cfg]; omega) a6
    rw [tailAt_succ hil, List.take_succ_eq_append_getElem hil, tagged_app]
    simp only [tagged, List.length_take, Nat.zero_add]
    rw [Nat.min_eq_left (by omega)]
    exact this
  · rw [a7 0 j (by omega) hj (by omega)]
    exact h.same j hj

/-- .. and then another one -/
structure Other (s s1 : Sh) (c : Cfg) (l : List Sec) (k : Nat) (o : Sec) : Prop where
  on : s.on
  fused : s.fused = false
  cfg : s.cfg = c
  chain : chain s 1 zT (tagged 0 (l.take k) ++ [(⟨2, 0⟩, o)]) (after (tailAt l k) ⟨2, 0⟩ o)
  same : ∀ j, 0 ≤ j → s.vw 0 j = s1.vw 0 j

theorem other_step {s s1 : Sh} {k : Nat} {o : Sec} (hL : Logged s1 c l n) (hdk : 2 ≤ c.disks) (h : Twin s s1 c l k) (hk : k < n) (ho : o.length = (l[k]'(by have := hL.le; omega)).length) :
    (appendW s 1 (tailAt l k) ⟨2, 0⟩ o).2.1 = 0 ∧ (appendW s 1 (tailAt l k) ⟨2, 0⟩ o).1 = after (tailAt l k) ⟨2, 0⟩ o ∧ Other (appendW s 1 (tailAt l k) ⟨2, 0⟩ o).2.2 s1 c l k o := by
  have hle := hL.le
  obtain ⟨h1, h2, h3⟩ := logged_elem hL hk
  obtain ⟨e1, e2⟩ := tailAt_num (l := l) (i := k) (by omega)
  have h0 : (0 : Int) ≤ (tailAt l k).next := end_le zT _
  rw [← ho] at h2 h3
  have hgk : (⟨2, 0⟩ : Gn).ok := by unfold Gn.ok Gn.ok0; simp only; omega
  have hnew : (⟨2, 0⟩ : Gn).newer (tailAt l k).gen := by
    rw [e2]; unfold Gn.newer gI; split <;> simp only <;> omega
  have hr : ¬ refused s 1 (tailAt l k) ⟨2, 0⟩ o := by
    unfold refused
    simp only [not_or, Classical.not_not]
    refine ⟨⟨?_, hgk.1⟩, hnew, by omega, by rw [h.cfg]; omega⟩
    unfold validW; rw [h.cfg]; exact ⟨by omega, by omega, h1⟩
  obtain ⟨a1, a2, a3, a4, a5, a6, a7⟩ := append_on h.on h.fused hr
  refine ⟨a1, a2, a3, a4, a5.trans h.cfg, ?_, fun j hj => ?_⟩
  · have hck := chain_keep a5 h.chain (fun j k1 k2 => a7 1 j (by omega) (by have : (0 : Int) ≤ j := k1; exact this) (by omega))
    exact chain_snoc hck h1 hgk hnew h2 (by rw [a5, h.cfg]; omega) a6
  · rw [a7 0 j (by omega) hj (by omega)]
    exact h.same j hj

/-- the further record behind both: refused alike, or read on the first disk alone -/
theorem chains {s s1 : Sh} {k : Nat} {o r : Sec} (hL : Logged s1 c l n) (hdk : 2 ≤ c.disks) (hn : n ≤ 1000) (h : Other s s1 c l k o) (hk : k < n) (ho : o.length = (l[k]'(by have := hL.le; omega)).length) :
    let A := appendW s 0 (tailAt l (k + 1)) ⟨3, 0⟩ r
    let B := appendW A.2.2 1 (tailAt l (k + 1)) ⟨3, 0⟩ r
    (A.2.1 ≠ 0 ∧ B.2.1 = A.2.1) ∨ (A.2.1 = 0 ∧ B.2.1 = 0 ∧ A.1 = B.1 ∧ scanFull B.2.2 0 zT = (l.take (k + 1) ++ [r], A.1, 0) ∧ scanFull B.2.2 1 zT = (l.take k ++ [o], after (tailAt l k) ⟨2, 0⟩ o, 0)) := by
  intro A B
  have hle := hL.le
  have hkl : k < l.length := by omega
  obtain ⟨e1, e2⟩ := tailAt_num (l := l) (i := k + 1) (by omega)
  have hnx : (tailAt l (k + 1)).next = (tailAt l k).next + sizeW o.length := by rw [tailAt_succ hkl, ho]; rfl
  have h00 : (0 : Int) ≤ (tailAt l k).next := end_le zT _
  have hLk := logged_elem hL hk
  have hcok := hL.on.std.ok.cfg
  rw [hL.cfg] at hcok
  have hN := logN_le (c := c)
  have hT : (tailAt l (k + 1)).ok := by
    unfold Cfg.ok at hcok
    rw [← ho] at hLk
    unfold Tl.ok
    rw [e1, e2]
    refine ⟨by omega, by omega, by omega, by omega, ?_⟩
    unfold Gn.ok0 gI
    split <;> simp only <;> omega
  have hgk : (⟨3, 0⟩ : Gn).ok := by unfold Gn.ok Gn.ok0; simp only; omega
  have hnew : (⟨3, 0⟩ : Gn).newer (tailAt l (k + 1)).gen := by
    rw [e2]; unfold Gn.newer gI; split <;> simp only <;> omega
  have hval : ∀ (s' : Sh) (d : Int), s'.cfg = c → (d = 0 ∨ d = 1) → validW s' d (tailAt l (k + 1)) := by
    intro s' d hc hd
    unfold validW; rw [hc]; exact ⟨by omega, by omega, hT⟩
  by_cases hr : r.length > 4096 ∨ (tailAt l (k + 1)).next + sizeW r.length > c.logN
  · left
    have key : ∀ (s' : Sh) (d : Int), s'.cfg = c → (d = 0 ∨ d = 1) → appendW s' d (tailAt l (k + 1)) ⟨3, 0⟩ r = (zT, if r.length > 4096 then 2 else 16, s') := by
      intro s' d hc hd
      unfold appendW
      rw [if_neg (fun hh => hh ⟨hval s' d hc hd, hgk.1⟩), if_neg (fun hh => hh hnew)]
      by_cases h3 : r.length > 4096
      · rw [if_pos h3, if_pos h3]
      · rw [if_neg h3, if_neg h3, if_pos (by rw [hc]; omega)]
    have hA : A = (zT, if r.length > 4096 then 2 else 16, s) := key s 0 h.cfg (.inl rfl)
    have hB : B = (zT, if r.length > 4096 then 2 else 16, A.2.2) := key A.2.2 1 (by rw [hA]; exact h.cfg) (.inr rfl)
    rw [hB, hA]
    exact ⟨by simp only; split <;> decide, rfl⟩
  · right
    have hr1 : ∀ (s' : Sh) (d : Int), s'.cfg = c → (d = 0 ∨ d = 1) → ¬ refused s' d (tailAt l (k + 1)) ⟨3, 0⟩ r := by
      intro s' d hc hd
      unfold refused
      simp only [not_or, Classical.not_not]
      exact ⟨⟨hval s' d hc hd, hgk.1⟩, hnew, by omega, by rw [hc]; omega⟩
    obtain ⟨a1, a2, a3, a4, a5, a6, a7⟩ := append_on h.on h.fused (hr1 s 0 h.cfg (.inl rfl))
    have hAc : A.2.2.cfg = c := a5.trans h.cfg
    obtain ⟨b1, b2, b3, b4, b5, b6, b7⟩ := append_on (s := A.2.2) a3 a4 (hr1 A.2.2 1 hAc (.inr rfl))
    have hBc : B.2.2.cfg = c := b5.trans hAc
    refine ⟨a1, b1, a2.trans b2.symm, ?_, ?_⟩
    · -- the first disk
      have hc1 : chain s1 0 zT (tagged 0 (l.take (k + 1))) (tailAt l (k + 1)) := by
        have hc := hL.chain
        have e : l.take n = l.take (k + 1) ++ (l.take n).drop (k + 1) := by
          have : (l.take n).take (k + 1) = l.take (k + 1) := by rw [List.take_take, Nat.min_eq_left (by omega)]
          rw [← this, List.take_append_drop]
        rw [e, tagged_app] at hc
        exact chain_take hc
      have hck : chain B.2.2 0 zT (tagged 0 (l.take (k + 1))) (tailAt l (k + 1)) := by
        refine chain_keep (hBc.trans hL.cfg.symm) hc1 fun j k1 k2 => ?_
        have k1 : (0 : Int) ≤ j := k1
        rw [b7 0 j (by omega) k1 (by omega), a7 0 j (by omega) k1 (by omega)]
        exact h.same j k1
      have hrec : recAt B.2.2 0 (tailAt l (k + 1)) ⟨3, 0⟩ r := by
        intro i hi
        rw [b7 0 _ (by omega) (by omega) (by omega)]
        exact a6 i hi
      have hch := chain_snoc hck hT hgk hnew (by omega) (by rw [hBc]; omega) hrec
      have hst : stopAt B.2.2 0 (after (tailAt l (k + 1)) ⟨3, 0⟩ r) := by
        by_cases e : (after (tailAt l (k + 1)) ⟨3, 0⟩ r).next ≥ B.2.2.cfg.logN
        · exact .inl e
        · right
          intro g p hopen hh
          have hnn : (after (tailAt l (k + 1)) ⟨3, 0⟩ r).next = (tailAt l (k + 1)).next + sizeW r.length := rfl
          rw [hBc] at e
          rw [b7 0 _ (by omega) (by omega) (by omega), a7 0 _ (by omega) (by omega) (by omega), h.same _ (by omega)] at hopen
          obtain ⟨q1, q2, q3⟩ := logged_at hL hdk (by omega) (by omega) hopen
          unfold headOK at hh
          have hnw := hh.1
          have eg : (parse g p).gen = g := rfl
          have eg2 : (after (tailAt l (k + 1)) ⟨3, 0⟩ r).gen = ⟨3, 0⟩ := rfl
          rw [eg, eg2] at hnw
          unfold Gn.newer at hnw
          simp only at hnw
          omega
      have := scan_all b3 (d := 0) (by show 0 ≤ (0 : Int) ∧ 0 < B.2.2.cfg.disks; rw [hBc]; omega) zT_ok hch hst
      show scanFull B.2.2 0 zT = (l.take (k + 1) ++ [r], A.1, 0)
      have ea : A.1 = after (tailAt l (k + 1)) ⟨3, 0⟩ r := a2
      rw [this, ea, List.map_append, tagged_snd]
      rfl
    · -- the second disk
      have hck : chain B.2.2 1 zT (tagged 0 (l.take k) ++ [(⟨2, 0⟩, o)]) (after (tailAt l k) ⟨2, 0⟩ o) := by
        refine chain_keep (hBc.trans h.cfg.symm) h.chain fun j k1 k2 => ?_
        have k1 : (0 : Int) ≤ j := k1
        have k2 : j < (tailAt l k).next + sizeW o.length := k2
        rw [b7 1 j (by omega) k1 (by omega), a7 1 j (by omega) k1 (by omega)]
      have hst : stopAt B.2.2 1 (after (tailAt l k) ⟨2, 0⟩ o) := by
        right
        intro g p hopen hh
        have hnn : (after (tailAt l k) ⟨2, 0⟩ o).next = (tailAt l (k + 1)).next + ((0 : Nat) : Int) := by rw [hnx]; show (tailAt l k).next + sizeW o.length = _; omega
        have hp := size_pos r.length
        have hrec := b6 0 (by omega)
        rw [hnn] at hopen
        have hrec' : B.2.2.vw 1 ((tailAt l (k + 1)).next + ((0 : Nat) : Int)) = _ := hrec
        rw [hrec'] at hopen
        rw [opened_seal (pl_ok (s := B.2.2) b3.std.ok (by rw [hBc]; omega) (by rw [hBc]; omega)) hgk pay_le] at hopen
        injection hopen with hopen
        injection hopen with g1 g2
        subst g2
        rw [parse_pay hT (by omega) (by omega)] at hh
        unfold headOK at hh
        have hb := hh.2.2.1
        have eb : (after (tailAt l k) ⟨2, 0⟩ o).gen = ⟨2, 0⟩ := rfl
        rw [eb] at hb
        simp only at hb
        rw [e2] at hb
        unfold gI at hb
        rw [if_neg (by omega)] at hb
        injection hb with hb1 hb2
        omega
      have := scan_all b3 (d := 1) (by show 0 ≤ (1 : Int) ∧ 1 < B.2.2.cfg.disks; rw [hBc]; omega) zT_ok hck hst
      show scanFull B.2.2 1 zT = _
      rw [this, List.map_append, tagged_snd]
      rfl

end Dn
