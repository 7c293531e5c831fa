/- Lemmas for a proof in several parts. -/
import Derived.Test.YtjnogknjdjphaaaGreatBaseCB1
import Derived.Lib.UnsafeStr
import Derived.Test.YtjnogknjdjphaaaGreatProg
set_option linter.unusedVariables false
set_option linter.unusedSimpArgs false
/-
  Open orders line by line; calls that touch no block; 32-bit words.
-/
namespace Dn
open Go

variable {P : Program} {m : Nat} {w : World} {L L1 L2 Lb : List (Nat × Obj)} {F : Fr} {T : Rg} {N : Rg → World → Prop} {l : List Ins} {d : Option Nat} {ty : TypeId} {K : Ex → Rg → World → Prop} {a : Cd}

theorem s_dr {t : DT} (h : EvT P (K .n) t T w.drew) : Ev P m (.dr t) K T w := h
theorem t_alt {a b : DT} (h1 : EvT P N a T w) (h2 : EvT P N b T w) : EvT P N (.alt a b) T w := ⟨h1, h2⟩
theorem t_done (h : N T w) : EvT P N .done T w := h
/-- One step of a tree, by a rule for lines. -/
theorem t_ins {i : Ins} {t : DT} (h : Evs P [i] (EvT P N t) T w) : EvT P N (.step i t) T w := h

/-- A function that touches no block it is given. -/
def PSpec (P : Program) (f : FuncId) (args : List Value) (v : Value) : Prop := DSpec P f args [] fun u L => u = v ∧ L = []
theorem e_callP {f : FuncId} {args : List X} {vs : List Value} {v : Value} (ha : T.evs args = vs) (hf : PSpec P f vs v) (S : Sep w L F) (h : ∀ w', Sep w' L F → Evs P l N (updO T d v) w') : Evs P (.op (.call d f args) :: l) N T w := by
  refine e_call (L1 := []) (L2 := L) ha hf (by simpa using S) ?_
  rintro _ _ w' ⟨rfl, rfl⟩ S'
  exact h w' (by simpa using S')
theorem e_cfP {x : X} {args : List X} {f : FuncId} {fs cs vs : List Value} {v : Value} (hx : T.ev x = .func (.func f) ⟨fs⟩ ⟨cs⟩) (hc : callable P f = true) (ha : fs ++ T.evs args ++ cs = vs) (hf : PSpec P f vs v) (S : Sep w L F)
    (h : ∀ w', Sep w' L F → Evs P l N (updO T d v) w') : Evs P (.op (.cf d x args) :: l) N T w := by
  refine e_cf (L1 := []) (L2 := L) hx hc ha hf (by simpa using S) ?_
  rintro _ _ w' ⟨rfl, rfl⟩ S'
  exact h w' (by simpa using S')
theorem pspec_of {f : FuncId} {fn : Func} {Fn : Fun} {mm : Nat} {body : Cd} {res : List RV} {args : List Value} {v : Value} (hmix : P.follows .mixedOrders = true) (hf : P.funcs[f]? = some fn) (hc : cF P fn = some Fn) (hF : Fn = ⟨mm, body, res⟩) (hn : Nat.ble args.length mm = true)
    (h : ∀ w F (Q : Value → World → Prop), Sep w [] F → (∀ u w' L', u = v → Sep w' L' F → Q u w') → Ev P mm body (finK res Q) (T0 args) w) : PSpec P f args v :=
  spec_of hmix hf hc hF hn fun w F Q S hQ => h w F Q S fun u w' L' hu S' => hQ u w' [] ⟨hu, rfl⟩ (Sep.drop (L2 := L') (by simpa using S'))

/-! ### words of 32 bits -/
abbrev u32 (x : BitVec 32) : Value := .int .u32 (x.toNat : Int)
theorem ofInt_u (x : BitVec 32) : BitVec.ofInt 32 (x.toNat : Int) = x := by apply BitVec.eq_of_toNat_eq; simp [BitVec.toNat_ofInt]
theorem wrap_u32n (n : Nat) (h : n < 4294967296) : IntKind.u32.wrap (n : Int) = n := by rw [wrap_u32]; omega
theorem ar_xor32 (a b : BitVec 32) : arV .xor (u32 a) (u32 b) = some (u32 (a ^^^ b)) := by
  simp only [arV, kEq, cond_true]
  show some (Value.int .u32 (IntKind.u32.wrap ((BitVec.ofInt 32 (a.toNat : Int) ^^^ BitVec.ofInt 32 (b.toNat : Int)).toNat : Int))) = _
  rw [ofInt_u, ofInt_u, wrap_u32n _ (a ^^^ b).isLt]
theorem ar_and32 (a b : BitVec 32) : arV .and (u32 a) (u32 b) = some (u32 (a &&& b)) := by
  simp only [arV, kEq, cond_true]
  show some (Value.int .u32 (IntKind.u32.wrap ((BitVec.ofInt 32 (a.toNat : Int) &&& BitVec.ofInt 32 (b.toNat : Int)).toNat : Int))) = _
  rw [ofInt_u, ofInt_u, wrap_u32n _ (a &&& b).isLt]
theorem un_not32 {T : Rg} {x : X} {a : BitVec 32} (h : T.ev x = u32 a) : (PE.un .xor x).ev T = some (u32 (~~~ a)) := by
  simp only [PE.ev, h]
  show some (Value.int .u32 (IntKind.u32.wrap ((BitVec.ofInt 32 (4294967295 : Int) ^^^ BitVec.ofInt 32 (a.toNat : Int)).toNat : Int))) = _
  rw [ofInt_u, wrap_u32n _ (BitVec.isLt _)]
  congr 3
theorem un_neg32 {T : Rg} {x : X} {a : BitVec 32} (h : T.ev x = u32 a) : (PE.un .neg x).ev T = some (u32 (- a)) := by
  simp only [PE.ev, h]
  congr 2
  rw [wrap_u32, BitVec.toNat_neg]
  have := a.isLt
  omega
theorem ar_shr32 (a : BitVec 32) (k : Nat) (hk : k ≤ 32) : arV .shr (u32 a) (.int .u64 (k : Int)) = some (u32 (a >>> k)) := by
  simp only [arV]
  rw [if_neg (by omega)]
  congr 2
  have e : min ((k : Int)).toNat (IntKind.u32).bits = k := by show min k 32 = k; omega
  rw [e, BitVec.toNat_ushiftRight, Nat.shiftRight_eq_div_pow]
  rw [show ((2 : Int) ^ k) = ((2 ^ k : Nat) : Int) from by simp]
  rw [Int.fdiv_eq_ediv_of_nonneg _ (Int.natCast_nonneg _)]
  rfl

/-! the rules under short names -/
variable {b : Cd}
theorem Jc (h : N T w) : Evs P [] N T w := e_nil h
theorem Jd (h : Ev P m b K T w) : thenK (Ev P m b K) K .n T w := k_then h
theorem Je (h : K .n T w) : Ev P m .skip K T w := s_skip h
theorem Jf {id : Nat} (h : Ev P m a (blkK id K) T w) : Ev P m (.blk id a) K T w := s_blk h
theorem Jg {id : Nat} (h : K .n T w) : blkK id K .n T w := k_bln h
theorem Jh {id : Nat} (h : K (.x id) T w) : Ev P m (.exit id) K T w := s_exit h
theorem Ji {id : Nat} (h : K (.x id) T w) : thenK N K (.x id) T w := k_thx h
theorem Jj {id : Nat} (h : K .n T w) : blkK id K (.x id) T w := k_blx h
theorem Jk {i id : Nat} (e : Nat.beq i id = false) (h : K (.x i) T w) : blkK id K (.x i) T w := k_bly e h
theorem Jl (h : K .r T w) : Ev P m .ret K T w := s_ret h
theorem Jm (h : K .r T w) : thenK N K .r T w := k_thr h
theorem Jn {id : Nat} (h : K .r T w) : blkK id K .r T w := k_blr h
theorem Jp {i : Ins} {t : DT} (h : Evs P [i] (EvT P N t) T w) : EvT P N (.step i t) T w := t_ins h
theorem Jq (h : N T w) : EvT P N .done T w := t_done h
theorem JJ {r : Nat} {t : Bool} {o : Bop} (hc : T.f r = .bool t) (h : Evs P (.op o :: l) N T w) : Evs P (.gd r t d o :: l) N T w := e_gdT hc h
theorem JK {r : Nat} {t : Bool} {o : Bop} (hc : T.f r = .bool (!t)) (h : Evs P l N (updO T d undef) w) : Evs P (.gd r t d o :: l) N T w := e_gdF hc h
theorem JQ {r : Nat} {t : Bool} {o : Bop} (hc : T.f r = undef) (h : Evs P l N (updO T d undef) w) : Evs P (.gd r t d o :: l) N T w := e_gdU hc h
theorem JL {c x y : X} {b : Bool} (hc : T.ev c = .bool true) (hv : T.ev x = .bool b) (h : Evs P l N (updO T d (.bool b)) w) : Evs P (.op (.pk d c x y) :: l) N T w := e_pkTB hc hv h
theorem JM {c x y : X} {b : Bool} (hc : T.ev c = .bool false) (hv : T.ev y = .bool b) (h : Evs P l N (updO T d (.bool b)) w) : Evs P (.op (.pk d c x y) :: l) N T w := e_pkFB hc hv h
theorem JN {c : X} (hc : T.ev c = .bool true) (h : Ev P m a K T w) : Ev P m (.ite c a b) K T w := s_iteT hc h
theorem JO {c : X} (hc : T.ev c = .bool false) (h : Ev P m b K T w) : Ev P m (.ite c a b) K T w := s_iteF hc h
theorem JP {e : PE} {v : Value} (hv : e.ev T = some v) (h : Evs P l N (updO T d v) w) : Evs P (.op (.p d e) :: l) N T w := e_p hv h

/-! the rules that only move through code, as instances of one class; lines that only compute, by reduction -/
class Nv (g : Prop) (s : outParam Prop) : Prop where
  r : s → g
theorem J {g s : Prop} [i : Nv g s] (h : s) : g := i.r h
instance : Nv (Ev P m (.seq a b) K T w) (Ev P m a (thenK (Ev P m b K) K) T w) := ⟨s_seq⟩
instance : Nv (Ev P m (.ops l false) K T w) (Evs P l (K .n) T w) := ⟨s_ops⟩
instance : Nv (Evs P [] N T w) (N T w) := ⟨e_nil⟩
instance : Nv (thenK (Ev P m b K) K .n T w) (Ev P m b K T w) := ⟨k_then⟩
instance : Nv (Ev P m .skip K T w) (K .n T w) := ⟨s_skip⟩
instance {id : Nat} : Nv (Ev P m (.blk id a) K T w) (Ev P m a (blkK id K) T w) := ⟨s_blk⟩
instance {id : Nat} : Nv (blkK id K .n T w) (K .n T w) := ⟨k_bln⟩
instance {id : Nat} : Nv (Ev P m (.exit id) K T w) (K (.x id) T w) := ⟨s_exit⟩
instance {id : Nat} : Nv (thenK N K (.x id) T w) (K (.x id) T w) := ⟨k_thx⟩
instance {id : Nat} : Nv (blkK id K (.x id) T w) (K .n T w) := ⟨k_blx⟩
instance : Nv (Ev P m .ret K T w) (K .r T w) := ⟨s_ret⟩
instance : Nv (thenK N K .r T w) (K .r T w) := ⟨k_thr⟩
instance {id : Nat} : Nv (blkK id K .r T w) (K .r T w) := ⟨k_blr⟩
instance {t : DT} : Nv (Ev P m (.dr t) K T w) (EvT P (K .n) t T w.drew) := ⟨s_dr⟩
instance {i : Ins} {t : DT} : Nv (EvT P N (.step i t) T w) (Evs P [i] (EvT P N t) T w) := ⟨t_ins⟩
instance : Nv (EvT P N .done T w) (N T w) := ⟨t_done⟩

def stepL : List Value → (List Value → Prop) → Prop
  | [], f => f []
  | a :: l, f => stepL l fun l => f (a :: l)
theorem stepL_eq : ∀ (l : List Value) (f : List Value → Prop), stepL l f = f l
  | [], _ => rfl
  | _ :: l, f => stepL_eq l _
def stepV (f : Value → Prop) : Option Value → Prop
  | some (.int k n) => f (.int k n)
  | some (.bool b) => f (.bool b)
  | some (.pointer a) => f (.pointer a)
  | some (.slice a n c) => f (.slice a n c)
  | some (.string s) => f (.string s)
  | some (.agg c) => f (.agg c)
  | some (.tuple c) => f (.tuple c)
  | some (.map r) => f (.map r)
  | some (.func g a b) => f (.func g a b)
  | _ => False
theorem stepV_ok {f : Value → Prop} : ∀ {o : Option Value}, stepV f o → ∃ v, o = some v ∧ f v := by
  intro o h
  unfold stepV at h
  split at h <;> first | exact ⟨_, rfl, h⟩ | exact h.elim
def stepB (f : Value → Prop) : Option Value → Prop
  | some (.agg ⟨c⟩) => stepL c fun c => f (.agg ⟨c⟩)
  | _ => False
theorem JV {e : PE} (h : stepV (fun v => Evs P l N (updO T d v) w) (e.ev T)) : Evs P (.op (.p d e) :: l) N T w := by
  obtain ⟨v, hv, h⟩ := stepV_ok h
  exact e_p hv h
theorem JX {z : List Value} {ps : List (Nat × Nat × X)} (h : stepB (fun v => Evs P l N (updO T d v) w) ((PE.bld z ps).ev T)) : Evs P (.op (.p d (.bld z ps)) :: l) N T w := by
  unfold stepB at h
  split at h
  · rename_i c hc
    rw [stepL_eq] at h
    exact e_p hc h
  · exact h.elim

end Dn

/-
  append of zeros, copy, a string over a row; bytes.
-/
namespace Dn
open Go

variable {P : Program} {m : Nat} {w : World} {L L1 L2 Lb : List (Nat × Obj)} {F : Fr} {T : Rg} {N : Rg → World → Prop} {l : List Ins} {d : Option Nat} {ty : TypeId} {K : Ex → Rg → World → Prop} {a : Cd}

theorem raw_builtin {b : Go.Builtin} {x y : Operand} {ts : Array TypeId} {v : Value} {w' : World} {s : Sem Value} (hb : ∀ cs, builtin b ts ty cs #[T.evR x, T.evR y] = (do pure (.value (← s)))) (hr : s.run P w = .ok v w') :
    (rawSem T (.call (.mk (.builtin b) #[x, y] ts)) ty).run P w = .ok (.value v) w' := by
  simp only [rawSem, execOp, resolve, Sem.run_bind, Sem.run_pure, Result.andThen_ok, invoke, List.map_toArray, List.map_cons, List.map_nil, hb, hr]

/-- append(v, make([]T, k)...), the zero one cell. -/
theorem e_appz {t ti e : TypeId} {i : TypeInfo} {u : Value} {k n cap : Nat} {kd : IntKind} {ad : Option Addr} {xs : List Value} {x y : Operand} (S : Sep w (L ++ Lb) F) (hO : OwnS e 1 ad n cap xs Lb)
    (hx : T.evR x = .slice ad n cap) (hy : T.evR y = .int .i64 (k : Int)) (ht : P.underlying t = some (.slice e)) (hti : P.underlying ti = some (.int kd)) (hi : P.info? e = some i) (hz : i.zero = some u) (hsz : i.size = 1) (hzs : u.cells = #[u]) (hfl : Value.flat u = true)
    (hby : i.bytes = 1) (hfit : n + k ≤ 1000000)
    (h : ∀ ad' cap' Lb' w', OwnS e 1 ad' (n + k) cap' (xs ++ List.replicate k u) Lb' → Sep w' (L ++ Lb') F → Evs P l N (updO T d (.slice ad' (n + k) cap')) w') :
    Evs P (.op (.raw d (.call (.mk (.builtin .append) #[x, y] #[t, ti])) ty) :: l) N T w := by
  have hw : IntKind.i64.wrap (k : Int) = k := wrap_id (by omega) (by omega)
  have hai : (asInt (.int .i64 (k : Int))).run P w = .ok (k : Int) w := by simp [asInt, asIntOf]
  have hzr : (P.info? e).bind (·.zero) = some u := by rw [hi]; exact hz
  have hzc : ∀ j, Builtin.zeroCells u.cells j = (List.replicate j u).toArray := by
    intro j
    rw [hzs]
    apply Array.ext'
    simp only [Builtin.zeroCells, List.size_toArray, Array.toList_map, Array.toList_range, List.length_cons, List.length_nil, Nat.mul_one]
    apply List.ext_getElem
    · simp
    · intro q h1 h2
      simp [Nat.mod_one]
  have hk0 : ¬ ((k : Int) < 0) := by omega
  have hk1 : ¬ (281474976710656 < (k : Int) * 1) := by omega
  have hkn : ((k : Int)).toNat = k := by omega
  have hlen : (xs ++ List.replicate k u).length = (n + k) * 1 := by rw [List.length_append, hO.len]; simp
  -- the number
  by_cases hroom : n + k ≤ cap
  · rcases hO.own with ⟨rfl, rfl, rfl⟩ | ⟨b, sp, lo, hi', rfl, hsp, hfr, rfl⟩
    · have hn : n = 0 := by omega
      have hk : k = 0 := by omega
      subst hn; subst hk
      refine e_raw (w' := w) (v := .slice none 0 0) (raw_builtin (s := Builtin.append_ #[t, ti] ty #[T.evR x, T.evR y]) (fun cs => rfl) ?_) (by have := h none 0 [] w ⟨by simpa using hlen, by omega, .inl ⟨rfl, rfl, by simp⟩⟩ S; simpa using this)
      rw [hx, hy]
      simp only [Int.ofNat_zero, Int.natCast_zero] at hw hai
      simp [Builtin.append_, run_underlying ht, run_underlying hti, Go.sizeOf, typeInfo, hi, hai, hw]
    · have hb := S.at_ b _ (by simp : (b, Obj.cells ⟨xs ++ sp⟩ e (lo, hi')) ∈ L ++ [(b, Obj.cells ⟨xs ++ sp⟩ e (lo, hi'))])
      have hcs : xs.length = n := by rw [hO.len]; simp
      have hsp' : sp.length = cap - n := by rw [hsp]; simp
      have hst := storeCells_run (P := P) (a := ⟨b, n, none⟩) (ty := e) (lo := lo) (hi := hi') rfl (List.replicate k u) 0 w (xs ++ sp) hb (fun v hv => by rw [List.eq_of_mem_replicate hv]; exact hfl) (by simp [hcs, hsp']; omega) (by
        intro j h1 h2 hh
        simp only [Nat.add_zero, List.length_replicate] at h1 h2
        rcases hfr with hfr | hfr <;> omega)
      simp only [Nat.add_zero] at hst
      have hput : putAt (xs ++ sp) n (List.replicate k u) = (xs ++ List.replicate k u) ++ sp.drop k := by
        unfold putAt
        rw [List.take_append_of_le_length (by omega), List.take_of_length_le (by omega), List.append_assoc]
        congr 2
        rw [List.drop_append, List.drop_eq_nil_of_le (by simp; omega), List.nil_append]
        congr 1; simp; omega
      have hS : ∀ w', Sep w' (L ++ [(b, .cells ⟨xs ++ List.replicate k u ++ sp.drop k⟩ e (lo, hi'))]) F → Evs P l N (updO T d (.slice (some ⟨b, 0, none⟩) (n + k) cap)) w' := fun w' S' =>
        h _ _ _ w' ⟨hlen, hroom, .inr ⟨b, sp.drop k, lo, hi', rfl, by rw [List.length_drop, hsp']; omega, hfr, rfl⟩⟩ S'
      have hadd : (Addr.add ⟨b, 0, none⟩ (n * 1)) = ⟨b, n, none⟩ := by rw [addr_add]; simp
      by_cases hk : k = 0
      · subst hk
        refine e_raw (w' := w) (v := .slice (some ⟨b, 0, none⟩) (n + 0) cap) (raw_builtin (s := Builtin.append_ #[t, ti] ty #[T.evR x, T.evR y]) (fun cs => rfl) ?_) (hS w (by simpa using S))
        rw [hx, hy]
        simp only [Int.ofNat_zero, Int.natCast_zero] at hw hai
        simp only [Nat.add_zero] at hroom
        simp [Builtin.append_, run_underlying ht, run_underlying hti, Go.sizeOf, typeInfo, hi, hai, hw, hroom, storeCells]
      · have hne : ¬ (List.replicate k u = []) := by simpa using hk
        rw [if_neg hne, hput] at hst
        refine e_raw (v := .slice (some ⟨b, 0, none⟩) (n + k) cap) (raw_builtin (s := Builtin.append_ #[t, ti] ty #[T.evR x, T.evR y]) (fun cs => rfl) ?_) (hS _ (by
          have := S.put L.length (b := b) (o := .cells ⟨xs ++ sp⟩ e (lo, hi')) (by simp) (.cells ⟨xs ++ List.replicate k u ++ sp.drop k⟩ e (lo, hi'))
          simpa using this))
        rw [hx, hy]
        have hk1' : ¬ (281474976710656 < (k : Int)) := by omega
        have hadd' : (Addr.add ⟨b, 0, none⟩ n) = ⟨b, n, none⟩ := by rw [addr_add]; simp
        simp [Builtin.append_, run_underlying ht, run_underlying hti, Go.sizeOf, typeInfo, zeroValue, hi, hz, hai, hw, hsz, hby, hk, hk0, hk1', hroom, hzc, hadd', hst]
  · have hg : cap < n + k := by omega
    have hold : (Builtin.firstCells 1 n (.slice ad n cap)).run P w.drew = .ok xs.toArray w.drew := by
      cases ad with
      | none =>
        rcases hO.own with ⟨_, hc, hL⟩ | ⟨b, sp, lo, hi', h', _⟩
        · have hn : n = 0 := by have := hO.le; omega
          have : xs = [] := List.eq_nil_of_length_eq_zero (by rw [hO.len, hn])
          subst this
          exact run_firstCells_none w.drew 1 n n cap
        · simp at h'
      | some a =>
        simp only [Builtin.firstCells]
        exact rowOf_run (hO.rowOf S.drew)
    have hr : (Builtin.append_ #[t, ti] ty #[T.evR x, T.evR y]).run P w = .ok (.slice (some ⟨w.heap.size, 0, none⟩) (n + k) (grownCap w (n + k) cap e)) (w.drew.alloc (.cells ⟨xs ++ List.replicate k u ++ List.replicate (grownCap w (n + k) cap e - (n + k)) u⟩ e)) := by
      have h48 : Builtin.nextslicecap (n + k) cap * 1 ≤ 281474976710656 := growslice_fits (by omega) (by omega)
      have h48' : ¬ (281474976710656 < Builtin.nextslicecap (n + k) cap) := by omega
      have h63 : ¬ (9223372036854775807 < ((n : Int) + (k : Int))) := by omega
      rw [hx, hy]
      have hk : k = 0 ∨ k ≠ 0 := by omega
      have hn : ¬ (n + k ≤ cap) := by omega
      rcases hk with rfl | hk
      · simp only [Nat.add_zero] at hn h48' ⊢
        simp only [Int.natCast_zero, Int.add_zero] at hw hai h63
        have := hO.le
        omega
      · simp [Builtin.append_, run_underlying ht, run_underlying hti, Go.sizeOf, typeInfo, zeroValue, hi, hz, hai, hw, hsz, hby, hk, hk0, hn, h48', h63, Question.forced, hold, newRow, grownCap, hzc]
        have hk1' : ¬ (281474976710656 < (k : Int)) := by omega
        simp [hk1', hn, h63, h48', Question.forced, hold, newRow, hzc]
        congr 2
        apply Array.ext'
        simp
    refine e_raw (raw_builtin (s := Builtin.append_ #[t, ti] ty #[T.evR x, T.evR y]) (fun cs => rfl) hr) ?_
    have hge := grownCap_ge w (n + k) cap e
    refine h _ _ [(w.heap.size, .cells ⟨xs ++ List.replicate k u ++ List.replicate (grownCap w (n + k) cap e - (n + k)) u⟩ e)] _ ⟨hlen, hge, .inr ⟨_, _, 0, 0, rfl, by simp, .inl (Nat.le_refl _), rfl⟩⟩ ?_
    have S2 := (S.drew.alloc (.cells ⟨xs ++ List.replicate k u ++ List.replicate (grownCap w (n + k) cap e - (n + k)) u⟩ e)).perm (L1 := L ++ ((w.heap.size, .cells ⟨xs ++ List.replicate k u ++ List.replicate (grownCap w (n + k) cap e - (n + k)) u⟩ e) :: Lb)) List.perm_middle.symm
    rcases hO.own with ⟨_, _, hL⟩ | ⟨b, sp, lo, hi', _, _, _, hL⟩
    · rw [hL] at S2; exact S2
    · rw [hL] at S2
      refine Sep.drop (L2 := [(b, .cells ⟨xs ++ sp⟩ e (lo, hi'))]) (S2.perm ?_)
      rw [show ∀ (p q : Nat × Obj), L ++ [p, q] = (L ++ [p]) ++ [q] by intros; simp]
      exact List.perm_append_singleton _ _

end Dn

/-
  copy, a string over a row; bytes and numbers.
-/
namespace Dn
open Go

variable {P : Program} {m : Nat} {w : World} {L L1 L2 Lb : List (Nat × Obj)} {F : Fr} {T : Rg} {N : Rg → World → Prop} {l : List Ins} {d : Option Nat} {ty : TypeId} {K : Ex → Rg → World → Prop} {a : Cd}

/-- copy(dst, src), all of the source going in. -/
theorem e_copy {t tx e ty' : TypeId} {i : TypeInfo} {b off dn dc k : Nat} {cs ys : List Value} {x y : Operand} (S : Sep w L F) (j : Nat) (hx : T.evR x = .slice (some ⟨b, off, none⟩) dn dc) (hL : L[j]? = some (b, .cells ⟨cs⟩ ty')) (hs : Src P i.size tx (T.evR y) k ys w) (hk : k ≤ dn)
    (ht : P.underlying t = some (.slice e)) (hi : P.info? e = some i) (hfit : off + ys.length ≤ cs.length)
    (h : ∀ w', Sep w' (L.set j (b, .cells ⟨putAt cs off ys⟩ ty')) F → Evs P l N (updO T d (.int .i64 (k : Int))) w') :
    Evs P (.op (.raw d (.call (.mk (.builtin .copy) #[x, y] #[t, tx])) ty) :: l) N T w := by
  have hb := S.at_ _ _ (Sep.mem hL)
  have hst := storeCells_run (P := P) (a := ⟨b, off, none⟩) (ty := ty') (lo := 0) (hi := 0) rfl ys 0 w cs hb (fun v hv => one_flat (hs.one v hv)) (by simpa using hfit) (by intro j h1 h2; omega)
  simp only [Nat.add_zero] at hst
  have hmin : Nat.min k dn = k := Nat.min_eq_left hk
  have hr : (Builtin.copy_ #[t, tx] ty #[T.evR x, T.evR y]).run P w = .ok (.int .i64 (k : Int)) (if ys = [] then w else w.putObj b (.cells ⟨putAt cs off ys⟩ ty')) := by
    rw [hx]
    simp [Builtin.copy_, run_underlying ht, hs.len, hmin, Go.sizeOf, typeInfo, hi, hs.cells, hst, goInt]
  refine e_raw (raw_builtin (s := Builtin.copy_ #[t, tx] ty #[T.evR x, T.evR y]) (fun _ => rfl) hr) ?_
  by_cases hy : ys = []
  · rw [if_pos hy]
    refine h w ?_
    subst hy
    have : L.set j (b, .cells ⟨putAt cs off []⟩ ty') = L := by
      have e : putAt cs off [] = cs := by simp [putAt]
      rw [e]
      apply List.ext_getElem?
      intro q
      rw [List.getElem?_set]
      split
      · rename_i hq; subst hq
        split
        · exact hL.symm
        · rename_i hh; rw [List.getElem?_eq_none (by simpa using hh)] at hL; simp at hL
      · rfl
    rw [this]; exact S
  · rw [if_neg hy]
    exact h _ (S.put j hL _)

/-- a string over a row of bytes, of which no more is wanted. -/
theorem e_ustr {pt it e : TypeId} {b cap : Nat} {s : List UInt8} {x y : Operand} {fr : Nat × Nat} (S : Sep w ((b, .cells ⟨s.map fun b => .int .u8 (b.toNat : Int)⟩ e fr) :: L) F) (hx : T.evR x = .pointer (some ⟨b, 0, none⟩)) (hy : T.evR y = .int .i64 (s.length : Int))
    (hp : P.underlying pt = some (.pointer e)) (hc : P.cellsOf e = 1) (h0 : s ≠ []) (hn : s.length ≤ 1000000)
    (h : ∀ w', Sep w' L F → Evs P l N (updO T d (.string ⟨⟨s⟩⟩)) w') : Evs P (.op (.raw d (.call (.mk (.builtin .unsafeString) #[x, y] #[pt, it])) ty) :: l) N T w := by
  have hb := S.at_ b _ (List.mem_cons_self ..)
  have hr := Go.Lib.run_unsafeString_row (P := P) w pt it ty e hp hc b s.length (by unfold World.shape?; simp [hb]) s h0 (Nat.le_refl _) (by omega) (by
    intro j x hj
    rw [addr_add]
    simp only [World.cell?, hb, Nat.zero_add]
    simp [hj])
  refine e_raw (raw_builtin (s := Builtin.unsafeString_ #[pt, it] ty #[T.evR x, T.evR y]) (fun _ => rfl) (by rw [hx, hy]; exact hr)) (h _ ?_)
  have key : ∃ o', w.freeze ⟨b, 0, none⟩ s.length = w.putObj b o' := by
    have hlt' : b < w.heap.size := (Array.getElem?_eq_some_iff.1 hb).1
    have hb' : w.heap[b] = Obj.cells ⟨s.map fun b => .int .u8 (b.toNat : Int)⟩ e fr := by rw [Array.getElem?_eq_getElem hlt'] at hb; exact Option.some.inj hb
    have hs0 : ¬ (s.length = 0) := by simpa using h0
    obtain ⟨lo, hi⟩ := fr
    refine ⟨.cells ⟨s.map fun b => .int .u8 (b.toNat : Int)⟩ e (if lo == hi then (0, 0 + s.length) else (min lo 0, max hi (0 + s.length))), ?_⟩
    unfold World.freeze World.putObj
    rw [if_neg hs0]
    congr 1
    apply Array.ext_getElem?
    intro j
    rw [Array.getElem?_modify, Array.getElem?_setIfInBounds]
    by_cases hj : b = j
    · subst hj
      simp only [if_true, hlt']
      rw [Array.getElem?_eq_getElem hlt', hb']
      rfl
    · simp [hj]
  obtain ⟨o', e⟩ := key
  rw [e]
  exact Sep.drop (L2 := [_]) (S.put 0 rfl o')

theorem ar_xor8 (a b : Nat) (ha : a < 256) (hb : b < 256) : arV .xor (.int .u8 (a : Int)) (.int .u8 (b : Int)) = some (.int .u8 ((a ^^^ b : Nat) : Int)) := by
  simp only [arV, kEq, cond_true]
  show some (Value.int .u8 (IntKind.u8.wrap ((BitVec.ofInt 8 (a : Int) ^^^ BitVec.ofInt 8 (b : Int)).toNat : Int))) = _
  have h : a ^^^ b < 256 := Nat.xor_lt_two_pow (n := 8) ha hb
  have e : (BitVec.ofInt 8 (a : Int) ^^^ BitVec.ofInt 8 (b : Int)).toNat = a ^^^ b := by
    rw [BitVec.toNat_xor, BitVec.toNat_ofInt, BitVec.toNat_ofInt]
    have e1 : ((a : Int) % ((2 ^ 8 : Nat) : Int)).toNat = a := by omega
    have e2 : ((b : Int) % ((2 ^ 8 : Nat) : Int)).toNat = b := by omega
    rw [e1, e2]
  rw [e, wrap_u8]
  congr 2; omega

end Dn

/-
  CRC-32C: what the program's table and register make.
-/
namespace Dn
open Go

def crcBit (r : BitVec 32) : BitVec 32 := (r >>> 1) ^^^ (2197175160#32 &&& -(r &&& 1#32))
def crcIt : Nat → BitVec 32 → BitVec 32
  | 0, r => r
  | k + 1, r => crcBit (crcIt k r)
def crcT (i : Nat) : BitVec 32 := crcIt 8 (BitVec.ofNat 32 i)
def crcStep (r : BitVec 32) (b : UInt8) : BitVec 32 := (r >>> 8) ^^^ crcT ((r.toNat % 256) ^^^ b.toNat)
def crcReg (r : BitVec 32) (l : List UInt8) : BitVec 32 := l.foldl crcStep r
def crcOf (l : List UInt8) : BitVec 32 := ~~~ (crcReg (~~~ 0#32) l)

def tabTo (n : Nat) : List Value := (List.range n).map fun i => u32 (crcT i)
theorem tabTo_len (n : Nat) : (tabTo n).length = n := by simp [tabTo]

end Dn

/-
  A disk's memory, and what its methods make of it.
-/
namespace Dn
open Go

abbrev Sec := List UInt8
def bv (b : UInt8) : Value := .int .u8 (b.toNat : Int)
def bcells (s : Sec) : List Value := s.map bv
def encS (s : Sec) : Value := .agg ⟨bcells s⟩
def encI (n : Int) : Value := .int .i64 n

@[simp] theorem bcells_len (s : Sec) : (bcells s).length = s.length := by simp [bcells]
theorem bcells_flat (s : Sec) : ∀ v ∈ bcells s, Value.flat v = true := by
  intro v hv
  obtain ⟨b, _, rfl⟩ := List.mem_map.1 hv
  rfl
def zsec : Sec := List.replicate 64 0
@[simp] theorem zsec_len : zsec.length = 64 := rfl

structure Dk where
  q : Nat
  b : Nat
  c : Nat
  a : Nat
  dur : List Sec
  cache : GM Sec
  armed : GM Int

def Dk.hd (d : Dk) : List Value := [.slice (some ⟨d.b, 0, none⟩) d.dur.length d.dur.length, .map (some d.c), .map (some d.a)]
def Dk.L (d : Dk) : List (Nat × Obj) :=
  [(d.q, .cells ⟨d.hd⟩ 223), (d.b, .cells ⟨d.dur.flatMap bcells⟩ 244), (d.c, d.cache.obj Dn.encS), (d.a, d.armed.obj Dn.encI)]
def Dk.v (d : Dk) : Value := .pointer (some ⟨d.q, 0, none⟩)

def Dk.has (d : Dk) (i : Int) : Bool := decide (0 ≤ i) && decide (i < (d.dur.length : Int))
def Dk.write (d : Dk) (i : Int) (s : Sec) : Dk :=
  let to := (d.armed.get i).getD i
  if to = -1 then { d with armed := d.armed.del i } else { d with armed := d.armed.del i, cache := d.cache.set to s }
theorem Dk.write_to {d : Dk} {i to : Int} {s : Sec} (h : (d.armed.get i).getD i = to) (hn : ¬ to = -1) : d.write i s = { d with armed := d.armed.del i, cache := d.cache.set to s } := by
  unfold Dk.write; rw [h]; simp only [if_neg hn]
theorem Dk.write_lost {d : Dk} {i : Int} {s : Sec} (h : (d.armed.get i).getD i = -1) : d.write i s = { d with armed := d.armed.del i } := by
  unfold Dk.write; rw [h]; rfl
def Dk.sec (d : Dk) (i : Nat) : Sec := d.dur.getD i []
def Dk.read (d : Dk) (i : Nat) : Sec := (d.cache.get i).getD (d.sec i)

/-- All sectors have 64 bytes. -/
def Dk.ok (d : Dk) : Prop := (∀ s ∈ d.dur, s.length = 64) ∧ (∀ e ∈ d.cache.es, e.2.1.length = 64)

theorem GM.find_mem {α : Type} {k : Int} : ∀ {l : List (Int × α × Nat)} {v : α}, GM.find k l = some v → ∃ b, (k, v, b) ∈ l := by
  intro l
  induction l with
  | nil => intro v h; simp [GM.find] at h
  | cons e l ih =>
    intro v h
    simp only [GM.find] at h
    split at h
    · rename_i hk
      injection h with h
      exact ⟨e.2.2, by subst hk; subst h; simp⟩
    · obtain ⟨b, hb⟩ := ih h
      exact ⟨b, List.mem_cons_of_mem _ hb⟩
theorem Dk.ok_get {d : Dk} (h : d.ok) {i : Int} {s : Sec} (hg : d.cache.get i = some s) : s.length = 64 := by
  obtain ⟨b, hb⟩ := GM.find_mem hg
  exact h.2 _ hb

theorem flat_drop {dur : List Sec} (h : ∀ s ∈ dur, s.length = 64) {i : Nat} (hi : i < dur.length) : ((dur.flatMap bcells).drop (i * 64)).take 64 = bcells dur[i] := by
  induction dur generalizing i with
  | nil => simp at hi
  | cons s dur ih =>
    have hs := h s (by simp)
    have hl : (bcells s).length = 64 := by simp [bcells, hs]
    cases i with
    | zero => simp [List.flatMap_cons, List.take_append, hl]
    | succ i =>
      have : (i + 1) * 64 = (bcells s).length + i * 64 := by rw [hl]; omega
      rw [List.flatMap_cons, this, ← List.drop_drop, List.drop_left]
      simpa using ih (fun s hs => h s (by simp [hs])) (by simpa using hi)

theorem flat_len {dur : List Sec} (h : ∀ s ∈ dur, s.length = 64) : (dur.flatMap bcells).length = dur.length * 64 := by
  induction dur with
  | nil => rfl
  | cons s dur ih =>
    have hs := h s (by simp)
    rw [List.flatMap_cons, List.length_append, ih (fun s hs => h s (by simp [hs]))]
    simp [bcells, hs]; omega

end Dn

/-
  Numbers as bytes; places, generations, sectors: the plain side.
-/
namespace Dn
open Go

def leB : Nat → Nat → Sec
  | 0, _ => []
  | k + 1, n => UInt8.ofNat n :: leB k (n / 256)
@[simp] theorem leB_len : ∀ (k n : Nat), (leB k n).length = k
  | 0, _ => rfl
  | k + 1, n => by simp [leB, leB_len k]
theorem leB_succ : ∀ (k n : Nat), leB (k + 1) n = leB k n ++ [UInt8.ofNat (n / 256 ^ k)]
  | 0, n => by simp [leB]
  | k + 1, n => by
    rw [leB, leB_succ k (n / 256)]
    simp only [leB, List.cons_append]
    rw [Nat.div_div_eq_div_mul, Nat.pow_succ, Nat.mul_comm 256]
def leN : Sec → Nat
  | [] => 0
  | b :: l => b.toNat + 256 * leN l
theorem leN_lt : ∀ (l : Sec), leN l < 256 ^ l.length
  | [] => by simp [leN]
  | b :: l => by
    have := leN_lt l
    have hb := UInt8.toNat_lt b
    simp only [leN, List.length_cons, Nat.pow_succ]
    omega
theorem leN_leB : ∀ (k n : Nat), n < 256 ^ k → leN (leB k n) = n
  | 0, n, h => by simp at h; subst h; rfl
  | k + 1, n, h => by
    rw [Nat.pow_succ] at h
    simp only [leB, leN]
    rw [leN_leB k (n / 256) (by rw [Nat.div_lt_iff_lt_mul (by omega)]; exact h)]
    simp only [UInt8.toNat_ofNat']
    omega
theorem leN_app : ∀ (a b : Sec), leN (a ++ b) = leN a + 256 ^ a.length * leN b
  | [], b => by simp [leN]
  | x :: a, b => by
    simp only [List.cons_append, leN, leN_app a b, List.length_cons, Nat.pow_succ, Nat.mul_add]
    rw [show 256 * (256 ^ a.length * leN b) = 256 ^ a.length * 256 * leN b by rw [← Nat.mul_assoc, Nat.mul_comm 256]]
    omega

/-- a place: disk, area, index -/
structure Pl where
  disk : Int
  area : Int
  index : Int
deriving DecidableEq
structure Gn where
  epoch : Int
  count : Int
deriving DecidableEq
def Pl.v (p : Pl) : List Value := [.int .i64 p.disk, .int .i64 p.area, .int .i64 p.index]
def Gn.v (g : Gn) : List Value := [.int .i64 g.epoch, .int .i64 g.count]
def Pl.ok (p : Pl) : Prop := 0 ≤ p.disk ∧ p.disk < 64 ∧ 1 ≤ p.area ∧ p.area ≤ 4 ∧ 0 ≤ p.index ∧ p.index < 65536
@[irreducible] instance Pl.okD (p : Pl) : Decidable p.ok := by unfold Pl.ok; infer_instance
def Gn.ok0 (g : Gn) : Prop := 0 ≤ g.epoch ∧ 0 ≤ g.count ∧ g.epoch < 4294967296 ∧ g.count < 4294967296
@[irreducible] instance Gn.ok0D (g : Gn) : Decidable g.ok0 := by unfold Gn.ok0; infer_instance
def Gn.ok (g : Gn) : Prop := g.ok0 ∧ ¬ (g.epoch = 0 ∧ g.count = 0)
@[irreducible] instance Gn.okD (g : Gn) : Decidable g.ok := by unfold Gn.ok; infer_instance
def Gn.newer (a b : Gn) : Prop := b.epoch < a.epoch ∨ (a.epoch = b.epoch ∧ b.count < a.count)
@[irreducible] instance Gn.newerD (a b : Gn) : Decidable (a.newer b) := by unfold Gn.newer; infer_instance

/-- what the checksum stands before -/
def gnB (g : Gn) : Sec := leB 4 g.epoch.toNat ++ leB 4 g.count.toNat
def sealB (p : Pl) (g : Gn) (s : Sec) : Sec :=
  [UInt8.ofNat p.area.toNat, UInt8.ofNat p.disk.toNat] ++ leB 2 p.index.toNat ++ gnB g ++ s ++ List.replicate (40 - s.length) 0 ++ gnB g
def sealS (p : Pl) (g : Gn) (s : Sec) : Sec := leB 4 (crcOf (sealB p g s)).toNat ++ sealB p g s
theorem gnB_len (g : Gn) : (gnB g).length = 8 := by simp [gnB]
theorem sealB_len {p : Pl} {g : Gn} {s : Sec} (h : s.length ≤ 40) : (sealB p g s).length = 60 := by simp [sealB, gnB_len]; omega
theorem sealS_len {p : Pl} {g : Gn} {s : Sec} (h : s.length ≤ 40) : (sealS p g s).length = 64 := by simp [sealS, sealB_len h]

/-- what a sector carries -/
def lblP (s : Sec) : Pl := ⟨((s.getD 5 0).toNat : Int), ((s.getD 4 0).toNat : Int), (leN ((s.drop 6).take 2) : Int)⟩
def lblG (s : Sec) : Gn := ⟨(leN ((s.drop 8).take 4) : Int), (leN ((s.drop 12).take 4) : Int)⟩
def lblOK (s : Sec) : Prop := (leN (s.take 4) : Nat) = (crcOf (s.drop 4)).toNat ∧ (lblP s).ok ∧ (lblG s).ok ∧ (s.drop 8).take 8 = s.drop 56
@[irreducible] instance lblOKD (s : Sec) : Decidable (lblOK s) := by unfold lblOK; infer_instance
/-- the error with which a sector is opened at a place, else its generation and payload -/
def opened (p : Pl) (s : Sec) : Option (Gn × Sec) :=
  if lblOK s ∧ lblP s = p then some (lblG s, (s.drop 16).take 40) else none

end Dn

/-
  Plain: integers as bytes (layer 1).
-/
namespace Dn
open Go

/-- the number of bytes of a number, at most k -/
def byN : Nat → Nat → Nat
  | 0, _ => 0
  | k + 1, m => if m / 256 ^ k > 0 then k + 1 else byN k m
/-- k bytes, the most significant one first -/
def beB : Nat → Nat → Sec
  | 0, _ => []
  | k + 1, m => UInt8.ofNat (m / 256 ^ k) :: beB k m
def beN : Nat → Sec → Nat
  | a, [] => a
  | a, c :: l => beN (a * 256 + c.toNat) l
def intB (n : Nat) : Sec := UInt8.ofNat (128 + byN 8 n) :: beB (byN 8 n) n
def flipB (b : UInt8) : UInt8 := if b.toNat < 128 then 255 else 0
/-- the number, how many bytes it has, the error -/
def getI (s : Sec) : Int × Int × Int :=
  match s with
  | [] => (0, 0, 5)
  | b :: r =>
    if (b ^^^ flipB b).toNat - 128 > 8 then (0, 0, 6)
    else if r.length < (b ^^^ flipB b).toNat - 128 then (0, 0, 5)
    else if 0 < (b ^^^ flipB b).toNat - 128 ∧ (r.getD 0 0) ^^^ flipB b = 0 then (0, 0, 6)
    else if beN 0 ((r.take ((b ^^^ flipB b).toNat - 128)).map (· ^^^ flipB b)) ≥ 9223372036854775808 then (0, 0, 6)
    else (if flipB b = 0 then (beN 0 ((r.take ((b ^^^ flipB b).toNat - 128)).map (· ^^^ flipB b)) : Int) else -(beN 0 ((r.take ((b ^^^ flipB b).toNat - 128)).map (· ^^^ flipB b)) : Int) - 1, ((b ^^^ flipB b).toNat - 128 : Nat) + 1, 0)

theorem byN_le : ∀ (k m : Nat), byN k m ≤ k
  | 0, _ => Nat.le_refl _
  | k + 1, m => by
    unfold byN
    split
    · exact Nat.le_refl _
    · exact Nat.le_succ_of_le (byN_le k m)
theorem byN_lt : ∀ (k m : Nat), m < 256 ^ k → m < 256 ^ byN k m
  | 0, m, h => h
  | k + 1, m, h => by
    unfold byN
    split
    · exact h
    · rename_i h1
      refine byN_lt k m ?_
      have h2 : m / 256 ^ k = 0 := Nat.eq_zero_of_not_pos h1
      exact (Nat.div_eq_zero_iff_lt (Nat.pow_pos (by omega))).1 h2
theorem byN_top : ∀ (k m : Nat), 0 < byN k m → 0 < m / 256 ^ (byN k m - 1)
  | 0, _, h => by simp [byN] at h
  | k + 1, m, h => by
    unfold byN at h ⊢
    split
    · rename_i h1; exact h1
    · rename_i h1
      rw [if_neg h1] at h
      exact byN_top k m h
@[simp] theorem beB_len : ∀ (k m : Nat), (beB k m).length = k
  | 0, _ => rfl
  | k + 1, m => by simp [beB, beB_len k m]
theorem beN_beB : ∀ (k a m : Nat), beN a (beB k m) = a * 256 ^ k + m % 256 ^ k
  | 0, a, m => by simp [beB, beN, Nat.mod_one]
  | k + 1, a, m => by
    simp only [beB, beN]
    have e1 : m % (256 ^ k * 256) = m % 256 ^ k + 256 ^ k * (m / 256 ^ k % 256) := Nat.mod_mul
    have e2 : (2 : Nat) ^ 8 = 256 := rfl
    rw [beN_beB k, UInt8.toNat_ofNat', e2, Nat.pow_succ 256 k, e1, Nat.add_mul, Nat.mul_assoc, Nat.mul_comm 256 (256 ^ k), Nat.mul_comm (m / 256 ^ k % 256) (256 ^ k)]
    omega
theorem intB_len (n : Nat) : (intB n).length ≤ 9 := by
  have := byN_le 8 n
  simp [intB]; omega

theorem getI_intB {n : Nat} (hn : n < 9223372036854775808) (r : Sec) : getI (intB n ++ r) = ((n : Int), ((intB n).length : Int), 0) := by
  have hk := byN_le 8 n
  have hlt := byN_lt 8 n (by omega)
  obtain ⟨k, hke⟩ : ∃ k, byN 8 n = k := ⟨_, rfl⟩
  have hb : (UInt8.ofNat (128 + k)).toNat = 128 + k := by rw [UInt8.toNat_ofNat']; omega
  have htop := byN_top 8 n
  rw [hke] at hk hlt htop
  have hf : flipB (UInt8.ofNat (128 + k)) = 0 := by unfold flipB; rw [hb, if_neg (by omega)]
  have hx : ∀ c : UInt8, c ^^^ 0 = c := fun c => by simp
  have hmap : ∀ l : Sec, l.map (fun x => x) = l := fun l => by simp
  have hkk : 128 + k - 128 = k := by omega
  have htk : (beB k n ++ r).take k = beB k n := List.take_left' (by simp)
  have hval : beN 0 (beB k n) = n := by rw [beN_beB, Nat.zero_mul, Nat.zero_add, Nat.mod_eq_of_lt hlt]
  have hintB : intB n ++ r = UInt8.ofNat (128 + k) :: (beB k n ++ r) := by unfold intB; rw [hke]; rfl
  have hlen : ((intB n).length : Int) = ((k : Nat) : Int) + 1 := by unfold intB; rw [hke]; simp
  rw [hintB, hlen]
  unfold getI
  simp only [hf, hx, hb, hkk, hmap, htk, hval]
  rw [if_neg (by omega), if_neg (by simp), if_neg, if_neg (by omega), if_pos trivial]
  rintro ⟨h1, h2⟩
  obtain ⟨j, rfl⟩ : ∃ j, k = j + 1 := ⟨k - 1, by omega⟩
  have h3 := htop (by omega)
  simp only [Nat.add_sub_cancel] at h3
  simp only [beB, List.cons_append, List.getD_cons_zero] at h2
  have h4 := congrArg UInt8.toNat h2
  rw [UInt8.toNat_ofNat'] at h4
  have h5 : n / 256 ^ j < 256 := by
    rw [Nat.div_lt_iff_lt_mul (Nat.pow_pos (by omega))]
    rw [Nat.pow_succ] at hlt
    rw [Nat.mul_comm]; exact hlt
  have h6 : (0 : UInt8).toNat = 0 := rfl
  rw [h6] at h4
  omega

/-- the header of a checkpoint: the sequence number, the length -/
def headC (b : Sec) (most : Int) : Option (Int × Int) :=
  if (getI b).2.2 ≠ 0 then none
  else if (getI (b.drop (getI b).2.1.toNat)).2.2 = 0 ∧ 0 ≤ (getI b).1 ∧ 0 ≤ (getI (b.drop (getI b).2.1.toNat)).1 ∧ (getI (b.drop (getI b).2.1.toNat)).1 ≤ most then some ((getI b).1, (getI (b.drop (getI b).2.1.toNat)).1)
  else none
theorem headC_intB {a n : Nat} {most : Int} (ha : a < 9223372036854775808) (hn : n < 9223372036854775808) (hm : (n : Int) ≤ most) (r : Sec) : headC (intB a ++ intB n ++ r) most = some ((a : Int), (n : Int)) := by
  unfold headC
  rw [List.append_assoc, getI_intB ha]
  simp only
  have e : ((intB a).length : Int).toNat = (intB a).length := by omega
  rw [e, List.drop_left, getI_intB hn]
  simp only
  rw [if_neg (by simp), if_pos ⟨trivial, by omega, by omega, hm⟩]

end Dn

/- The compiled forms of functions of this seat, printed by a program of this claim's writer. -/
set_option maxRecDepth 100000
namespace Go.Proofs.YtjnogknjdjphaaaGreat
open Dn Go
end Go.Proofs.YtjnogknjdjphaaaGreat

/- The compiled forms of functions of this seat, printed by a program of this claim's writer. -/
set_option maxRecDepth 100000
namespace Go.Proofs.YtjnogknjdjphaaaGreat
open Dn Go
/-- solvent/design.Check -/
def c71 : Fun := ⟨55, (.seq (.ops [(.op (.bx (some 1) 31 (.r 0))), (.op (.p (some 2) (.mov (.c (.int .i64 0)))))] false) (.seq (.ops [(.op (.p (some 3) (.mov (.c (.func (.func 151) #[] #[])))))] false) (.seq (.ops [(.op (.p (some 5) (.mov (.r 3)))), (.op (.p (some 6) (.fad (.r 1) 0))), (.op (.ld (some 7) none (.r 6))), (.op (.cf (some 8) (.r 5) [(.r 7), (.c (.int .i64 1)), (.c (.int .i64 64))])), (.op (.p (some 9) (.mov (.r 8)))), (.gd 9 true (some 10) (.p (some 10) (.mov (.r 3)))), (.gd 9 true (some 11) (.p (some 11) (.fad (.r 1) 1))), (.gd 9 true (some 12) (.ld (some 12) none (.r 11))), (.gd 9 true (some 13) (.cf (some 13) (.r 10) [(.r 12), (.c (.int .i64 1)), (.c (.int .i64 8))])), (.op (.pk (some 14) (.r 9) (.r 13) (.c (.bool false)))), (.op (.p (some 15) (.mov (.r 14)))), (.gd 15 true (some 16) (.p (some 16) (.mov (.r 3)))), (.gd 15 true (some 17) (.p (some 17) (.fad (.r 1) 2))), (.gd 15 true (some 18) (.ld (some 18) none (.r 17))), (.gd 15 true (some 19) (.cf (some 19) (.r 16) [(.r 18), (.c (.int .i64 1)), (.c (.int .i64 4096))])), (.op (.pk (some 20) (.r 15) (.r 19) (.c (.bool false)))), (.op (.p (some 4) (.mov (.r 20))))] false) (.seq (.seq (.ops [(.op (.p (some 21) (.mov (.r 4)))), (.op (.p (some 22) (.un .not (.r 21)))), (.op (.p (some 23) (.mov (.r 22)))), (.gd 23 false (some 24) (.p (some 24) (.mov (.r 3)))), (.gd 23 false (some 25) (.p (some 25) (.fad (.r 1) 3))), (.gd 23 false (some 26) (.ld (some 26) none (.r 25))), (.gd 23 false (some 27) (.p (some 27) (.fad (.r 1) 0))), (.gd 23 false (some 28) (.ld (some 28) none (.r 27))), (.gd 23 false (some 29) (.ar (some 29) .sub (.r 28) (.c (.int .i64 1)))), (.gd 23 false (some 30) (.cf (some 30) (.r 24) [(.r 26), (.c (.int .i64 0)), (.r 29)])), (.gd 23 false (some 31) (.p (some 31) (.un .not (.r 30)))), (.op (.pk (some 32) (.r 23) (.c (.bool true)) (.r 31))), (.op (.p (some 33) (.mov (.r 32)))), (.gd 33 false (some 34) (.p (some 34) (.mov (.r 3)))), (.gd 33 false (some 35) (.p (some 35) (.fad (.r 1) 4))), (.gd 33 false (some 36) (.ld (some 36) none (.r 35))), (.gd 33 false (some 37) (.cf (some 37) (.r 34) [(.r 36), (.c (.int .i64 1)), (.c (.int .i64 65536))])), (.gd 33 false (some 38) (.p (some 38) (.un .not (.r 37)))), (.op (.pk (some 39) (.r 33) (.c (.bool true)) (.r 38))), (.op (.p (some 40) (.mov (.r 39)))), (.gd 40 false (some 41) (.p (some 41) (.mov (.r 3)))), (.gd 40 false (some 42) (.p (some 42) (.fad (.r 1) 5))), (.gd 40 false (some 43) (.ld (some 43) none (.r 42))), (.gd 40 false (some 44) (.cf (some 44) (.r 41) [(.r 43), (.c (.int .i64 1)), (.c (.int .i64 65536))])), (.gd 40 false (some 45) (.p (some 45) (.un .not (.r 44)))), (.op (.pk (some 46) (.r 40) (.c (.bool true)) (.r 45))), (.op (.p (some 47) (.mov (.r 46)))), (.gd 47 false (some 48) (.p (some 48) (.fad (.r 1) 0))), (.gd 47 false (some 49) (.ld (some 49) none (.r 48))), (.gd 47 false (some 50) (.p (some 50) (.fad (.r 1) 1))), (.gd 47 false (some 51) (.ld (some 51) none (.r 50))), (.gd 47 false (some 52) (.ar (some 52) .rem (.r 49) (.r 51))), (.gd 47 false (some 53) (.p (some 53) (.cmp .neq (.r 52) (.c (.int .i64 0))))), (.op (.pk (some 54) (.r 47) (.c (.bool true)) (.r 53)))] false) (.ite (.r 54) (.seq (.ops [(.op (.p (some 2) (.mov (.c (.int .i64 1)))))] false) .ret) .skip)) (.seq (.ops [(.op (.p (some 2) (.mov (.c (.int .i64 0)))))] false) .ret))))), [(.t (.r 2))]⟩
theorem c71_eq : cF Tryz.prog Tryz.f71 = some c71 := by kernel_rfl
/-- solvent/design.Check$1 -/
def c151 : Fun := ⟨15, (.seq (.ops [(.op (.p (some 6) (.mov (.c (.bool false)))))] false) (.seq (.ops [(.op (.p (some 7) (.mov (.r 0)))), (.op (.p (some 8) (.mov (.r 1)))), (.op (.p (some 9) (.cmp .geq (.r 7) (.r 8)))), (.op (.p (some 10) (.mov (.r 9)))), (.gd 10 true (some 11) (.p (some 11) (.mov (.r 0)))), (.gd 10 true (some 12) (.p (some 12) (.mov (.r 2)))), (.gd 10 true (some 13) (.p (some 13) (.cmp .leq (.r 11) (.r 12)))), (.op (.pk (some 14) (.r 10) (.r 13) (.c (.bool false)))), (.op (.p (some 6) (.mov (.r 14))))] false) .ret)), [(.t (.r 6))]⟩
theorem c151_eq : cF Tryz.prog Tryz.f151 = some c151 := by kernel_rfl
/-- solvent/shelf.sizes -/
def c152 : Fun := ⟨12, (.seq (.ops [(.op (.bx (some 1) 31 (.r 0))), (.op (.nw (some 2) 218 [(.int .i64 0), (.int .i64 0), (.int .i64 0), (.int .i64 0)]))] false) (.seq (.ops [(.op (.p (some 3) (.fad (.r 1) 4))), (.op (.ld (some 4) none (.r 3))), (.op (.p (some 5) (.fad (.r 1) 5))), (.op (.ld (some 6) none (.r 5))), (.op (.p (some 7) (.fad (.r 1) 5))), (.op (.ld (some 8) none (.r 7))), (.op (.p (some 9) (.fad (.r 1) 2))), (.op (.ld (some 10) none (.r 9))), (.op (.p (some 11) (.bld [(.int .i64 0), (.int .i64 0), (.int .i64 0), (.int .i64 0)] [(0, (1, (.r 4))), (1, (1, (.r 6))), (2, (1, (.r 8))), (3, (1, (.r 10)))]))), (.op (.st none 4 (.r 2) (.r 11)))] false) .ret)), [(.cl (.r 2) (some 4))]⟩
theorem c152_eq : cF Tryz.prog Tryz.f152 = some c152 := by kernel_rfl
/-- solvent/shelf.sectors -/
def c72 : Fun := ⟨16, (.seq (.ops [(.op (.bx (some 1) 31 (.r 0))), (.op (.p (some 2) (.mov (.c (.int .i64 0)))))] false) (.seq (.ops [(.op (.p (some 3) (.mov (.c (.int .i64 0)))))] false) (.seq (.seq (.ops [(.op (.ld (some 6) (some 6) (.r 1))), (.op (.call (some 7) 152 [(.r 6)])), (.op (.p (some 8) (.mov (.c (.int .i64 0)))))] false) (.blk 0 (.loop (.seq (.ops [(.op (.p (some 9) (.cmp .lss (.r 8) (.c (.int .i64 4)))))] false) (.seq (.ite (.r 9) .skip (.exit 0)) (.seq (.blk 1 (.seq (.ops [(.op (.p (some 10) (.ixv 4 none (.r 7) (.r 8)))), (.op (.p (some 5) (.mov (.r 10))))] false) (.ops [(.op (.p (some 11) (.mov (.r 3)))), (.op (.p (some 12) (.mov (.r 5)))), (.op (.ar (some 13) .add (.r 11) (.r 12))), (.op (.p (some 3) (.mov (.r 13))))] false))) (.ops [(.op (.ar (some 14) .add (.r 8) (.c (.int .i64 1)))), (.op (.p (some 8) (.mov (.r 14))))] false))))))) (.seq (.ops [(.op (.p (some 15) (.mov (.r 3)))), (.op (.p (some 2) (.mov (.r 15))))] false) .ret)))), [(.t (.r 2))]⟩
theorem c72_eq : cF Tryz.prog Tryz.f72 = some c72 := by kernel_rfl
/-- solvent/shelf.New -/
def c16 : Fun := ⟨33, (.seq (.ops [(.op (.bx (some 1) 31 (.r 0))), (.op (.p (some 2) (.mov (.c (.pointer none))))), (.op (.p (some 3) (.mov (.c (.int .i64 0)))))] false) (.seq (.seq (.ops [(.op (.ld (some 5) (some 6) (.r 1))), (.op (.call (some 6) 71 [(.r 5)])), (.op (.p (some 7) (.cmp .neq (.r 6) (.c (.int .i64 0)))))] false) (.ite (.r 7) (.seq (.ops [(.op (.p (some 2) (.mov (.c (.pointer none))))), (.op (.p (some 3) (.mov (.c (.int .i64 1)))))] false) .ret) .skip)) (.seq (.seq (.ops [(.op (.ld (some 8) (some 6) (.r 1))), (.op (.call (some 9) 72 [(.r 8)])), (.op (.p (some 10) (.cmp .gtr (.r 9) (.c (.int .i64 65536)))))] false) (.ite (.r 10) (.seq (.ops [(.op (.p (some 2) (.mov (.c (.pointer none))))), (.op (.p (some 3) (.mov (.c (.int .i64 2)))))] false) .ret) .skip)) (.seq (.ops [(.op (.ld (some 11) (some 6) (.r 1))), (.op (.p (some 12) (.bld [(.int .i64 0), (.int .i64 0), (.int .i64 0), (.int .i64 0), (.int .i64 0), (.int .i64 0), (.slice none 0 0), (.slice none 0 0), (.bool false), (.bool false), (.int .i64 0)] [(0, (6, (.r 11)))]))), (.op (.bx (some 13) 143 (.r 12))), (.op (.p (some 4) (.mov (.r 13))))] false) (.seq (.seq (.ops [(.op (.p (some 14) (.fad (.r 1) 0))), (.op (.ld (some 15) none (.r 14))), (.op (.p (some 16) (.mov (.c (.int .i64 0)))))] false) (.blk 0 (.loop (.seq (.ops [(.op (.p (some 17) (.cmp .lss (.r 16) (.r 15))))] false) (.seq (.ite (.r 17) .skip (.exit 0)) (.seq (.blk 1 (.dr (.step (.op (.p (some 18) (.mov (.r 4)))) (.step (.op (.p (some 19) (.mov (.r 4)))) (.step (.op (.p (some 20) (.nck (.r 19)))) (.step (.op (.p (some 21) (.fad (.r 20) 6))) (.step (.op (.ld (some 23) (some 6) (.r 1))) (.alt (.step (.op (.ld (some 22) none (.r 21))) (.step (.op (.call (some 24) 72 [(.r 23)])) (.step (.op (.call (some 25) 73 [(.r 24)])) (.step (.op (.p (some 26) (.bld [(.pointer none), (.int .i64 0)] [(0, (1, (.r 25))), (1, (1, (.c (.int .i64 1))))]))) (.step (.op (.raw (some 27) (.buildSlice 140 1 #[(0, (.tmp 26))]) 140)) (.step (.op (.raw (some 28) (.call (.mk (.builtin .append) #[(.tmp 22), (.tmp 27)] #[140, 140])) 140)) (.step (.op (.p (some 29) (.nck (.r 18)))) (.step (.op (.p (some 30) (.fad (.r 29) 6))) (.step (.op (.st none 1 (.r 30) (.r 28))) .done))))))))) (.step (.op (.call (some 24) 72 [(.r 23)])) (.alt (.step (.op (.ld (some 22) none (.r 21))) (.step (.op (.call (some 25) 73 [(.r 24)])) (.step (.op (.p (some 26) (.bld [(.pointer none), (.int .i64 0)] [(0, (1, (.r 25))), (1, (1, (.c (.int .i64 1))))]))) (.step (.op (.raw (some 27) (.buildSlice 140 1 #[(0, (.tmp 26))]) 140)) (.step (.op (.raw (some 28) (.call (.mk (.builtin .append) #[(.tmp 22), (.tmp 27)] #[140, 140])) 140)) (.step (.op (.p (some 29) (.nck (.r 18)))) (.step (.op (.p (some 30) (.fad (.r 29) 6))) (.step (.op (.st none 1 (.r 30) (.r 28))) .done)))))))) (.step (.op (.call (some 25) 73 [(.r 24)])) (.step (.op (.p (some 26) (.bld [(.pointer none), (.int .i64 0)] [(0, (1, (.r 25))), (1, (1, (.c (.int .i64 1))))]))) (.alt (.step (.op (.ld (some 22) none (.r 21))) (.step (.op (.raw (some 27) (.buildSlice 140 1 #[(0, (.tmp 26))]) 140)) (.step (.op (.raw (some 28) (.call (.mk (.builtin .append) #[(.tmp 22), (.tmp 27)] #[140, 140])) 140)) (.step (.op (.p (some 29) (.nck (.r 18)))) (.step (.op (.p (some 30) (.fad (.r 29) 6))) (.step (.op (.st none 1 (.r 30) (.r 28))) .done)))))) (.step (.op (.raw (some 27) (.buildSlice 140 1 #[(0, (.tmp 26))]) 140)) (.step (.op (.ld (some 22) none (.r 21))) (.step (.op (.raw (some 28) (.call (.mk (.builtin .append) #[(.tmp 22), (.tmp 27)] #[140, 140])) 140)) (.step (.op (.p (some 29) (.nck (.r 18)))) (.step (.op (.p (some 30) (.fad (.r 29) 6))) (.step (.op (.st none 1 (.r 30) (.r 28))) .done))))))))))))))))))) (.ops [(.op (.ar (some 31) .add (.r 16) (.c (.int .i64 1)))), (.op (.p (some 16) (.mov (.r 31))))] false))))))) (.seq (.ops [(.op (.p (some 32) (.mov (.r 4)))), (.op (.p (some 2) (.mov (.r 32)))), (.op (.p (some 3) (.mov (.c (.int .i64 0)))))] false) .ret)))))), [(.t (.r 2)), (.t (.r 3))]⟩
theorem c16_eq : cF Tryz.prog Tryz.f16 = some c16 := by kernel_rfl
/-- (*solvent/shelf.Shelf).Config -/
def c74 : Fun := ⟨7, (.seq (.ops [(.op (.nw (some 2) 31 [(.int .i64 0), (.int .i64 0), (.int .i64 0), (.int .i64 0), (.int .i64 0), (.int .i64 0)]))] false) (.seq (.ops [(.op (.p (some 3) (.mov (.r 0)))), (.op (.p (some 4) (.nck (.r 3)))), (.op (.p (some 5) (.fad (.r 4) 0))), (.op (.ld (some 6) (some 6) (.r 5))), (.op (.st none 6 (.r 2) (.r 6)))] false) .ret)), [(.cl (.r 2) (some 6))]⟩
theorem c74_eq : cF Tryz.prog Tryz.f74 = some c74 := by kernel_rfl
/-- (*solvent/shelf.Shelf).State -/
def c62 : Fun := ⟨24, (.seq (.ops [(.op (.p (some 4) (.mov (.c (.int .i64 0)))))] false) (.seq (.seq (.ops [(.op (.p (some 5) (.mov (.r 1)))), (.op (.p (some 6) (.cmp .lss (.r 5) (.c (.int .i64 0))))), (.op (.p (some 7) (.mov (.r 6)))), (.gd 7 false (some 8) (.p (some 8) (.mov (.r 1)))), (.gd 7 false (some 9) (.p (some 9) (.mov (.r 0)))), (.gd 7 false (some 10) (.p (some 10) (.nck (.r 9)))), (.gd 7 false (some 11) (.p (some 11) (.fad (.r 10) 6))), (.gd 7 false (some 12) (.ld (some 12) none (.r 11))), (.gd 7 false (some 13) (.p (some 13) (.len (.r 12)))), (.gd 7 false (some 14) (.p (some 14) (.cmp .geq (.r 8) (.r 13)))), (.op (.pk (some 15) (.r 7) (.c (.bool true)) (.r 14)))] false) (.ite (.r 15) (.seq (.ops [(.op (.p (some 4) (.mov (.c (.int .i64 0)))))] false) .ret) .skip)) (.seq (.ops [(.op (.p (some 16) (.mov (.r 0)))), (.op (.p (some 17) (.nck (.r 16)))), (.op (.p (some 18) (.fad (.r 17) 6))), (.op (.ld (some 19) none (.r 18))), (.op (.p (some 20) (.mov (.r 1)))), (.op (.p (some 21) (.ixa 2 (.r 19) (.r 20)))), (.op (.p (some 22) (.fad (.r 21) 1))), (.op (.ld (some 23) none (.r 22))), (.op (.p (some 4) (.mov (.r 23))))] false) .ret))), [(.t (.r 4))]⟩
theorem c62_eq : cF Tryz.prog Tryz.f62 = some c62 := by kernel_rfl
/-- (*solvent/shelf.Shelf).number -/
def c162 : Fun := ⟨58, (.seq (.ops [(.op (.bx (some 3) 53 (.r 1))), (.op (.p (some 4) (.mov (.c (.int .i64 0)))))] false) (.seq (.seq (.ops [(.op (.p (some 9) (.mov (.r 0)))), (.op (.p (some 10) (.fad (.r 3) 0))), (.op (.ld (some 11) none (.r 10))), (.op (.call (some 12) 62 [(.r 9), (.r 11)])), (.op (.p (some 13) (.cmp .eql (.r 12) (.c (.int .i64 0))))), (.op (.p (some 14) (.mov (.r 13)))), (.gd 14 false (some 15) (.p (some 15) (.fad (.r 3) 1))), (.gd 14 false (some 16) (.ld (some 16) none (.r 15))), (.gd 14 false (some 17) (.p (some 17) (.cmp .lss (.r 16) (.c (.int .i64 1))))), (.op (.pk (some 18) (.r 14) (.c (.bool true)) (.r 17))), (.op (.p (some 19) (.mov (.r 18)))), (.gd 19 false (some 20) (.p (some 20) (.fad (.r 3) 1))), (.gd 19 false (some 21) (.ld (some 21) none (.r 20))), (.gd 19 false (some 22) (.p (some 22) (.cmp .gtr (.r 21) (.c (.int .i64 4))))), (.op (.pk (some 23) (.r 19) (.c (.bool true)) (.r 22)))] false) (.ite (.r 23) (.seq (.ops [(.op (.p (some 4) (.mov (.c (.int .i64 (-1))))))] false) .ret) .skip)) (.seq (.ops [(.op (.p (some 24) (.mov (.r 0)))), (.op (.p (some 25) (.nck (.r 24)))), (.op (.p (some 26) (.fad (.r 25) 0))), (.op (.ld (some 27) (some 6) (.r 26))), (.op (.call (some 28) 152 [(.r 27)])), (.op (.nw (some 5) 218 [(.int .i64 0), (.int .i64 0), (.int .i64 0), (.int .i64 0)])), (.op (.st none 4 (.r 5) (.r 28)))] false) (.seq (.seq (.ops [(.op (.p (some 29) (.fad (.r 3) 2))), (.op (.ld (some 30) none (.r 29))), (.op (.p (some 31) (.cmp .lss (.r 30) (.c (.int .i64 0))))), (.op (.p (some 32) (.mov (.r 31)))), (.gd 32 false (some 33) (.p (some 33) (.fad (.r 3) 2))), (.gd 32 false (some 34) (.ld (some 34) none (.r 33))), (.gd 32 false (some 35) (.p (some 35) (.fad (.r 3) 1))), (.gd 32 false (some 36) (.ld (some 36) none (.r 35))), (.gd 32 false (some 37) (.ar (some 37) .sub (.r 36) (.c (.int .i64 1)))), (.gd 32 false (some 38) (.p (some 38) (.ixp 4 1 (.r 5) (.r 37)))), (.gd 32 false (some 39) (.ld (some 39) none (.r 38))), (.gd 32 false (some 40) (.p (some 40) (.cmp .geq (.r 34) (.r 39)))), (.op (.pk (some 41) (.r 32) (.c (.bool true)) (.r 40)))] true) (.ite (.r 41) (.seq (.ops [(.op (.p (some 4) (.mov (.c (.int .i64 (-1))))))] false) .ret) .skip)) (.seq (.ops [(.op (.p (some 42) (.fad (.r 3) 2))), (.op (.ld (some 43) none (.r 42))), (.op (.p (some 6) (.mov (.r 43))))] false) (.seq (.seq (.ops [(.op (.p (some 44) (.fad (.r 3) 1))), (.op (.ld (some 45) none (.r 44))), (.op (.ar (some 46) .sub (.r 45) (.c (.int .i64 1)))), (.op (.p (some 47) (.slp 4 1 (.r 5) none (some (.r 46))))), (.op (.p (some 48) (.len (.r 47)))), (.op (.p (some 49) (.mov (.c (.int .i64 0)))))] false) (.blk 0 (.loop (.seq (.ops [(.op (.p (some 50) (.cmp .lss (.r 49) (.r 48))))] false) (.seq (.ite (.r 50) .skip (.exit 0)) (.seq (.blk 1 (.seq (.ops [(.op (.p (some 51) (.ixa 1 (.r 47) (.r 49)))), (.op (.ld (some 52) none (.r 51))), (.op (.p (some 8) (.mov (.r 52))))] false) (.ops [(.op (.p (some 53) (.mov (.r 6)))), (.op (.p (some 54) (.mov (.r 8)))), (.op (.ar (some 55) .add (.r 53) (.r 54))), (.op (.p (some 6) (.mov (.r 55))))] false))) (.ops [(.op (.ar (some 56) .add (.r 49) (.c (.int .i64 1)))), (.op (.p (some 49) (.mov (.r 56))))] false))))))) (.seq (.ops [(.op (.p (some 57) (.mov (.r 6)))), (.op (.p (some 4) (.mov (.r 57))))] false) .ret))))))), [(.t (.r 4))]⟩
theorem c162_eq : cF Tryz.prog Tryz.f162 = some c162 := by kernel_rfl
/-- (*solvent/shelf.Shelf).access -/
def c187 : Fun := ⟨20, (.seq (.ops [(.op (.p (some 4) (.mov (.c (.int .i64 0)))))] false) (.seq (.blk 0 (.seq (.ops [(.op (.p (some 6) (.mov (.r 0)))), (.op (.p (some 7) (.nck (.r 6)))), (.op (.p (some 8) (.fad (.r 7) 8))), (.op (.ld (some 9) none (.r 8))), (.op (.p (some 5) (.mov (.r 9))))] false) (.ite (.r 5) (.seq (.ops [(.op (.p (some 4) (.mov (.c (.int .i64 14)))))] false) .ret) (.seq (.ops [(.op (.p (some 11) (.mov (.r 0)))), (.op (.p (some 12) (.nck (.r 11)))), (.op (.p (some 13) (.fad (.r 12) 6))), (.op (.ld (some 14) none (.r 13))), (.op (.p (some 15) (.mov (.r 1)))), (.op (.p (some 16) (.ixa 2 (.r 14) (.r 15)))), (.op (.p (some 17) (.fad (.r 16) 1))), (.op (.ld (some 18) none (.r 17))), (.op (.p (some 19) (.cmp .neq (.r 18) (.c (.int .i64 1))))), (.op (.p (some 10) (.mov (.r 19))))] false) (.ite (.r 10) (.seq (.ops [(.op (.p (some 4) (.mov (.c (.int .i64 15)))))] false) .ret) .skip))))) (.seq (.ops [(.op (.p (some 4) (.mov (.c (.int .i64 0)))))] false) .ret))), [(.t (.r 4))]⟩
theorem c187_eq : cF Tryz.prog Tryz.f187 = some c187 := by kernel_rfl
/-- (*solvent/shelf.Shelf).step -/
def c163 : Fun := ⟨45, (.seq (.ops [(.op (.p (some 6) (.mov (.c (.int .i64 0)))))] false) (.seq (.seq (.ops [(.op (.p (some 8) (.mov (.r 0)))), (.op (.p (some 9) (.mov (.r 1)))), (.op (.call (some 10) 187 [(.r 8), (.r 9)])), (.op (.p (some 7) (.mov (.r 10))))] false) (.seq (.ops [(.op (.p (some 11) (.mov (.r 7)))), (.op (.p (some 12) (.cmp .neq (.r 11) (.c (.int .i64 0)))))] false) (.ite (.r 12) (.seq (.ops [(.op (.p (some 13) (.mov (.r 7)))), (.op (.p (some 6) (.mov (.r 13))))] false) .ret) .skip))) (.seq (.seq (.ops [(.op (.p (some 14) (.mov (.r 0)))), (.op (.p (some 15) (.nck (.r 14)))), (.op (.p (some 16) (.fad (.r 15) 9))), (.op (.ld (some 17) none (.r 16)))] false) (.ite (.r 17) (.seq (.seq (.ops [(.op (.p (some 18) (.mov (.r 0)))), (.op (.p (some 19) (.nck (.r 18)))), (.op (.p (some 20) (.fad (.r 19) 10))), (.op (.ld (some 21) none (.r 20))), (.op (.p (some 22) (.cmp .eql (.r 21) (.c (.int .i64 0)))))] false) (.ite (.r 22) (.seq (.ops [(.op (.p (some 23) (.mov (.r 0)))), (.op (.p (some 24) (.mov (.r 0)))), (.op (.p (some 25) (.nck (.r 23)))), (.op (.p (some 26) (.fad (.r 25) 8))), (.op (.st none 1 (.r 26) (.c (.bool true)))), (.op (.p (some 27) (.nck (.r 24)))), (.op (.p (some 28) (.fad (.r 27) 9))), (.op (.st none 1 (.r 28) (.c (.bool false))))] false) (.seq (.ops [(.op (.p (some 6) (.mov (.c (.int .i64 14)))))] false) .ret)) .skip)) (.ops [(.op (.p (some 29) (.mov (.r 0)))), (.op (.p (some 30) (.nck (.r 29)))), (.op (.p (some 31) (.fad (.r 30) 10))), (.op (.ld (some 32) none (.r 31))), (.op (.ar (some 33) .sub (.r 32) (.c (.int .i64 1)))), (.op (.p (some 34) (.nck (.r 29)))), (.op (.p (some 35) (.fad (.r 34) 10))), (.op (.st none 1 (.r 35) (.r 33)))] false)) .skip)) (.seq (.ops [(.op (.p (some 36) (.mov (.r 2)))), (.op (.p (some 37) (.mov (.r 0)))), (.op (.p (some 38) (.nck (.r 37)))), (.op (.p (some 39) (.fad (.r 38) 6))), (.op (.ld (some 40) none (.r 39))), (.op (.p (some 41) (.mov (.r 1)))), (.op (.p (some 42) (.ixa 2 (.r 40) (.r 41)))), (.op (.ld (some 43) (some 2) (.r 42))), (.op (.cf (some 44) (.r 36) [(.r 43)]))] false) (.seq (.ops [(.op (.p (some 6) (.mov (.c (.int .i64 0)))))] false) .ret))))), [(.t (.r 6))]⟩
theorem c163_eq : cF Tryz.prog Tryz.f163 = some c163 := by kernel_rfl
/-- (*solvent/shelf.Shelf).Write -/
def c96 : Fun := ⟨23, (.seq (.ops [(.op (.bx (some 4) 53 (.r 1))), (.op (.bx (some 5) 9 (.r 2))), (.op (.p (some 6) (.mov (.c (.int .i64 0)))))] false) (.seq (.ops [(.op (.p (some 8) (.mov (.r 0)))), (.op (.ld (some 9) (some 3) (.r 4))), (.op (.call (some 10) 162 [(.r 8), (.r 9)])), (.op (.nw (some 7) 3 [(.int .i64 0)])), (.op (.st none 1 (.r 7) (.r 10)))] false) (.seq (.seq (.ops [(.op (.ld (some 11) none (.r 7))), (.op (.p (some 12) (.cmp .lss (.r 11) (.c (.int .i64 0))))), (.op (.p (some 13) (.mov (.r 12)))), (.gd 13 false (some 14) (.ld (some 14) none (.r 5))), (.gd 13 false (some 15) (.p (some 15) (.lns (.r 14)))), (.gd 13 false (some 16) (.p (some 16) (.cmp .neq (.r 15) (.c (.int .i64 64))))), (.op (.pk (some 17) (.r 13) (.c (.bool true)) (.r 16)))] false) (.ite (.r 17) (.seq (.ops [(.op (.p (some 6) (.mov (.c (.int .i64 1)))))] false) .ret) .skip)) (.seq (.ops [(.op (.p (some 18) (.mov (.r 0)))), (.op (.p (some 19) (.fad (.r 4) 0))), (.op (.ld (some 20) none (.r 19))), (.op (.p (some 21) (.mkf (.func 164) [] [(.r 7), (.r 5)]))), (.op (.call (some 22) 163 [(.r 18), (.r 20), (.r 21)])), (.op (.p (some 6) (.mov (.r 22))))] false) .ret)))), [(.t (.r 6))]⟩
theorem c96_eq : cF Tryz.prog Tryz.f96 = some c96 := by kernel_rfl
/-- (*solvent/shelf.Shelf).Write$1 -/
def c164 : Fun := ⟨9, (.seq (.ops [(.op (.bx (some 3) 147 (.r 0)))] false) (.ops [(.op (.p (some 4) (.fad (.r 3) 0))), (.op (.ld (some 5) none (.r 4))), (.op (.ld (some 6) none (.r 1))), (.op (.ld (some 7) none (.r 2))), (.op (.call (some 8) 165 [(.r 5), (.r 6), (.r 7)]))] false)), []⟩
theorem c164_eq : cF Tryz.prog Tryz.f164 = some c164 := by kernel_rfl
/-- (*solvent/shelf.Shelf).Read -/
def c125 : Fun := ⟨33, (.seq (.ops [(.op (.bx (some 3) 53 (.r 1))), (.op (.p (some 4) (.mov (.c (.string ⟨#[]⟩))))), (.op (.p (some 5) (.mov (.c (.int .i64 0)))))] false) (.seq (.ops [(.op (.p (some 8) (.mov (.r 0)))), (.op (.ld (some 9) (some 3) (.r 3))), (.op (.call (some 10) 162 [(.r 8), (.r 9)])), (.op (.p (some 6) (.mov (.r 10))))] false) (.seq (.seq (.ops [(.op (.p (some 11) (.mov (.r 6)))), (.op (.p (some 12) (.cmp .lss (.r 11) (.c (.int .i64 0)))))] false) (.ite (.r 12) (.seq (.ops [(.op (.p (some 4) (.mov (.c (.string ⟨#[]⟩))))), (.op (.p (some 5) (.mov (.c (.int .i64 1)))))] false) .ret) .skip)) (.seq (.seq (.ops [(.op (.p (some 13) (.mov (.r 0)))), (.op (.p (some 14) (.fad (.r 3) 0))), (.op (.ld (some 15) none (.r 14))), (.op (.call (some 16) 187 [(.r 13), (.r 15)])), (.op (.p (some 7) (.mov (.r 16))))] false) (.seq (.ops [(.op (.p (some 17) (.mov (.r 7)))), (.op (.p (some 18) (.cmp .neq (.r 17) (.c (.int .i64 0)))))] false) (.ite (.r 18) (.seq (.ops [(.op (.p (some 19) (.mov (.r 7)))), (.op (.p (some 4) (.mov (.c (.string ⟨#[]⟩))))), (.op (.p (some 5) (.mov (.r 19))))] false) .ret) .skip))) (.seq (.ops [(.op (.p (some 20) (.mov (.r 0)))), (.op (.p (some 21) (.nck (.r 20)))), (.op (.p (some 22) (.fad (.r 21) 6))), (.op (.ld (some 23) none (.r 22))), (.op (.p (some 24) (.fad (.r 3) 0))), (.op (.ld (some 25) none (.r 24))), (.op (.p (some 26) (.ixa 2 (.r 23) (.r 25)))), (.op (.p (some 27) (.fad (.r 26) 0))), (.op (.ld (some 28) none (.r 27))), (.op (.p (some 29) (.mov (.r 6)))), (.op (.call (some 30) 121 [(.r 28), (.r 29)])), (.op (.p (some 31) (.ext (.r 30) 0))), (.op (.p (some 32) (.ext (.r 30) 1))), (.op (.p (some 4) (.mov (.r 31)))), (.op (.p (some 5) (.mov (.r 32))))] true) .ret))))), [(.t (.r 4)), (.t (.r 5))]⟩
theorem c125_eq : cF Tryz.prog Tryz.f125 = some c125 := by kernel_rfl
/-- (*solvent/shelf.Shelf).Flush -/
def c98 : Fun := ⟨12, (.seq (.ops [(.op (.p (some 4) (.mov (.c (.int .i64 0)))))] false) (.seq (.seq (.ops [(.op (.p (some 5) (.mov (.r 0)))), (.op (.p (some 6) (.mov (.r 1)))), (.op (.call (some 7) 62 [(.r 5), (.r 6)])), (.op (.p (some 8) (.cmp .eql (.r 7) (.c (.int .i64 0)))))] false) (.ite (.r 8) (.seq (.ops [(.op (.p (some 4) (.mov (.c (.int .i64 1)))))] false) .ret) .skip)) (.seq (.ops [(.op (.p (some 9) (.mov (.r 0)))), (.op (.p (some 10) (.mov (.r 1)))), (.op (.call (some 11) 163 [(.r 9), (.r 10), (.c (.func (.func 166) #[] #[]))])), (.op (.p (some 4) (.mov (.r 11))))] false) .ret))), [(.t (.r 4))]⟩
theorem c98_eq : cF Tryz.prog Tryz.f98 = some c98 := by kernel_rfl
/-- (*solvent/shelf.Shelf).Flush$1 -/
def c166 : Fun := ⟨5, (.seq (.ops [(.op (.bx (some 1) 147 (.r 0)))] false) (.ops [(.op (.p (some 2) (.fad (.r 1) 0))), (.op (.ld (some 3) none (.r 2))), (.op (.call (some 4) 167 [(.r 3)]))] false)), []⟩
theorem c166_eq : cF Tryz.prog Tryz.f166 = some c166 := by kernel_rfl
/-- (*solvent/shelf.Shelf).Mount -/
def c55 : Fun := ⟨42, (.seq (.seq (.ops [(.op (.p (some 7) (.mov (.r 0)))), (.op (.p (some 8) (.nck (.r 7)))), (.op (.p (some 9) (.fad (.r 8) 6))), (.op (.ld (some 10) none (.r 9))), (.op (.p (some 11) (.len (.r 10)))), (.op (.p (some 12) (.mov (.c (.int .i64 0)))))] false) (.blk 0 (.loop (.seq (.ops [(.op (.p (some 13) (.cmp .lss (.r 12) (.r 11))))] false) (.seq (.ite (.r 13) .skip (.exit 0)) (.seq (.blk 1 (.seq (.ops [(.op (.p (some 14) (.ixa 2 (.r 10) (.r 12)))), (.op (.ld (some 15) (some 2) (.r 14))), (.op (.nw (some 5) 147 [(.pointer none), (.int .i64 0)])), (.op (.st none 2 (.r 5) (.r 15)))] false) (.seq (.ops [(.op (.p (some 16) (.fad (.r 5) 1))), (.op (.ld (some 17) none (.r 16))), (.op (.p (some 18) (.cmp .eql (.r 17) (.c (.int .i64 1)))))] false) (.ite (.r 18) (.seq (.ops [(.op (.p (some 19) (.fad (.r 5) 0))), (.op (.ld (some 20) none (.r 19))), (.op (.call (some 21) 146 [(.r 20)])), (.op (.p (some 22) (.len (.r 21)))), (.op (.p (some 23) (.mov (.r 1)))), (.op (.p (some 24) (.len (.r 23)))), (.op (.p (some 25) (.mn (.r 22) [(.r 24)]))), (.op (.p (some 6) (.mov (.r 25))))] false) (.seq (.ops [(.op (.p (some 26) (.fad (.r 5) 0))), (.op (.ld (some 27) none (.r 26))), (.op (.p (some 28) (.mov (.r 1)))), (.op (.p (some 29) (.mov (.r 6)))), (.op (.p (some 30) (.sll 1 (.r 28) none (some (.r 29))))), (.op (.call (some 31) 147 [(.r 27), (.r 30)]))] true) (.ops [(.op (.p (some 32) (.mov (.r 1)))), (.op (.p (some 33) (.mov (.r 6)))), (.op (.p (some 34) (.sll 1 (.r 32) (some (.r 33)) none))), (.op (.p (some 1) (.mov (.r 34))))] false))) .skip)))) (.ops [(.op (.ar (some 35) .add (.r 12) (.c (.int .i64 1)))), (.op (.p (some 12) (.mov (.r 35))))] false))))))) (.ops [(.op (.p (some 36) (.mov (.r 0)))), (.op (.p (some 37) (.mov (.r 0)))), (.op (.p (some 38) (.nck (.r 36)))), (.op (.p (some 39) (.fad (.r 38) 8))), (.op (.st none 1 (.r 39) (.c (.bool false)))), (.op (.p (some 40) (.nck (.r 37)))), (.op (.p (some 41) (.fad (.r 40) 9))), (.op (.st none 1 (.r 41) (.c (.bool false))))] false)), []⟩
theorem c55_eq : cF Tryz.prog Tryz.f55 = some c55 := by kernel_rfl
/-- (*solvent/shelf.Shelf).arm -/
def c119 : Fun := ⟨35, (.seq (.ops [(.op (.bx (some 5) 53 (.r 1))), (.op (.p (some 8) (.mov (.c (.int .i64 0)))))] false) (.seq (.ops [(.op (.p (some 11) (.mov (.r 0)))), (.op (.ld (some 12) (some 3) (.r 5))), (.op (.call (some 13) 162 [(.r 11), (.r 12)])), (.op (.p (some 9) (.mov (.r 13))))] false) (.seq (.seq (.ops [(.op (.p (some 14) (.mov (.r 9)))), (.op (.p (some 15) (.cmp .lss (.r 14) (.c (.int .i64 0))))), (.op (.p (some 16) (.mov (.r 15)))), (.gd 16 false (some 17) (.p (some 17) (.mov (.r 2)))), (.gd 16 false (some 18) (.p (some 18) (.un .not (.r 17)))), (.op (.pk (some 19) (.r 16) (.c (.bool true)) (.r 18)))] false) (.ite (.r 19) (.seq (.ops [(.op (.p (some 8) (.mov (.c (.int .i64 1)))))] false) .ret) .skip)) (.seq (.seq (.ops [(.op (.p (some 20) (.mov (.r 0)))), (.op (.p (some 21) (.nck (.r 20)))), (.op (.p (some 22) (.fad (.r 21) 6))), (.op (.ld (some 23) none (.r 22))), (.op (.p (some 24) (.fad (.r 5) 0))), (.op (.ld (some 25) none (.r 24))), (.op (.p (some 26) (.ixa 2 (.r 23) (.r 25)))), (.op (.ld (some 27) (some 2) (.r 26))), (.op (.nw (some 10) 147 [(.pointer none), (.int .i64 0)])), (.op (.st none 2 (.r 10) (.r 27)))] true) (.seq (.ops [(.op (.p (some 28) (.fad (.r 10) 1))), (.op (.ld (some 29) none (.r 28))), (.op (.p (some 30) (.cmp .eql (.r 29) (.c (.int .i64 1)))))] false) (.ite (.r 30) (.seq (.ops [(.op (.p (some 31) (.mov (.r 3)))), (.op (.ld (some 32) (some 2) (.r 10))), (.op (.p (some 33) (.mov (.r 9)))), (.op (.cf (some 34) (.r 31) [(.r 32), (.r 33)])), (.op (.p (some 8) (.mov (.r 34))))] false) .ret) .skip))) (.seq (.ops [(.op (.p (some 8) (.mov (.c (.int .i64 15)))))] false) .ret))))), [(.t (.r 8))]⟩
theorem c119_eq : cF Tryz.prog Tryz.f119 = some c119 := by kernel_rfl
/-- (*solvent/shelf.Shelf).Up -/
def c57 : Fun := ⟨8, (.seq (.ops [(.op (.p (some 2) (.mov (.c (.bool false)))))] false) (.seq (.ops [(.op (.p (some 3) (.mov (.r 0)))), (.op (.p (some 4) (.nck (.r 3)))), (.op (.p (some 5) (.fad (.r 4) 8))), (.op (.ld (some 6) none (.r 5))), (.op (.p (some 7) (.un .not (.r 6)))), (.op (.p (some 2) (.mov (.r 7))))] false) .ret)), [(.t (.r 2))]⟩
theorem c57_eq : cF Tryz.prog Tryz.f57 = some c57 := by kernel_rfl
/-- (*solvent/shelf.Shelf).Peek -/
def c35 : Fun := ⟨15, (.seq (.ops [(.op (.bx (some 3) 53 (.r 1))), (.op (.p (some 4) (.mov (.c (.string ⟨#[]⟩))))), (.op (.p (some 5) (.mov (.c (.bool false)))))] false) (.seq (.ops [(.op (.nw (some 6) 9 [(.string ⟨#[]⟩)]))] false) (.seq (.ops [(.op (.p (some 8) (.mov (.r 0)))), (.op (.ld (some 9) (some 3) (.r 3))), (.op (.p (some 10) (.mkf (.func 120) [] [(.r 6)]))), (.op (.call (some 11) 119 [(.r 8), (.r 9), (.c (.bool true)), (.r 10)])), (.op (.p (some 7) (.mov (.r 11))))] false) (.seq (.ops [(.op (.ld (some 12) none (.r 6))), (.op (.p (some 13) (.mov (.r 7)))), (.op (.p (some 14) (.cmp .eql (.r 13) (.c (.int .i64 0))))), (.op (.p (some 4) (.mov (.r 12)))), (.op (.p (some 5) (.mov (.r 14))))] false) .ret)))), [(.t (.r 4)), (.t (.r 5))]⟩
theorem c35_eq : cF Tryz.prog Tryz.f35 = some c35 := by kernel_rfl
/-- (*solvent/shelf.Shelf).Peek$1 -/
def c120 : Fun := ⟨15, (.seq (.ops [(.op (.bx (some 3) 147 (.r 0))), (.op (.p (some 5) (.mov (.c (.int .i64 0)))))] false) (.seq (.ops [(.op (.p (some 6) (.mov (.c (.int .i64 0)))))] false) (.seq (.ops [(.op (.p (some 8) (.fad (.r 3) 0))), (.op (.ld (some 9) none (.r 8))), (.op (.p (some 10) (.mov (.r 1)))), (.op (.call (some 11) 121 [(.r 9), (.r 10)])), (.op (.p (some 7) (.mov (.r 11)))), (.op (.p (some 12) (.ext (.r 7) 0))), (.op (.p (some 13) (.ext (.r 7) 1))), (.op (.st none 1 (.r 2) (.r 12))), (.op (.p (some 6) (.mov (.r 13))))] false) (.seq (.ops [(.op (.p (some 14) (.mov (.r 6)))), (.op (.p (some 5) (.mov (.r 14))))] false) .ret)))), [(.t (.r 5))]⟩
theorem c120_eq : cF Tryz.prog Tryz.f120 = some c120 := by kernel_rfl
end Go.Proofs.YtjnogknjdjphaaaGreat

/-
  A cut between two pieces of code; parts of strings.
-/
namespace Dn
open Go

variable {P : Program} {m : Nat} {w : World} {L L1 L2 Lb : List (Nat × Obj)} {F : Fr} {T : Rg} {N : Rg → World → Prop} {l : List Ins} {d : Option Nat} {ty : TypeId} {K : Ex → Rg → World → Prop} {a b : Cd}

/-- Between two pieces of code only named registers are kept in mind. -/
theorem s_cut {σ : Type} (vals : σ → List (Nat × Value)) (inv : σ → World → Prop) (h1 : Ev P m a (thenK (fun T' w' => T'.ds = [] ∧ ∃ s, pins T' (vals s) ∧ inv s w') K) T w)
    (h2 : ∀ (g : Nat → Value) (s : σ) w', inv s w' → Ev P m b K (setL ⟨g, []⟩ (vals s)) w') : Ev P m (.seq a b) K T w := by
  refine s_seq (Ev_mono ?_ _ h1)
  rintro ex T' w' hk
  cases ex with
  | n =>
    obtain ⟨hd, s, hp, hi⟩ := hk
    obtain ⟨f, ds⟩ := T'
    simp only at hd; subst hd
    have := h2 f s w' hi
    rw [setL_pins hp] at this
    exact this
  | x id => exact hk
  | r => exact hk

theorem extract_list (s : List UInt8) (i j : Nat) (hj : j ≤ s.length) : (⟨⟨s⟩⟩ : ByteArray).extract i j = ⟨⟨(s.drop i).take (j - i)⟩⟩ := by
  apply ByteArray.ext
  rw [ByteArray.data_extract]
  apply Array.ext'
  simp [List.take_drop, List.extract_eq_take_drop]
theorem e_slsL {x : X} {s : List UInt8} {lo hi : Option X} {i j : Nat} (hx : T.ev x = .string ⟨⟨s⟩⟩) (hb : bndV T hi s.length s.length = some j) (ha : bndV T lo 0 j = some i) (hj : j ≤ s.length) (h : Evs P l N (updO T d (.string ⟨⟨(s.drop i).take (j - i)⟩⟩)) w) : Evs P (.op (.p d (.sls x lo hi)) :: l) N T w := by
  refine e_sls hx (b := j) (a := i) hb ha ?_
  rw [extract_list s i j hj]; exact h
theorem cvi_i64u8 {T : Rg} {x : X} {u : UInt8} (h : T.ev x = .int .u8 (u.toNat : Int)) : (PE.cvi .i64 x).ev T = some (.int .i64 (u.toNat : Int)) := by
  have := UInt8.toNat_lt u
  simp only [PE.ev, h]; rw [wrap_id (by omega) (by omega)]
theorem cvi_i64u32 {T : Rg} {x : X} {u : BitVec 32} (h : T.ev x = u32 u) : (PE.cvi .i64 x).ev T = some (.int .i64 (u.toNat : Int)) := by
  have := u.isLt
  simp only [PE.ev, h]; rw [wrap_id (by omega) (by omega)]
theorem cmpS_neq {T : Rg} {x y : X} {a b : List UInt8} (hx : T.ev x = .string ⟨⟨a⟩⟩) (hy : T.ev y = .string ⟨⟨b⟩⟩) : (PE.cmp .neq x y).ev T = some (.bool (!decide (a = b))) := by
  simp only [PE.ev, hx, hy, cmpS]
  congr 3
  have : ∀ l : List UInt8, (⟨⟨l⟩⟩ : ByteArray).toList = l := by
    intro l
    simp [ByteArray.toList_eq]
  rw [this, this]
  by_cases h : a = b <;> simp [h]
theorem cmp_neqD {T : Rg} {x y : X} {a b : Int} (hx : T.ev x = .int .i64 a) (hy : T.ev y = .int .i64 b) : (PE.cmp .neq x y).ev T = some (.bool (!decide (a = b))) := by
  simp only [PE.ev, hx, hy, kEq, cond_true, cmpI]
  by_cases h : a = b <;> simp [h]
theorem cmp_eqlD {T : Rg} {x y : X} {a b : Int} (hx : T.ev x = .int .i64 a) (hy : T.ev y = .int .i64 b) : (PE.cmp .eql x y).ev T = some (.bool (decide (a = b))) := by
  simp only [PE.ev, hx, hy, kEq, cond_true, cmpI]
  by_cases h : a = b <;> simp [h]
/-- A guard over a negation. -/
theorem e_brN {r : Nat} {t : Bool} {p : Prop} [Decidable p] {o : Bop} (hc : T.f r = .bool (!decide p)) (h1 : p → Evs P (.gd r t d o :: l) N (upd T r (.bool false)) w) (h2 : ¬ p → Evs P (.gd r t d o :: l) N (upd T r (.bool true)) w) : Evs P (.gd r t d o :: l) N T w := by
  have hs := upd_same T r
  by_cases e : p
  · have := h1 e
    rw [show Value.bool false = T.f r from by rw [hc, decide_eq_true e]; rfl, hs] at this
    exact this
  · have := h2 e
    rw [show Value.bool true = T.f r from by rw [hc, decide_eq_false e]; rfl, hs] at this
    exact this
theorem s_iteN {c : X} {p : Prop} [Decidable p] {a b : Cd} (hc : T.ev c = .bool (!decide p)) (h1 : ¬ p → Ev P m a K T w) (h2 : p → Ev P m b K T w) : Ev P m (.ite c a b) K T w := by
  by_cases e : p
  · exact s_iteF (by rw [hc, decide_eq_true e]; rfl) (h2 e)
  · exact s_iteT (by rw [hc, decide_eq_false e]; rfl) (h1 e)

/-- A call that is given no blocks. -/
theorem e_callN {f : FuncId} {args : List X} {vs : List Value} {post : Value → List (Nat × Obj) → Prop} (ha : T.evs args = vs) (hf : DSpec P f vs [] post) (S : Sep w L F)
    (h : ∀ v L' w', post v L' → Sep w' (L ++ L') F → Evs P l N (updO T d v) w') : Evs P (.op (.call d f args) :: l) N T w :=
  e_call (L1 := []) (L2 := L) ha hf (by simpa using S) h

end Dn

/-
  A shelf's memory.
-/
namespace Dn
open Go

structure Cfg where
  disks : Int
  racks : Int
  rows : Int
  spare : Int
  log : Int
  image : Int
deriving DecidableEq
def Cfg.v (c : Cfg) : List Value := [.int .i64 c.disks, .int .i64 c.racks, .int .i64 c.rows, .int .i64 c.spare, .int .i64 c.log, .int .i64 c.image]
/-- valid (design.Check) -/
def Cfg.ok (c : Cfg) : Prop :=
  (1 ≤ c.disks ∧ c.disks ≤ 64) ∧ (1 ≤ c.racks ∧ c.racks ≤ 8) ∧ (1 ≤ c.rows ∧ c.rows ≤ 4096) ∧ (0 ≤ c.spare ∧ c.spare ≤ c.disks - 1) ∧ (1 ≤ c.log ∧ c.log ≤ 65536) ∧ (1 ≤ c.image ∧ c.image ≤ 65536) ∧ c.disks.tmod c.racks = 0
@[irreducible] instance Cfg.okD (c : Cfg) : Decidable c.ok := by unfold Cfg.ok; infer_instance
def Cfg.szs (c : Cfg) : List Int := [c.log, c.image, c.image, c.rows]
def Cfg.total (c : Cfg) : Int := c.log + c.image + c.image + c.rows

structure Sh where
  q : Nat
  bb : Nat
  cap : Nat
  sp : List Value
  fr : Nat × Nat
  cfg : Cfg
  bays : List (Dk × Int)
  off : Bool
  fused : Bool
  left : Int

def bayV (b : Dk × Int) : List Value := [b.1.v, .int .i64 b.2]
def Sh.hd (s : Sh) : List Value := s.cfg.v ++ [.slice (some ⟨s.bb, 0, none⟩) s.bays.length s.cap, .slice none 0 0, .bool s.off, .bool s.fused, .int .i64 s.left]
def Sh.L (s : Sh) : List (Nat × Obj) :=
  (s.q, .cells ⟨s.hd⟩ 143) :: (s.bb, .cells ⟨s.bays.flatMap bayV ++ s.sp⟩ 147 s.fr) :: s.bays.flatMap (·.1.L)
def Sh.v (s : Sh) : Value := .pointer (some ⟨s.q, 0, none⟩)

theorem bay_at : ∀ (l : List (Dk × Int)) (d : Nat) (b : Dk × Int) (sp : List Value), l[d]? = some b → ((l.flatMap bayV ++ sp).drop (d * 2)).take 2 = bayV b ∧ (l.flatMap bayV ++ sp)[d * 2 + 1]? = some (.int .i64 b.2) ∧ (l.flatMap bayV ++ sp)[d * 2]? = some b.1.v ∧ d * 2 + 2 ≤ (l.flatMap bayV ++ sp).length := by
  intro l
  induction l with
  | nil => intro d b sp h; simp at h
  | cons x l ih =>
    intro d b sp h
    cases d with
    | zero =>
      simp only [List.getElem?_cons_zero, Option.some.injEq] at h
      subst h
      simp [List.flatMap_cons, bayV]
    | succ d =>
      obtain ⟨h1, h2, h3, h4⟩ := ih d b sp (by simpa using h)
      have e : (d + 1) * 2 = d * 2 + 2 := by omega
      rw [e]
      have hx : bayV x ++ l.flatMap bayV ++ sp = x.1.v :: .int .i64 x.2 :: (l.flatMap bayV ++ sp) := by simp [bayV]
      simp only [List.flatMap_cons, hx]
      exact ⟨by simpa using h1, by simpa using h2, by simpa using h3, by simpa using h4⟩

/-- All blocks but those of one disk. -/
def Sh.pre (s : Sh) (d : Nat) : List (Nat × Obj) :=
  (s.q, .cells ⟨s.hd⟩ 143) :: (s.bb, .cells ⟨s.bays.flatMap bayV ++ s.sp⟩ 147 s.fr) :: ((s.bays.take d).flatMap (·.1.L) ++ (s.bays.drop (d + 1)).flatMap (·.1.L))
def Sh.setD (s : Sh) (d : Nat) (D : Dk) : Sh := { s with bays := s.bays.set d (D, ((s.bays[d]?).getD (D, 0)).2) }

theorem split_at (l : List (Dk × Int)) (d : Nat) (b : Dk × Int) (h : l[d]? = some b) : l = l.take d ++ b :: l.drop (d + 1) := by
  have hlt : d < l.length := by rcases Nat.lt_or_ge d l.length with h' | h'
                                · exact h'
                                · rw [List.getElem?_eq_none h'] at h; simp at h
  have e : l[d] = b := by rw [List.getElem?_eq_getElem hlt] at h; exact Option.some.inj h
  rw [← e, List.getElem_cons_drop]
  simp
theorem Sh.out (s : Sh) (d : Nat) (D : Dk) (st : Int) (h : s.bays[d]? = some (D, st)) : s.L.Perm (s.pre d ++ D.L) := by
  unfold Sh.L Sh.pre
  refine List.Perm.cons _ (List.Perm.cons _ ?_)
  have := split_at s.bays d (D, st) h
  conv => lhs; rw [this]
  simp only [List.flatMap_append, List.flatMap_cons, List.append_assoc]
  show List.Perm _ (((s.bays.take d).flatMap (·.1.L) ++ (s.bays.drop (d + 1)).flatMap (·.1.L)) ++ D.L)
  rw [List.append_assoc]
  exact (List.Perm.refl _).append List.perm_append_comm
theorem flatMap_set {β : Type} (f : Dk × Int → List β) (l : List (Dk × Int)) (d : Nat) (b b' : Dk × Int) (h : l[d]? = some b) (he : f b' = f b) : (l.set d b').flatMap f = l.flatMap f := by
  have hlt : d < l.length := by rcases Nat.lt_or_ge d l.length with h' | h'
                                · exact h'
                                · rw [List.getElem?_eq_none h'] at h; simp at h
  rw [List.set_eq_take_append_cons_drop, if_pos hlt]
  conv => rhs; rw [split_at l d b h]
  simp [he]
theorem Sh.setD_bays (s : Sh) (d : Nat) (D D' : Dk) (st : Int) (h : s.bays[d]? = some (D, st)) : (s.setD d D').bays = s.bays.set d (D', st) := by simp [Sh.setD, h]
theorem Sh.back (s : Sh) (d : Nat) (D D' : Dk) (st : Int) (h : s.bays[d]? = some (D, st)) (hq : D'.q = D.q) : (s.pre d ++ D'.L).Perm (s.setD d D').L := by
  have hlt : d < s.bays.length := by rcases Nat.lt_or_ge d s.bays.length with h' | h'
                                     · exact h'
                                     · rw [List.getElem?_eq_none h'] at h; simp at h
  have hb : (s.setD d D').bays[d]? = some (D', st) := by rw [Sh.setD_bays s d D D' st h]; simp [hlt]
  refine List.Perm.trans ?_ (Sh.out (s.setD d D') d D' st hb).symm
  have e : (s.setD d D').pre d = s.pre d := by
    unfold Sh.pre
    have e1 : (s.setD d D').bays.flatMap bayV = s.bays.flatMap bayV := by
      rw [Sh.setD_bays s d D D' st h]
      exact flatMap_set bayV s.bays d (D, st) (D', st) h (by simp [bayV, Dk.v, hq])
    have e2 : (s.setD d D').hd = s.hd := by simp [Sh.setD, Sh.hd]
    have e3 : (s.setD d D').bays.take d = s.bays.take d := by
      rw [Sh.setD_bays s d D D' st h, List.take_set, List.set_eq_of_length_le (by simp; omega)]
    have e4 : (s.setD d D').bays.drop (d + 1) = s.bays.drop (d + 1) := by
      rw [Sh.setD_bays s d D D' st h, List.drop_set, if_pos (by omega)]
    rw [e1, e2, e3, e4]; rfl
  rw [e]

def Sh.state (s : Sh) (d : Int) : Int := if d < 0 ∨ d ≥ (s.bays.length : Int) then 0 else ((s.bays[d.toNat]?).map (·.2)).getD 0
/-- the number of the sector at a place, or -1 -/
def Sh.num (s : Sh) (p : Pl) : Int :=
  if s.state p.disk = 0 ∨ p.area < 1 ∨ p.area > 4 then -1
  else if p.index < 0 ∨ p.index ≥ s.cfg.szs.getD (p.area - 1).toNat 0 then -1
  else p.index + (s.cfg.szs.take (p.area - 1).toNat).sum
def Sh.acc (s : Sh) (d : Nat) : Int := if s.off then 14 else if (((s.bays[d]?).map (·.2)).getD 0) ≠ 1 then 15 else 0
/-- a step: the error, whether the power fails, whether it is executed -/
def Sh.stepE (s : Sh) (d : Nat) : Int := if s.acc d ≠ 0 then s.acc d else if s.fused = true ∧ s.left = 0 then 14 else 0
def Sh.stepS (s : Sh) (d : Nat) (D' : Dk) : Sh :=
  if s.acc d ≠ 0 then s else if s.fused = true then (if s.left = 0 then { s with off := true, fused := false } else { s.setD d D' with left := s.left - 1 }) else s.setD d D'

/-- what holds of every shelf -/
structure Sh.ok (s : Sh) : Prop where
  cfg : s.cfg.ok
  len : (s.bays.length : Int) = s.cfg.disks
  fuse : s.fused = true → 0 ≤ s.left ∧ s.left < 9223372036854775808
  dks : ∀ b ∈ s.bays, b.1.ok
  szs : ∀ b ∈ s.bays, (b.1.dur.length : Int) = s.cfg.total

def Sh.dk (s : Sh) (d : Nat) : Dk := ((s.bays[d]?).map (·.1)).getD ⟨0, 0, 0, 0, [], ⟨[], 0⟩, ⟨[], 0⟩⟩
/-- Write: the error, and what becomes of the shelf. -/
def Sh.wrE (s : Sh) (p : Pl) (t : Sec) : Int := if s.num p < 0 ∨ t.length ≠ 64 then 1 else s.stepE p.disk.toNat
def Sh.wrS (s : Sh) (p : Pl) (t : Sec) : Sh := if s.num p < 0 ∨ t.length ≠ 64 then s else s.stepS p.disk.toNat ((s.dk p.disk.toNat).write (s.num p) t)
/-- Read -/
def Sh.rdV (s : Sh) (p : Pl) : Value :=
  if s.num p < 0 then .tuple ⟨[.string ⟨#[]⟩, .int .i64 1]⟩ else if s.acc p.disk.toNat ≠ 0 then .tuple ⟨[.string ⟨#[]⟩, .int .i64 (s.acc p.disk.toNat)]⟩ else .tuple ⟨[.string ⟨⟨(s.dk p.disk.toNat).read (s.num p).toNat⟩⟩, .int .i64 0]⟩

end Dn

/- The compiled forms of functions of this seat, printed by a program of this claim's writer. -/
set_option maxRecDepth 100000
namespace Go.Proofs.YtjnogknjdjphaaaGreat
open Dn Go
/-- solvent/sector.Valid -/
def c188 : Fun := ⟨31, (.seq (.ops [(.op (.bx (some 1) 53 (.r 0))), (.op (.p (some 2) (.mov (.c (.bool false)))))] false) (.seq (.ops [(.op (.p (some 3) (.fad (.r 1) 0))), (.op (.ld (some 4) none (.r 3))), (.op (.p (some 5) (.cmp .geq (.r 4) (.c (.int .i64 0))))), (.op (.p (some 6) (.mov (.r 5)))), (.gd 6 true (some 7) (.p (some 7) (.fad (.r 1) 0))), (.gd 6 true (some 8) (.ld (some 8) none (.r 7))), (.gd 6 true (some 9) (.p (some 9) (.cmp .lss (.r 8) (.c (.int .i64 64))))), (.op (.pk (some 10) (.r 6) (.r 9) (.c (.bool false)))), (.op (.p (some 11) (.mov (.r 10)))), (.gd 11 true (some 12) (.p (some 12) (.fad (.r 1) 1))), (.gd 11 true (some 13) (.ld (some 13) none (.r 12))), (.gd 11 true (some 14) (.p (some 14) (.cmp .geq (.r 13) (.c (.int .i64 1))))), (.op (.pk (some 15) (.r 11) (.r 14) (.c (.bool false)))), (.op (.p (some 16) (.mov (.r 15)))), (.gd 16 true (some 17) (.p (some 17) (.fad (.r 1) 1))), (.gd 16 true (some 18) (.ld (some 18) none (.r 17))), (.gd 16 true (some 19) (.p (some 19) (.cmp .leq (.r 18) (.c (.int .i64 4))))), (.op (.pk (some 20) (.r 16) (.r 19) (.c (.bool false)))), (.op (.p (some 21) (.mov (.r 20)))), (.gd 21 true (some 22) (.p (some 22) (.fad (.r 1) 2))), (.gd 21 true (some 23) (.ld (some 23) none (.r 22))), (.gd 21 true (some 24) (.p (some 24) (.cmp .geq (.r 23) (.c (.int .i64 0))))), (.op (.pk (some 25) (.r 21) (.r 24) (.c (.bool false)))), (.op (.p (some 26) (.mov (.r 25)))), (.gd 26 true (some 27) (.p (some 27) (.fad (.r 1) 2))), (.gd 26 true (some 28) (.ld (some 28) none (.r 27))), (.gd 26 true (some 29) (.p (some 29) (.cmp .lss (.r 28) (.c (.int .i64 65536))))), (.op (.pk (some 30) (.r 26) (.r 29) (.c (.bool false)))), (.op (.p (some 2) (.mov (.r 30))))] false) .ret)), [(.t (.r 2))]⟩
theorem c188_eq : cF Tryz.prog Tryz.f188 = some c188 := by kernel_rfl
/-- solvent/sector.validGen -/
def c204 : Fun := ⟨22, (.seq (.ops [(.op (.bx (some 1) 58 (.r 0))), (.op (.p (some 2) (.mov (.c (.bool false)))))] false) (.seq (.ops [(.op (.p (some 3) (.fad (.r 1) 0))), (.op (.ld (some 4) none (.r 3))), (.op (.p (some 5) (.fad (.r 1) 1))), (.op (.ld (some 6) none (.r 5))), (.op (.p (some 7) (.mn (.r 4) [(.r 6)]))), (.op (.p (some 8) (.cmp .geq (.r 7) (.c (.int .i64 0))))), (.op (.p (some 9) (.mov (.r 8)))), (.gd 9 true (some 10) (.p (some 10) (.fad (.r 1) 0))), (.gd 9 true (some 11) (.ld (some 11) none (.r 10))), (.gd 9 true (some 12) (.p (some 12) (.fad (.r 1) 1))), (.gd 9 true (some 13) (.ld (some 13) none (.r 12))), (.gd 9 true (some 14) (.p (some 14) (.mx (.r 11) [(.r 13)]))), (.gd 9 true (some 15) (.p (some 15) (.cmp .lss (.r 14) (.c (.int .i64 4294967296))))), (.op (.pk (some 16) (.r 9) (.r 15) (.c (.bool false)))), (.op (.p (some 17) (.mov (.r 16)))), (.gd 17 true (some 18) (.ld (some 18) (some 2) (.r 1))), (.gd 17 true (some 19) (.p (some 19) (.bld [(.int .i64 0), (.int .i64 0)] []))), (.gd 17 true (some 20) (.p (some 20) (.eqc true 2 (.r 18) (.r 19)))), (.op (.pk (some 21) (.r 17) (.r 20) (.c (.bool false)))), (.op (.p (some 2) (.mov (.r 21))))] false) .ret)), [(.t (.r 2))]⟩
theorem c204_eq : cF Tryz.prog Tryz.f204 = some c204 := by kernel_rfl
/-- solvent/sector.put[uint16] -/
def c220 : Fun := ⟨19, (.seq (.ops [(.op (.p (some 4) (.mov (.c (.slice none 0 0)))))] false) (.seq (.seq (.ops [(.op (.call (some 5) 243 [])), (.op (.p (some 6) (.mov (.c (.int .i64 0)))))] false) (.blk 0 (.loop (.seq (.ops [(.op (.p (some 7) (.cmp .lss (.r 6) (.r 5))))] false) (.seq (.ite (.r 7) .skip (.exit 0)) (.seq (.blk 1 (.seq (.ops [(.op (.p (some 8) (.mov (.r 0)))), (.op (.p (some 9) (.mov (.r 1)))), (.op (.p (some 10) (.cvi .u8 (.r 9)))), (.op (.raw (some 11) (.buildSlice 43 1 #[(0, (.tmp 10))]) 43)), (.op (.raw (some 12) (.call (.mk (.builtin .append) #[(.tmp 8), (.tmp 11)] #[43, 43])) 43)), (.op (.p (some 0) (.mov (.r 12))))] false) (.ops [(.op (.p (some 13) (.mov (.r 1)))), (.op (.p (some 14) (.cvi .u64 (.r 13)))), (.op (.ar (some 15) .shr (.r 14) (.c (.int .u64 8)))), (.op (.p (some 16) (.cvi .u16 (.r 15)))), (.op (.p (some 1) (.mov (.r 16))))] false))) (.ops [(.op (.ar (some 17) .add (.r 6) (.c (.int .i64 1)))), (.op (.p (some 6) (.mov (.r 17))))] false))))))) (.seq (.ops [(.op (.p (some 18) (.mov (.r 0)))), (.op (.p (some 4) (.mov (.r 18))))] false) .ret))), [(.t (.r 4))]⟩
theorem c220_eq : cF Tryz.prog Tryz.f220 = some c220 := by kernel_rfl
/-- solvent/sector.put[uint32] -/
def c221 : Fun := ⟨19, (.seq (.ops [(.op (.p (some 4) (.mov (.c (.slice none 0 0)))))] false) (.seq (.seq (.ops [(.op (.call (some 5) 244 [])), (.op (.p (some 6) (.mov (.c (.int .i64 0)))))] false) (.blk 0 (.loop (.seq (.ops [(.op (.p (some 7) (.cmp .lss (.r 6) (.r 5))))] false) (.seq (.ite (.r 7) .skip (.exit 0)) (.seq (.blk 1 (.seq (.ops [(.op (.p (some 8) (.mov (.r 0)))), (.op (.p (some 9) (.mov (.r 1)))), (.op (.p (some 10) (.cvi .u8 (.r 9)))), (.op (.raw (some 11) (.buildSlice 43 1 #[(0, (.tmp 10))]) 43)), (.op (.raw (some 12) (.call (.mk (.builtin .append) #[(.tmp 8), (.tmp 11)] #[43, 43])) 43)), (.op (.p (some 0) (.mov (.r 12))))] false) (.ops [(.op (.p (some 13) (.mov (.r 1)))), (.op (.p (some 14) (.cvi .u64 (.r 13)))), (.op (.ar (some 15) .shr (.r 14) (.c (.int .u64 8)))), (.op (.p (some 16) (.cvi .u32 (.r 15)))), (.op (.p (some 1) (.mov (.r 16))))] false))) (.ops [(.op (.ar (some 17) .add (.r 6) (.c (.int .i64 1)))), (.op (.p (some 6) (.mov (.r 17))))] false))))))) (.seq (.ops [(.op (.p (some 18) (.mov (.r 0)))), (.op (.p (some 4) (.mov (.r 18))))] false) .ret))), [(.t (.r 4))]⟩
theorem c221_eq : cF Tryz.prog Tryz.f221 = some c221 := by kernel_rfl
/-- solvent/sector.sizeOf[uint16] -/
def c243 : Fun := ⟨13, (.seq (.ops [(.op (.p (some 0) (.mov (.c (.int .i64 0)))))] false) (.seq (.ops [(.op (.p (some 1) (.mov (.c (.int .i64 0)))))] false) (.seq (.seq (.ops [(.op (.p (some 3) (.cvi .u16 (.c (.int .i64 0))))), (.op (.p (some 4) (.un .xor (.r 3)))), (.op (.p (some 5) (.cvi .u64 (.r 4)))), (.op (.p (some 2) (.mov (.r 5))))] false) (.blk 0 (.loop (.seq (.seq (.ops [(.op (.p (some 6) (.mov (.r 2)))), (.op (.p (some 7) (.cmp .gtr (.r 6) (.c (.int .u64 0)))))] false) (.ite (.r 7) .skip (.exit 0))) (.seq (.blk 1 (.ops [(.op (.p (some 10) (.mov (.r 1)))), (.op (.ar (some 11) .add (.r 10) (.c (.int .i64 1)))), (.op (.p (some 1) (.mov (.r 11))))] false)) (.ops [(.op (.p (some 8) (.mov (.r 2)))), (.op (.ar (some 9) .shr (.r 8) (.c (.int .u64 8)))), (.op (.p (some 2) (.mov (.r 9))))] false)))))) (.seq (.ops [(.op (.p (some 12) (.mov (.r 1)))), (.op (.p (some 0) (.mov (.r 12))))] false) .ret)))), [(.t (.r 0))]⟩
theorem c243_eq : cF Tryz.prog Tryz.f243 = some c243 := by kernel_rfl
/-- solvent/sector.sizeOf[uint32] -/
def c244 : Fun := ⟨13, (.seq (.ops [(.op (.p (some 0) (.mov (.c (.int .i64 0)))))] false) (.seq (.ops [(.op (.p (some 1) (.mov (.c (.int .i64 0)))))] false) (.seq (.seq (.ops [(.op (.p (some 3) (.cvi .u32 (.c (.int .i64 0))))), (.op (.p (some 4) (.un .xor (.r 3)))), (.op (.p (some 5) (.cvi .u64 (.r 4)))), (.op (.p (some 2) (.mov (.r 5))))] false) (.blk 0 (.loop (.seq (.seq (.ops [(.op (.p (some 6) (.mov (.r 2)))), (.op (.p (some 7) (.cmp .gtr (.r 6) (.c (.int .u64 0)))))] false) (.ite (.r 7) .skip (.exit 0))) (.seq (.blk 1 (.ops [(.op (.p (some 10) (.mov (.r 1)))), (.op (.ar (some 11) .add (.r 10) (.c (.int .i64 1)))), (.op (.p (some 1) (.mov (.r 11))))] false)) (.ops [(.op (.p (some 8) (.mov (.r 2)))), (.op (.ar (some 9) .shr (.r 8) (.c (.int .u64 8)))), (.op (.p (some 2) (.mov (.r 9))))] false)))))) (.seq (.ops [(.op (.p (some 12) (.mov (.r 1)))), (.op (.p (some 0) (.mov (.r 12))))] false) .ret)))), [(.t (.r 0))]⟩
theorem c244_eq : cF Tryz.prog Tryz.f244 = some c244 := by kernel_rfl
/-- solvent/sector.get -/
def c202 : Fun := ⟨21, (.seq (.ops [(.op (.p (some 2) (.mov (.c (.int .i64 0)))))] false) (.seq (.ops [(.op (.p (some 3) (.mov (.c (.int .i64 0)))))] false) (.seq (.seq (.ops [(.op (.p (some 5) (.mov (.r 0)))), (.op (.p (some 6) (.lns (.r 5)))), (.op (.p (some 7) (.mov (.c (.int .i64 0)))))] false) (.blk 0 (.loop (.seq (.ops [(.op (.p (some 8) (.cmp .lss (.r 7) (.r 6))))] false) (.seq (.ite (.r 8) .skip (.exit 0)) (.seq (.blk 1 (.seq (.ops [(.op (.p (some 9) (.mov (.r 7)))), (.op (.p (some 4) (.mov (.r 9))))] false) (.ops [(.op (.p (some 10) (.mov (.r 3)))), (.op (.p (some 11) (.mov (.r 0)))), (.op (.p (some 12) (.mov (.r 4)))), (.op (.p (some 13) (.ixs (.r 11) (.r 12)))), (.op (.p (some 14) (.cvi .i64 (.r 13)))), (.op (.p (some 15) (.mov (.r 4)))), (.op (.ar (some 16) .mul (.c (.int .i64 8)) (.r 15))), (.op (.ar (some 17) .shl (.r 14) (.r 16))), (.op (.ar (some 18) .or (.r 10) (.r 17))), (.op (.p (some 3) (.mov (.r 18))))] false))) (.ops [(.op (.ar (some 19) .add (.r 7) (.c (.int .i64 1)))), (.op (.p (some 7) (.mov (.r 19))))] false))))))) (.seq (.ops [(.op (.p (some 20) (.mov (.r 3)))), (.op (.p (some 2) (.mov (.r 20))))] false) .ret)))), [(.t (.r 2))]⟩
theorem c202_eq : cF Tryz.prog Tryz.f202 = some c202 := by kernel_rfl
/-- solvent/sector.Seal -/
def c159 : Fun := ⟨65, (.seq (.ops [(.op (.bx (some 3) 53 (.r 0))), (.op (.bx (some 4) 58 (.r 1))), (.op (.p (some 6) (.mov (.c (.string ⟨#[]⟩))))), (.op (.p (some 7) (.mov (.c (.int .i64 0)))))] false) (.seq (.seq (.ops [(.op (.ld (some 9) (some 3) (.r 3))), (.op (.call (some 10) 188 [(.r 9)])), (.op (.p (some 11) (.un .not (.r 10)))), (.op (.p (some 12) (.mov (.r 11)))), (.gd 12 false (some 13) (.ld (some 13) (some 2) (.r 4))), (.gd 12 false (some 14) (.call (some 14) 204 [(.r 13)])), (.gd 12 false (some 15) (.p (some 15) (.un .not (.r 14)))), (.op (.pk (some 16) (.r 12) (.c (.bool true)) (.r 15))), (.op (.p (some 17) (.mov (.r 16)))), (.gd 17 false (some 18) (.p (some 18) (.mov (.r 2)))), (.gd 17 false (some 19) (.p (some 19) (.lns (.r 18)))), (.gd 17 false (some 20) (.p (some 20) (.cmp .gtr (.r 19) (.c (.int .i64 40))))), (.op (.pk (some 21) (.r 17) (.c (.bool true)) (.r 20)))] false) (.ite (.r 21) (.seq (.ops [(.op (.p (some 6) (.mov (.c (.string ⟨#[]⟩))))), (.op (.p (some 7) (.mov (.c (.int .i64 1)))))] false) .ret) .skip)) (.seq (.ops [(.op (.p (some 22) (.fad (.r 3) 1))), (.op (.ld (some 23) none (.r 22))), (.op (.p (some 24) (.cvi .u8 (.r 23)))), (.op (.p (some 25) (.fad (.r 3) 0))), (.op (.ld (some 26) none (.r 25))), (.op (.p (some 27) (.cvi .u8 (.r 26)))), (.op (.raw (some 28) (.buildSlice 43 2 #[(0, (.tmp 24)), (1, (.tmp 27))]) 43)), (.op (.p (some 29) (.fad (.r 3) 2))), (.op (.ld (some 30) none (.r 29))), (.op (.p (some 31) (.cvi .u16 (.r 30)))), (.op (.call (some 32) 220 [(.r 28), (.r 31)])), (.op (.p (some 8) (.mov (.r 32))))] false) (.seq (.dr (.step (.op (.p (some 33) (.mov (.r 8)))) (.step (.op (.p (some 34) (.fad (.r 4) 0))) (.step (.op (.ld (some 35) none (.r 34))) (.step (.op (.p (some 36) (.cvi .u32 (.r 35)))) (.step (.op (.p (some 38) (.fad (.r 4) 1))) (.alt (.step (.op (.call (some 37) 221 [(.r 33), (.r 36)])) (.step (.op (.ld (some 39) none (.r 38))) (.step (.op (.p (some 40) (.cvi .u32 (.r 39)))) (.step (.op (.call (some 41) 221 [(.r 37), (.r 40)])) (.step (.op (.p (some 8) (.mov (.r 41)))) .done))))) (.step (.op (.ld (some 39) none (.r 38))) (.step (.op (.call (some 37) 221 [(.r 33), (.r 36)])) (.step (.op (.p (some 40) (.cvi .u32 (.r 39)))) (.step (.op (.call (some 41) 221 [(.r 37), (.r 40)])) (.step (.op (.p (some 8) (.mov (.r 41)))) .done)))))))))))) (.seq (.ops [(.op (.p (some 42) (.mov (.r 8)))), (.op (.p (some 43) (.mov (.r 2)))), (.op (.raw (some 44) (.call (.mk (.builtin .append) #[(.tmp 42), (.tmp 43)] #[43, 9])) 43)), (.op (.p (some 8) (.mov (.r 44))))] false) (.seq (.ops [(.op (.p (some 45) (.mov (.r 8)))), (.op (.p (some 46) (.mov (.r 2)))), (.op (.p (some 47) (.lns (.r 46)))), (.op (.ar (some 48) .sub (.c (.int .i64 40)) (.r 47))), (.op (.raw (some 49) (.call (.mk (.builtin .append) #[(.tmp 45), (.tmp 48)] #[43, 3])) 43)), (.op (.p (some 8) (.mov (.r 49))))] false) (.seq (.dr (.step (.op (.p (some 50) (.mov (.r 8)))) (.step (.op (.p (some 51) (.fad (.r 4) 0))) (.step (.op (.ld (some 52) none (.r 51))) (.step (.op (.p (some 53) (.cvi .u32 (.r 52)))) (.step (.op (.p (some 55) (.fad (.r 4) 1))) (.alt (.step (.op (.call (some 54) 221 [(.r 50), (.r 53)])) (.step (.op (.ld (some 56) none (.r 55))) (.step (.op (.p (some 57) (.cvi .u32 (.r 56)))) (.step (.op (.call (some 58) 221 [(.r 54), (.r 57)])) (.step (.op (.p (some 8) (.mov (.r 58)))) .done))))) (.step (.op (.ld (some 56) none (.r 55))) (.step (.op (.call (some 54) 221 [(.r 50), (.r 53)])) (.step (.op (.p (some 57) (.cvi .u32 (.r 56)))) (.step (.op (.call (some 58) 221 [(.r 54), (.r 57)])) (.step (.op (.p (some 8) (.mov (.r 58)))) .done)))))))))))) (.seq (.ops [(.op (.p (some 59) (.mov (.r 8)))), (.op (.call (some 60) 203 [(.r 59)])), (.op (.call (some 61) 221 [(.c (.slice none 0 0)), (.r 60)])), (.op (.p (some 62) (.mov (.r 8)))), (.op (.raw (some 63) (.call (.mk (.builtin .append) #[(.tmp 61), (.tmp 62)] #[43, 43])) 43)), (.op (.b2s (some 64) (.r 63))), (.op (.p (some 6) (.mov (.r 64)))), (.op (.p (some 7) (.mov (.c (.int .i64 0)))))] false) .ret)))))))), [(.t (.r 6)), (.t (.r 7))]⟩
theorem c159_eq : cF Tryz.prog Tryz.f159 = some c159 := by kernel_rfl
/-- solvent/sector.Label -/
def c138 : Fun := ⟨61, (.seq (.ops [(.op (.nw (some 2) 53 [(.int .i64 0), (.int .i64 0), (.int .i64 0)])), (.op (.nw (some 3) 58 [(.int .i64 0), (.int .i64 0)])), (.op (.p (some 4) (.mov (.c (.int .i64 0)))))] false) (.seq (.seq (.ops [(.op (.p (some 8) (.mov (.r 0)))), (.op (.p (some 9) (.lns (.r 8)))), (.op (.p (some 10) (.cmp .neq (.r 9) (.c (.int .i64 64)))))] false) (.ite (.r 10) (.seq (.ops [(.op (.p (some 11) (.bld [(.int .i64 0), (.int .i64 0), (.int .i64 0)] []))), (.op (.p (some 12) (.bld [(.int .i64 0), (.int .i64 0)] []))), (.op (.st none 3 (.r 2) (.r 11))), (.op (.st none 2 (.r 3) (.r 12))), (.op (.p (some 4) (.mov (.c (.int .i64 1)))))] false) .ret) .skip)) (.seq (.dr (.step (.op (.p (some 13) (.mov (.r 0)))) (.step (.op (.p (some 14) (.ixs (.r 13) (.c (.int .i64 4))))) (.step (.op (.p (some 15) (.cvi .i64 (.r 14)))) (.step (.op (.p (some 16) (.mov (.r 0)))) (.step (.op (.p (some 17) (.ixs (.r 16) (.c (.int .i64 5))))) (.step (.op (.p (some 18) (.cvi .i64 (.r 17)))) (.step (.op (.p (some 19) (.mov (.r 0)))) (.step (.op (.p (some 20) (.sls (.r 19) (some (.c (.int .i64 6))) (some (.c (.int .i64 8)))))) (.alt (.step (.op (.call (some 21) 202 [(.r 20)])) (.step (.op (.p (some 22) (.bld [(.int .i64 0), (.int .i64 0), (.int .i64 0)] [(1, (1, (.r 15))), (0, (1, (.r 18))), (2, (1, (.r 21)))]))) (.step (.op (.nw (some 5) 53 [(.int .i64 0), (.int .i64 0), (.int .i64 0)])) (.step (.op (.st none 3 (.r 5) (.r 22))) .done)))) (.step (.op (.nw (some 5) 53 [(.int .i64 0), (.int .i64 0), (.int .i64 0)])) (.step (.op (.call (some 21) 202 [(.r 20)])) (.step (.op (.p (some 22) (.bld [(.int .i64 0), (.int .i64 0), (.int .i64 0)] [(1, (1, (.r 15))), (0, (1, (.r 18))), (2, (1, (.r 21)))]))) (.step (.op (.st none 3 (.r 5) (.r 22))) .done)))))))))))))) (.seq (.dr (.step (.op (.p (some 23) (.mov (.r 0)))) (.step (.op (.p (some 24) (.sls (.r 23) (some (.c (.int .i64 8))) (some (.c (.int .i64 12)))))) (.step (.op (.p (some 26) (.mov (.r 0)))) (.step (.op (.p (some 27) (.sls (.r 26) (some (.c (.int .i64 12))) (some (.c (.int .i64 16)))))) (.alt (.step (.op (.call (some 25) 202 [(.r 24)])) (.alt (.step (.op (.call (some 28) 202 [(.r 27)])) (.step (.op (.p (some 29) (.bld [(.int .i64 0), (.int .i64 0)] [(0, (1, (.r 25))), (1, (1, (.r 28)))]))) (.step (.op (.nw (some 6) 58 [(.int .i64 0), (.int .i64 0)])) (.step (.op (.st none 2 (.r 6) (.r 29))) .done)))) (.step (.op (.nw (some 6) 58 [(.int .i64 0), (.int .i64 0)])) (.step (.op (.call (some 28) 202 [(.r 27)])) (.step (.op (.p (some 29) (.bld [(.int .i64 0), (.int .i64 0)] [(0, (1, (.r 25))), (1, (1, (.r 28)))]))) (.step (.op (.st none 2 (.r 6) (.r 29))) .done)))))) (.step (.op (.nw (some 6) 58 [(.int .i64 0), (.int .i64 0)])) (.step (.op (.call (some 25) 202 [(.r 24)])) (.step (.op (.call (some 28) 202 [(.r 27)])) (.step (.op (.p (some 29) (.bld [(.int .i64 0), (.int .i64 0)] [(0, (1, (.r 25))), (1, (1, (.r 28)))]))) (.step (.op (.st none 2 (.r 6) (.r 29))) .done))))))))))) (.seq (.ops [(.op (.p (some 30) (.mov (.r 0)))), (.op (.p (some 31) (.sls (.r 30) (some (.c (.int .i64 8))) (some (.c (.int .i64 16)))))), (.op (.p (some 32) (.mov (.r 0)))), (.op (.p (some 33) (.sls (.r 32) (some (.c (.int .i64 56))) none))), (.op (.p (some 34) (.cmp .neq (.r 31) (.r 33)))), (.op (.p (some 7) (.mov (.r 34))))] true) (.seq (.seq (.dr (.step (.op (.p (some 35) (.mov (.r 0)))) (.step (.op (.p (some 36) (.sls (.r 35) none (some (.c (.int .i64 4)))))) (.step (.op (.p (some 38) (.mov (.r 0)))) (.step (.op (.p (some 39) (.sls (.r 38) (some (.c (.int .i64 4))) none))) (.alt (.step (.op (.call (some 37) 202 [(.r 36)])) (.step (.op (.s2b (some 40) 5 (.r 39))) (.step (.op (.call (some 41) 203 [(.r 40)])) (.step (.op (.p (some 42) (.cvi .i64 (.r 41)))) (.step (.op (.p (some 43) (.cmp .neq (.r 37) (.r 42)))) (.step (.op (.p (some 44) (.mov (.r 43)))) (.step (.gd 44 false (some 45) (.ld (some 45) (some 3) (.r 5))) (.step (.gd 44 false (some 46) (.call (some 46) 188 [(.r 45)])) (.step (.gd 44 false (some 47) (.p (some 47) (.un .not (.r 46)))) (.step (.op (.pk (some 48) (.r 44) (.c (.bool true)) (.r 47))) (.step (.op (.p (some 49) (.mov (.r 48)))) (.step (.gd 49 false (some 50) (.ld (some 50) (some 2) (.r 6))) (.step (.gd 49 false (some 51) (.call (some 51) 204 [(.r 50)])) (.step (.gd 49 false (some 52) (.p (some 52) (.un .not (.r 51)))) (.step (.op (.pk (some 53) (.r 49) (.c (.bool true)) (.r 52))) (.step (.op (.p (some 54) (.mov (.r 53)))) (.step (.gd 54 false (some 55) (.p (some 55) (.mov (.r 7)))) (.step (.op (.pk (some 56) (.r 54) (.c (.bool true)) (.r 55))) .done)))))))))))))))))) (.step (.op (.s2b (some 40) 5 (.r 39))) (.step (.op (.call (some 37) 202 [(.r 36)])) (.step (.op (.call (some 41) 203 [(.r 40)])) (.step (.op (.p (some 42) (.cvi .i64 (.r 41)))) (.step (.op (.p (some 43) (.cmp .neq (.r 37) (.r 42)))) (.step (.op (.p (some 44) (.mov (.r 43)))) (.step (.gd 44 false (some 45) (.ld (some 45) (some 3) (.r 5))) (.step (.gd 44 false (some 46) (.call (some 46) 188 [(.r 45)])) (.step (.gd 44 false (some 47) (.p (some 47) (.un .not (.r 46)))) (.step (.op (.pk (some 48) (.r 44) (.c (.bool true)) (.r 47))) (.step (.op (.p (some 49) (.mov (.r 48)))) (.step (.gd 49 false (some 50) (.ld (some 50) (some 2) (.r 6))) (.step (.gd 49 false (some 51) (.call (some 51) 204 [(.r 50)])) (.step (.gd 49 false (some 52) (.p (some 52) (.un .not (.r 51)))) (.step (.op (.pk (some 53) (.r 49) (.c (.bool true)) (.r 52))) (.step (.op (.p (some 54) (.mov (.r 53)))) (.step (.gd 54 false (some 55) (.p (some 55) (.mov (.r 7)))) (.step (.op (.pk (some 56) (.r 54) (.c (.bool true)) (.r 55))) .done)))))))))))))))))))))))) (.ite (.r 56) (.seq (.ops [(.op (.p (some 57) (.bld [(.int .i64 0), (.int .i64 0), (.int .i64 0)] []))), (.op (.p (some 58) (.bld [(.int .i64 0), (.int .i64 0)] []))), (.op (.st none 3 (.r 2) (.r 57))), (.op (.st none 2 (.r 3) (.r 58))), (.op (.p (some 4) (.mov (.c (.int .i64 7)))))] false) .ret) .skip)) (.seq (.dr (.step (.op (.ld (some 59) (some 3) (.r 5))) (.alt (.step (.op (.ld (some 60) (some 2) (.r 6))) (.step (.op (.st none 3 (.r 2) (.r 59))) (.step (.op (.st none 2 (.r 3) (.r 60))) (.step (.op (.p (some 4) (.mov (.c (.int .i64 0))))) .done)))) (.step (.op (.st none 3 (.r 2) (.r 59))) (.step (.op (.ld (some 60) (some 2) (.r 6))) (.step (.op (.st none 2 (.r 3) (.r 60))) (.step (.op (.p (some 4) (.mov (.c (.int .i64 0))))) .done))))))) .ret))))))), [(.cl (.r 2) (some 3)), (.cl (.r 3) (some 2)), (.t (.r 4))]⟩
theorem c138_eq : cF Tryz.prog Tryz.f138 = some c138 := by kernel_rfl
/-- solvent/sector.Open -/
def c126 : Fun := ⟨34, (.seq (.ops [(.op (.bx (some 2) 53 (.r 0))), (.op (.nw (some 4) 58 [(.int .i64 0), (.int .i64 0)])), (.op (.p (some 5) (.mov (.c (.string ⟨#[]⟩))))), (.op (.p (some 6) (.mov (.c (.int .i64 0)))))] false) (.seq (.seq (.ops [(.op (.ld (some 10) (some 3) (.r 2))), (.op (.call (some 11) 188 [(.r 10)])), (.op (.p (some 12) (.un .not (.r 11))))] false) (.ite (.r 12) (.seq (.ops [(.op (.p (some 13) (.bld [(.int .i64 0), (.int .i64 0)] []))), (.op (.st none 2 (.r 4) (.r 13))), (.op (.p (some 5) (.mov (.c (.string ⟨#[]⟩))))), (.op (.p (some 6) (.mov (.c (.int .i64 1)))))] false) .ret) .skip)) (.seq (.ops [(.op (.p (some 15) (.mov (.r 1)))), (.op (.call (some 16) 138 [(.r 15)])), (.op (.p (some 14) (.mov (.r 16)))), (.op (.p (some 17) (.ext (.r 14) 0))), (.op (.p (some 18) (.ext (.r 14) 1))), (.op (.p (some 19) (.ext (.r 14) 2))), (.op (.nw (some 7) 53 [(.int .i64 0), (.int .i64 0), (.int .i64 0)])), (.op (.nw (some 8) 58 [(.int .i64 0), (.int .i64 0)])), (.op (.st none 3 (.r 7) (.r 17))), (.op (.st none 2 (.r 8) (.r 18))), (.op (.p (some 9) (.mov (.r 19))))] false) (.seq (.blk 0 (.seq (.ops [(.op (.p (some 21) (.mov (.r 9)))), (.op (.p (some 22) (.cmp .neq (.r 21) (.c (.int .i64 0))))), (.op (.p (some 20) (.mov (.r 22))))] false) (.ite (.r 20) (.seq (.ops [(.op (.p (some 23) (.bld [(.int .i64 0), (.int .i64 0)] []))), (.op (.p (some 24) (.mov (.r 9)))), (.op (.st none 2 (.r 4) (.r 23))), (.op (.p (some 5) (.mov (.c (.string ⟨#[]⟩))))), (.op (.p (some 6) (.mov (.r 24))))] false) .ret) (.seq (.ops [(.op (.ld (some 26) (some 3) (.r 7))), (.op (.ld (some 27) (some 3) (.r 2))), (.op (.p (some 28) (.eqc true 3 (.r 26) (.r 27)))), (.op (.p (some 25) (.mov (.r 28))))] false) (.ite (.r 25) (.seq (.ops [(.op (.p (some 29) (.bld [(.int .i64 0), (.int .i64 0)] []))), (.op (.st none 2 (.r 4) (.r 29))), (.op (.p (some 5) (.mov (.c (.string ⟨#[]⟩))))), (.op (.p (some 6) (.mov (.c (.int .i64 8)))))] false) .ret) .skip))))) (.seq (.dr (.step (.op (.p (some 31) (.mov (.r 1)))) (.step (.op (.p (some 32) (.sls (.r 31) (some (.c (.int .i64 16))) (some (.c (.int .i64 56)))))) (.alt (.step (.op (.ld (some 30) (some 2) (.r 8))) (.step (.op (.call (some 33) 189 [(.r 32)])) (.step (.op (.st none 2 (.r 4) (.r 30))) (.step (.op (.p (some 5) (.mov (.r 33)))) (.step (.op (.p (some 6) (.mov (.c (.int .i64 0))))) .done))))) (.step (.op (.call (some 33) 189 [(.r 32)])) (.step (.op (.ld (some 30) (some 2) (.r 8))) (.step (.op (.st none 2 (.r 4) (.r 30))) (.step (.op (.p (some 5) (.mov (.r 33)))) (.step (.op (.p (some 6) (.mov (.c (.int .i64 0))))) .done))))))))) .ret))))), [(.cl (.r 4) (some 2)), (.t (.r 5)), (.t (.r 6))]⟩
theorem c126_eq : cF Tryz.prog Tryz.f126 = some c126 := by kernel_rfl
/-- solvent/sector.Newer -/
def c68 : Fun := ⟨18, (.seq (.ops [(.op (.bx (some 2) 58 (.r 0))), (.op (.bx (some 3) 58 (.r 1))), (.op (.p (some 4) (.mov (.c (.bool false)))))] false) (.seq (.dr (.step (.op (.p (some 5) (.fad (.r 2) 0))) (.step (.op (.ld (some 6) none (.r 5))) (.step (.op (.p (some 7) (.fad (.r 3) 0))) (.step (.op (.ld (some 8) none (.r 7))) (.step (.op (.p (some 10) (.fad (.r 2) 1))) (.step (.op (.p (some 12) (.fad (.r 3) 1))) (.alt (.step (.op (.call (some 9) 150 [(.r 6), (.r 8)])) (.step (.op (.ld (some 11) none (.r 10))) (.step (.op (.ld (some 13) none (.r 12))) (.step (.op (.call (some 14) 150 [(.r 11), (.r 13)])) (.step (.op (.raw (some 15) (.buildSlice 54 2 #[(0, (.tmp 9)), (1, (.tmp 14))]) 54)) (.step (.op (.call (some 16) 149 [(.r 15)])) (.step (.op (.p (some 17) (.cmp .gtr (.r 16) (.c (.int .i64 0))))) (.step (.op (.p (some 4) (.mov (.r 17)))) .done)))))))) (.alt (.step (.op (.ld (some 11) none (.r 10))) (.alt (.step (.op (.call (some 9) 150 [(.r 6), (.r 8)])) (.step (.op (.ld (some 13) none (.r 12))) (.step (.op (.call (some 14) 150 [(.r 11), (.r 13)])) (.step (.op (.raw (some 15) (.buildSlice 54 2 #[(0, (.tmp 9)), (1, (.tmp 14))]) 54)) (.step (.op (.call (some 16) 149 [(.r 15)])) (.step (.op (.p (some 17) (.cmp .gtr (.r 16) (.c (.int .i64 0))))) (.step (.op (.p (some 4) (.mov (.r 17)))) .done))))))) (.step (.op (.ld (some 13) none (.r 12))) (.step (.op (.call (some 9) 150 [(.r 6), (.r 8)])) (.step (.op (.call (some 14) 150 [(.r 11), (.r 13)])) (.step (.op (.raw (some 15) (.buildSlice 54 2 #[(0, (.tmp 9)), (1, (.tmp 14))]) 54)) (.step (.op (.call (some 16) 149 [(.r 15)])) (.step (.op (.p (some 17) (.cmp .gtr (.r 16) (.c (.int .i64 0))))) (.step (.op (.p (some 4) (.mov (.r 17)))) .done))))))))) (.step (.op (.ld (some 13) none (.r 12))) (.alt (.step (.op (.call (some 9) 150 [(.r 6), (.r 8)])) (.step (.op (.ld (some 11) none (.r 10))) (.step (.op (.call (some 14) 150 [(.r 11), (.r 13)])) (.step (.op (.raw (some 15) (.buildSlice 54 2 #[(0, (.tmp 9)), (1, (.tmp 14))]) 54)) (.step (.op (.call (some 16) 149 [(.r 15)])) (.step (.op (.p (some 17) (.cmp .gtr (.r 16) (.c (.int .i64 0))))) (.step (.op (.p (some 4) (.mov (.r 17)))) .done))))))) (.step (.op (.ld (some 11) none (.r 10))) (.step (.op (.call (some 9) 150 [(.r 6), (.r 8)])) (.step (.op (.call (some 14) 150 [(.r 11), (.r 13)])) (.step (.op (.raw (some 15) (.buildSlice 54 2 #[(0, (.tmp 9)), (1, (.tmp 14))]) 54)) (.step (.op (.call (some 16) 149 [(.r 15)])) (.step (.op (.p (some 17) (.cmp .gtr (.r 16) (.c (.int .i64 0))))) (.step (.op (.p (some 4) (.mov (.r 17)))) .done)))))))))))))))))) .ret)), [(.t (.r 4))]⟩
theorem c68_eq : cF Tryz.prog Tryz.f68 = some c68 := by kernel_rfl
/-- cmp.Or[int] -/
def c149 : Fun := ⟨18, (.seq (.ops [(.op (.p (some 2) (.mov (.c (.int .i64 0)))))] false) (.seq (.ops [(.op (.p (some 3) (.mov (.c (.int .i64 0)))))] false) (.seq (.seq (.ops [(.op (.p (some 6) (.mov (.r 0)))), (.op (.p (some 7) (.len (.r 6)))), (.op (.p (some 8) (.mov (.c (.int .i64 0)))))] false) (.blk 0 (.loop (.seq (.ops [(.op (.p (some 9) (.cmp .lss (.r 8) (.r 7))))] false) (.seq (.ite (.r 9) .skip (.exit 0)) (.seq (.blk 1 (.seq (.ops [(.op (.p (some 10) (.ixa 1 (.r 6) (.r 8)))), (.op (.ld (some 11) none (.r 10))), (.op (.p (some 5) (.mov (.r 11))))] false) (.seq (.ops [(.op (.p (some 12) (.mov (.r 5)))), (.op (.p (some 13) (.mov (.r 3)))), (.op (.p (some 14) (.cmp .neq (.r 12) (.r 13))))] false) (.ite (.r 14) (.seq (.ops [(.op (.p (some 15) (.mov (.r 5)))), (.op (.p (some 2) (.mov (.r 15))))] false) .ret) .skip)))) (.ops [(.op (.ar (some 16) .add (.r 8) (.c (.int .i64 1)))), (.op (.p (some 8) (.mov (.r 16))))] false))))))) (.seq (.ops [(.op (.p (some 17) (.mov (.r 3)))), (.op (.p (some 2) (.mov (.r 17))))] false) .ret)))), [(.t (.r 2))]⟩
theorem c149_eq : cF Tryz.prog Tryz.f149 = some c149 := by kernel_rfl
/-- cmp.Compare[int] -/
def c150 : Fun := ⟨20, (.seq (.ops [(.op (.p (some 4) (.mov (.c (.int .i64 0)))))] false) (.seq (.ops [(.op (.p (some 7) (.mov (.r 0)))), (.op (.call (some 8) 213 [(.r 7)])), (.op (.p (some 5) (.mov (.r 8))))] false) (.seq (.ops [(.op (.p (some 9) (.mov (.r 1)))), (.op (.call (some 10) 213 [(.r 9)])), (.op (.p (some 6) (.mov (.r 10))))] false) (.seq (.seq (.ops [(.op (.p (some 11) (.mov (.r 5))))] false) (.ite (.r 11) (.seq (.seq (.ops [(.op (.p (some 12) (.mov (.r 6))))] false) (.ite (.r 12) (.seq (.ops [(.op (.p (some 4) (.mov (.c (.int .i64 0)))))] false) .ret) .skip)) (.seq (.ops [(.op (.p (some 4) (.mov (.c (.int .i64 (-1))))))] false) .ret)) .skip)) (.seq (.seq (.ops [(.op (.p (some 13) (.mov (.r 6))))] false) (.ite (.r 13) (.seq (.ops [(.op (.p (some 4) (.mov (.c (.int .i64 1)))))] false) .ret) .skip)) (.seq (.seq (.ops [(.op (.p (some 14) (.mov (.r 0)))), (.op (.p (some 15) (.mov (.r 1)))), (.op (.p (some 16) (.cmp .lss (.r 14) (.r 15))))] false) (.ite (.r 16) (.seq (.ops [(.op (.p (some 4) (.mov (.c (.int .i64 (-1))))))] false) .ret) .skip)) (.seq (.seq (.ops [(.op (.p (some 17) (.mov (.r 0)))), (.op (.p (some 18) (.mov (.r 1)))), (.op (.p (some 19) (.cmp .gtr (.r 17) (.r 18))))] false) (.ite (.r 19) (.seq (.ops [(.op (.p (some 4) (.mov (.c (.int .i64 1)))))] false) .ret) .skip)) (.seq (.ops [(.op (.p (some 4) (.mov (.c (.int .i64 0)))))] false) .ret)))))))), [(.t (.r 4))]⟩
theorem c150_eq : cF Tryz.prog Tryz.f150 = some c150 := by kernel_rfl
/-- cmp.isNaN[int] -/
def c213 : Fun := ⟨6, (.seq (.ops [(.op (.p (some 2) (.mov (.c (.bool false)))))] false) (.seq (.ops [(.op (.p (some 3) (.mov (.r 0)))), (.op (.p (some 4) (.mov (.r 0)))), (.op (.p (some 5) (.cmp .neq (.r 3) (.r 4)))), (.op (.p (some 2) (.mov (.r 5))))] false) .ret)), [(.t (.r 2))]⟩
theorem c213_eq : cF Tryz.prog Tryz.f213 = some c213 := by kernel_rfl
/-- solvent/crc.table -/
def c248 : Fun := ⟨23, (.seq (.ops [(.op (.nw (some 0) 289 [(.int .u32 0), (.int .u32 0), (.int .u32 0), (.int .u32 0), (.int .u32 0), (.int .u32 0), (.int .u32 0), (.int .u32 0), (.int .u32 0), (.int .u32 0), (.int .u32 0), (.int .u32 0), (.int .u32 0), (.int .u32 0), (.int .u32 0), (.int .u32 0), (.int .u32 0), (.int .u32 0), (.int .u32 0), (.int .u32 0), (.int .u32 0), (.int .u32 0), (.int .u32 0), (.int .u32 0), (.int .u32 0), (.int .u32 0), (.int .u32 0), (.int .u32 0), (.int .u32 0), (.int .u32 0), (.int .u32 0), (.int .u32 0), (.int .u32 0), (.int .u32 0), (.int .u32 0), (.int .u32 0), (.int .u32 0), (.int .u32 0), (.int .u32 0), (.int .u32 0), (.int .u32 0), (.int .u32 0), (.int .u32 0), (.int .u32 0), (.int .u32 0), (.int .u32 0), (.int .u32 0), (.int .u32 0), (.int .u32 0), (.int .u32 0), (.int .u32 0), (.int .u32 0), (.int .u32 0), (.int .u32 0), (.int .u32 0), (.int .u32 0), (.int .u32 0), (.int .u32 0), (.int .u32 0), (.int .u32 0), (.int .u32 0), (.int .u32 0), (.int .u32 0), (.int .u32 0), (.int .u32 0), (.int .u32 0), (.int .u32 0), (.int .u32 0), (.int .u32 0), (.int .u32 0), (.int .u32 0), (.int .u32 0), (.int .u32 0), (.int .u32 0), (.int .u32 0), (.int .u32 0), (.int .u32 0), (.int .u32 0), (.int .u32 0), (.int .u32 0), (.int .u32 0), (.int .u32 0), (.int .u32 0), (.int .u32 0), (.int .u32 0), (.int .u32 0), (.int .u32 0), (.int .u32 0), (.int .u32 0), (.int .u32 0), (.int .u32 0), (.int .u32 0), (.int .u32 0), (.int .u32 0), (.int .u32 0), (.int .u32 0), (.int .u32 0), (.int .u32 0), (.int .u32 0), (.int .u32 0), (.int .u32 0), (.int .u32 0), (.int .u32 0), (.int .u32 0), (.int .u32 0), (.int .u32 0), (.int .u32 0), (.int .u32 0), (.int .u32 0), (.int .u32 0), (.int .u32 0), (.int .u32 0), (.int .u32 0), (.int .u32 0), (.int .u32 0), (.int .u32 0), (.int .u32 0), (.int .u32 0), (.int .u32 0), (.int .u32 0), (.int .u32 0), (.int .u32 0), (.int .u32 0), (.int .u32 0), (.int .u32 0), (.int .u32 0), (.int .u32 0), (.int .u32 0), (.int .u32 0), (.int .u32 0), (.int .u32 0), (.int .u32 0), (.int .u32 0), (.int .u32 0), (.int .u32 0), (.int .u32 0), (.int .u32 0), (.int .u32 0), (.int .u32 0), (.int .u32 0), (.int .u32 0), (.int .u32 0), (.int .u32 0), (.int .u32 0), (.int .u32 0), (.int .u32 0), (.int .u32 0), (.int .u32 0), (.int .u32 0), (.int .u32 0), (.int .u32 0), (.int .u32 0), (.int .u32 0), (.int .u32 0), (.int .u32 0), (.int .u32 0), (.int .u32 0), (.int .u32 0), (.int .u32 0), (.int .u32 0), (.int .u32 0), (.int .u32 0), (.int .u32 0), (.int .u32 0), (.int .u32 0), (.int .u32 0), (.int .u32 0), (.int .u32 0), (.int .u32 0), (.int .u32 0), (.int .u32 0), (.int .u32 0), (.int .u32 0), (.int .u32 0), (.int .u32 0), (.int .u32 0), (.int .u32 0), (.int .u32 0), (.int .u32 0), (.int .u32 0), (.int .u32 0), (.int .u32 0), (.int .u32 0), (.int .u32 0), (.int .u32 0), (.int .u32 0), (.int .u32 0), (.int .u32 0), (.int .u32 0), (.int .u32 0), (.int .u32 0), (.int .u32 0), (.int .u32 0), (.int .u32 0), (.int .u32 0), (.int .u32 0), (.int .u32 0), (.int .u32 0), (.int .u32 0), (.int .u32 0), (.int .u32 0), (.int .u32 0), (.int .u32 0), (.int .u32 0), (.int .u32 0), (.int .u32 0), (.int .u32 0), (.int .u32 0), (.int .u32 0), (.int .u32 0), (.int .u32 0), (.int .u32 0), (.int .u32 0), (.int .u32 0), (.int .u32 0), (.int .u32 0), (.int .u32 0), (.int .u32 0), (.int .u32 0), (.int .u32 0), (.int .u32 0), (.int .u32 0), (.int .u32 0), (.int .u32 0), (.int .u32 0), (.int .u32 0), (.int .u32 0), (.int .u32 0), (.int .u32 0), (.int .u32 0), (.int .u32 0), (.int .u32 0), (.int .u32 0), (.int .u32 0), (.int .u32 0), (.int .u32 0), (.int .u32 0), (.int .u32 0), (.int .u32 0), (.int .u32 0), (.int .u32 0), (.int .u32 0), (.int .u32 0), (.int .u32 0), (.int .u32 0), (.int .u32 0), (.int .u32 0), (.int .u32 0), (.int .u32 0), (.int .u32 0), (.int .u32 0), (.int .u32 0), (.int .u32 0), (.int .u32 0), (.int .u32 0), (.int .u32 0)]))] false) (.seq (.seq (.ops [(.op (.p (some 3) (.mov (.c (.int .i64 0)))))] false) (.blk 0 (.loop (.seq (.ops [(.op (.p (some 4) (.cmp .lss (.r 3) (.c (.int .i64 256)))))] false) (.seq (.ite (.r 4) .skip (.exit 0)) (.seq (.blk 1 (.seq (.ops [(.op (.p (some 5) (.mov (.r 3)))), (.op (.p (some 1) (.mov (.r 5))))] false) (.seq (.ops [(.op (.p (some 6) (.mov (.r 1)))), (.op (.p (some 7) (.cvi .u32 (.r 6)))), (.op (.p (some 2) (.mov (.r 7))))] false) (.seq (.seq (.ops [(.op (.p (some 8) (.mov (.c (.int .i64 0)))))] false) (.blk 2 (.loop (.seq (.ops [(.op (.p (some 9) (.cmp .lss (.r 8) (.c (.int .i64 8)))))] false) (.seq (.ite (.r 9) .skip (.exit 2)) (.seq (.blk 3 (.ops [(.op (.p (some 10) (.mov (.r 2)))), (.op (.ar (some 11) .shr (.r 10) (.c (.int .u64 1)))), (.op (.p (some 12) (.mov (.r 2)))), (.op (.ar (some 13) .and (.r 12) (.c (.int .u32 1)))), (.op (.p (some 14) (.un .neg (.r 13)))), (.op (.ar (some 15) .and (.c (.int .u32 2197175160)) (.r 14))), (.op (.ar (some 16) .xor (.r 11) (.r 15))), (.op (.p (some 2) (.mov (.r 16))))] false)) (.ops [(.op (.ar (some 17) .add (.r 8) (.c (.int .i64 1)))), (.op (.p (some 8) (.mov (.r 17))))] false))))))) (.ops [(.op (.p (some 18) (.mov (.r 1)))), (.op (.p (some 19) (.mov (.r 2)))), (.op (.p (some 20) (.ixp 256 1 (.r 0) (.r 18)))), (.op (.st none 1 (.r 20) (.r 19)))] false))))) (.ops [(.op (.ar (some 21) .add (.r 3) (.c (.int .i64 1)))), (.op (.p (some 3) (.mov (.r 21))))] false))))))) (.seq (.ops [(.op (.ld (some 22) (some 256) (.r 0))), (.op (.st none 256 (.r 0) (.r 22)))] false) .ret))), [(.cl (.r 0) (some 256))]⟩
theorem c248_eq : cF Tryz.prog Tryz.f248 = some c248 := by kernel_rfl
/-- solvent/crc.Extend -/
def c235 : Fun := ⟨30, (.seq (.ops [(.op (.p (some 4) (.mov (.c (.int .u32 0)))))] false) (.seq (.ops [(.op (.call (some 9) 248 [])), (.op (.nw (some 5) 289 [(.int .u32 0), (.int .u32 0), (.int .u32 0), (.int .u32 0), (.int .u32 0), (.int .u32 0), (.int .u32 0), (.int .u32 0), (.int .u32 0), (.int .u32 0), (.int .u32 0), (.int .u32 0), (.int .u32 0), (.int .u32 0), (.int .u32 0), (.int .u32 0), (.int .u32 0), (.int .u32 0), (.int .u32 0), (.int .u32 0), (.int .u32 0), (.int .u32 0), (.int .u32 0), (.int .u32 0), (.int .u32 0), (.int .u32 0), (.int .u32 0), (.int .u32 0), (.int .u32 0), (.int .u32 0), (.int .u32 0), (.int .u32 0), (.int .u32 0), (.int .u32 0), (.int .u32 0), (.int .u32 0), (.int .u32 0), (.int .u32 0), (.int .u32 0), (.int .u32 0), (.int .u32 0), (.int .u32 0), (.int .u32 0), (.int .u32 0), (.int .u32 0), (.int .u32 0), (.int .u32 0), (.int .u32 0), (.int .u32 0), (.int .u32 0), (.int .u32 0), (.int .u32 0), (.int .u32 0), (.int .u32 0), (.int .u32 0), (.int .u32 0), (.int .u32 0), (.int .u32 0), (.int .u32 0), (.int .u32 0), (.int .u32 0), (.int .u32 0), (.int .u32 0), (.int .u32 0), (.int .u32 0), (.int .u32 0), (.int .u32 0), (.int .u32 0), (.int .u32 0), (.int .u32 0), (.int .u32 0), (.int .u32 0), (.int .u32 0), (.int .u32 0), (.int .u32 0), (.int .u32 0), (.int .u32 0), (.int .u32 0), (.int .u32 0), (.int .u32 0), (.int .u32 0), (.int .u32 0), (.int .u32 0), (.int .u32 0), (.int .u32 0), (.int .u32 0), (.int .u32 0), (.int .u32 0), (.int .u32 0), (.int .u32 0), (.int .u32 0), (.int .u32 0), (.int .u32 0), (.int .u32 0), (.int .u32 0), (.int .u32 0), (.int .u32 0), (.int .u32 0), (.int .u32 0), (.int .u32 0), (.int .u32 0), (.int .u32 0), (.int .u32 0), (.int .u32 0), (.int .u32 0), (.int .u32 0), (.int .u32 0), (.int .u32 0), (.int .u32 0), (.int .u32 0), (.int .u32 0), (.int .u32 0), (.int .u32 0), (.int .u32 0), (.int .u32 0), (.int .u32 0), (.int .u32 0), (.int .u32 0), (.int .u32 0), (.int .u32 0), (.int .u32 0), (.int .u32 0), (.int .u32 0), (.int .u32 0), (.int .u32 0), (.int .u32 0), (.int .u32 0), (.int .u32 0), (.int .u32 0), (.int .u32 0), (.int .u32 0), (.int .u32 0), (.int .u32 0), (.int .u32 0), (.int .u32 0), (.int .u32 0), (.int .u32 0), (.int .u32 0), (.int .u32 0), (.int .u32 0), (.int .u32 0), (.int .u32 0), (.int .u32 0), (.int .u32 0), (.int .u32 0), (.int .u32 0), (.int .u32 0), (.int .u32 0), (.int .u32 0), (.int .u32 0), (.int .u32 0), (.int .u32 0), (.int .u32 0), (.int .u32 0), (.int .u32 0), (.int .u32 0), (.int .u32 0), (.int .u32 0), (.int .u32 0), (.int .u32 0), (.int .u32 0), (.int .u32 0), (.int .u32 0), (.int .u32 0), (.int .u32 0), (.int .u32 0), (.int .u32 0), (.int .u32 0), (.int .u32 0), (.int .u32 0), (.int .u32 0), (.int .u32 0), (.int .u32 0), (.int .u32 0), (.int .u32 0), (.int .u32 0), (.int .u32 0), (.int .u32 0), (.int .u32 0), (.int .u32 0), (.int .u32 0), (.int .u32 0), (.int .u32 0), (.int .u32 0), (.int .u32 0), (.int .u32 0), (.int .u32 0), (.int .u32 0), (.int .u32 0), (.int .u32 0), (.int .u32 0), (.int .u32 0), (.int .u32 0), (.int .u32 0), (.int .u32 0), (.int .u32 0), (.int .u32 0), (.int .u32 0), (.int .u32 0), (.int .u32 0), (.int .u32 0), (.int .u32 0), (.int .u32 0), (.int .u32 0), (.int .u32 0), (.int .u32 0), (.int .u32 0), (.int .u32 0), (.int .u32 0), (.int .u32 0), (.int .u32 0), (.int .u32 0), (.int .u32 0), (.int .u32 0), (.int .u32 0), (.int .u32 0), (.int .u32 0), (.int .u32 0), (.int .u32 0), (.int .u32 0), (.int .u32 0), (.int .u32 0), (.int .u32 0), (.int .u32 0), (.int .u32 0), (.int .u32 0), (.int .u32 0), (.int .u32 0), (.int .u32 0), (.int .u32 0), (.int .u32 0), (.int .u32 0), (.int .u32 0), (.int .u32 0), (.int .u32 0), (.int .u32 0), (.int .u32 0), (.int .u32 0), (.int .u32 0), (.int .u32 0), (.int .u32 0), (.int .u32 0), (.int .u32 0), (.int .u32 0), (.int .u32 0), (.int .u32 0), (.int .u32 0), (.int .u32 0), (.int .u32 0), (.int .u32 0), (.int .u32 0), (.int .u32 0), (.int .u32 0), (.int .u32 0), (.int .u32 0), (.int .u32 0)])), (.op (.st none 256 (.r 5) (.r 9)))] false) (.seq (.ops [(.op (.p (some 10) (.mov (.r 0)))), (.op (.p (some 11) (.un .xor (.r 10)))), (.op (.p (some 6) (.mov (.r 11))))] false) (.seq (.seq (.ops [(.op (.p (some 12) (.mov (.r 1)))), (.op (.p (some 13) (.len (.r 12)))), (.op (.p (some 14) (.mov (.c (.int .i64 0)))))] false) (.blk 0 (.loop (.seq (.ops [(.op (.p (some 15) (.cmp .lss (.r 14) (.r 13))))] false) (.seq (.ite (.r 15) .skip (.exit 0)) (.seq (.blk 1 (.seq (.ops [(.op (.p (some 16) (.ixa 1 (.r 12) (.r 14)))), (.op (.ld (some 17) none (.r 16))), (.op (.p (some 8) (.mov (.r 17))))] false) (.ops [(.op (.p (some 18) (.mov (.r 6)))), (.op (.ar (some 19) .shr (.r 18) (.c (.int .u64 8)))), (.op (.p (some 20) (.mov (.r 6)))), (.op (.p (some 21) (.cvi .u8 (.r 20)))), (.op (.p (some 22) (.mov (.r 8)))), (.op (.ar (some 23) .xor (.r 21) (.r 22))), (.op (.p (some 24) (.ixp 256 1 (.r 5) (.r 23)))), (.op (.ld (some 25) none (.r 24))), (.op (.ar (some 26) .xor (.r 19) (.r 25))), (.op (.p (some 6) (.mov (.r 26))))] false))) (.ops [(.op (.ar (some 27) .add (.r 14) (.c (.int .i64 1)))), (.op (.p (some 14) (.mov (.r 27))))] false))))))) (.seq (.ops [(.op (.p (some 28) (.mov (.r 6)))), (.op (.p (some 29) (.un .xor (.r 28)))), (.op (.p (some 4) (.mov (.r 29))))] false) .ret))))), [(.t (.r 4))]⟩
theorem c235_eq : cF Tryz.prog Tryz.f235 = some c235 := by kernel_rfl
/-- solvent/crc.Of -/
def c203 : Fun := ⟨5, (.seq (.ops [(.op (.p (some 2) (.mov (.c (.int .u32 0)))))] false) (.seq (.ops [(.op (.p (some 3) (.mov (.r 0)))), (.op (.call (some 4) 235 [(.c (.int .u32 0)), (.r 3)])), (.op (.p (some 2) (.mov (.r 4))))] false) .ret)), [(.t (.r 2))]⟩
theorem c203_eq : cF Tryz.prog Tryz.f203 = some c203 := by kernel_rfl
/-- strings.Clone -/
def c189 : Fun := ⟨5, (.seq (.ops [(.op (.p (some 2) (.mov (.c (.string ⟨#[]⟩)))))] false) (.seq (.ops [(.op (.p (some 3) (.mov (.r 0)))), (.op (.call (some 4) 228 [(.r 3)])), (.op (.p (some 2) (.mov (.r 4))))] false) .ret)), [(.t (.r 2))]⟩
theorem c189_eq : cF Tryz.prog Tryz.f189 = some c189 := by kernel_rfl
/-- internal/stringslite.Clone -/
def c228 : Fun := ⟨18, (.seq (.ops [(.op (.p (some 2) (.mov (.c (.string ⟨#[]⟩)))))] false) (.seq (.seq (.ops [(.op (.p (some 4) (.mov (.r 0)))), (.op (.p (some 5) (.lns (.r 4)))), (.op (.p (some 6) (.cmp .eql (.r 5) (.c (.int .i64 0)))))] false) (.ite (.r 6) (.seq (.ops [(.op (.p (some 2) (.mov (.c (.string ⟨#[]⟩)))))] false) .ret) .skip)) (.seq (.ops [(.op (.p (some 7) (.mov (.r 0)))), (.op (.p (some 8) (.lns (.r 7)))), (.op (.raw (some 9) (.makeSlice 43 (.tmp 8) (.tmp 8)) 43)), (.op (.p (some 3) (.mov (.r 9))))] false) (.seq (.ops [(.op (.p (some 10) (.mov (.r 3)))), (.op (.p (some 11) (.mov (.r 0)))), (.op (.raw (some 12) (.call (.mk (.builtin .copy) #[(.tmp 10), (.tmp 11)] #[43, 9])) 3))] false) (.seq (.ops [(.op (.p (some 13) (.mov (.r 3)))), (.op (.p (some 14) (.ixa 1 (.r 13) (.c (.int .i64 0))))), (.op (.p (some 15) (.mov (.r 3)))), (.op (.p (some 16) (.len (.r 15)))), (.op (.raw (some 17) (.call (.mk (.builtin .unsafeString) #[(.tmp 14), (.tmp 16)] #[288, 3])) 9)), (.op (.p (some 2) (.mov (.r 17))))] false) .ret))))), [(.t (.r 2))]⟩
theorem c228_eq : cF Tryz.prog Tryz.f228 = some c228 := by kernel_rfl
end Go.Proofs.YtjnogknjdjphaaaGreat

/-
  The walks of crc.table, crc.Extend, crc.Of.
-/
namespace Go.Proofs.YtjnogknjdjphaaaGreat
open Dn
attribute [local irreducible] Evs Ev EvT DSpec PSpec CallTo
set_option maxRecDepth 10000

theorem mix : Tryz.prog.follows .mixedOrders = true := by kernel_rfl

theorem crc_table : PSpec Tryz.prog 248 [] (.agg ⟨tabTo 256⟩) := by
  refine pspec_of mix Tryz.func248 c248_eq rfl rfl fun w F Q S hQ => ?_
  (repeat first|refine Nv.r ?_|refine Jk rfl ?_|(refine JX ?_;conv=>whnf)|(refine JV ?_;(conv=>whnf);show Evs _ _ _ _ _)|refine JJ rfl ?_|refine JK rfl ?_|refine JQ rfl ?_|refine JL rfl rfl ?_|refine JM rfl rfl ?_|refine JN rfl ?_|refine JO rfl ?_|refine JP rfl ?_)
  refine e_nwE S (cs' := List.replicate 256 (u32 0)) rfl fun b w S => ?_
  (repeat first|refine Nv.r ?_|refine Jk rfl ?_|(refine JX ?_;conv=>whnf)|(refine JV ?_;(conv=>whnf);show Evs _ _ _ _ _)|refine JJ rfl ?_|refine JK rfl ?_|refine JQ rfl ?_|refine JL rfl rfl ?_|refine JM rfl rfl ?_|refine JN rfl ?_|refine JO rfl ?_|refine JP rfl ?_)
  refine s_loop (σ := Nat) (fun i => [(3, .int .i64 (i : Int)), (0, .pointer (some ⟨b, 0, none⟩))]) (fun i w => i ≤ 256 ∧ Sep w [(b, .cells ⟨tabTo i ++ List.replicate (256 - i) (u32 0)⟩ 289)] F) (fun i => 256 - i) 0 ⟨rfl, rfl, trivial⟩ rfl ⟨by omega, S⟩ ?_
  rintro g i w ⟨hi, S⟩
  simp only [setL]
  (repeat first|refine Nv.r ?_|refine Jk rfl ?_|(refine JX ?_;conv=>whnf)|(refine JV ?_;(conv=>whnf);show Evs _ _ _ _ _)|refine JJ rfl ?_|refine JK rfl ?_|refine JQ rfl ?_|refine JL rfl rfl ?_|refine JM rfl rfl ?_|refine JN rfl ?_|refine JO rfl ?_|refine JP rfl ?_)
  refine s_iteD rfl (fun h => ?_) (fun h => ?_)
  · have hi' : i < 256 := by omega
    (repeat first|refine Nv.r ?_|refine Jk rfl ?_|(refine JX ?_;conv=>whnf)|(refine JV ?_;(conv=>whnf);show Evs _ _ _ _ _)|refine JJ rfl ?_|refine JK rfl ?_|refine JQ rfl ?_|refine JL rfl rfl ?_|refine JM rfl rfl ?_|refine JN rfl ?_|refine JO rfl ?_|refine JP rfl ?_)
    refine s_loop (σ := Nat) (fun k => [(8, .int .i64 (k : Int)), (2, u32 (crcIt k (BitVec.ofNat 32 i))), (1, .int .i64 (i : Int)), (3, .int .i64 (i : Int)), (0, .pointer (some ⟨b, 0, none⟩))])
      (fun k w => k ≤ 8 ∧ Sep w [(b, .cells ⟨tabTo i ++ List.replicate (256 - i) (u32 0)⟩ 289)] F) (fun k => 8 - k) 0 ⟨rfl, ?_, rfl, rfl, rfl, trivial⟩ rfl ⟨by omega, S⟩ ?_
    · show Value.int .u32 (IntKind.u32.wrap (i : Int)) = u32 (BitVec.ofNat 32 i)
      rw [wrap_u32n _ (by omega)]
      simp [u32, BitVec.toNat_ofNat]; omega
    rintro g k w ⟨hk, S⟩
    simp only [setL]
    (repeat first|refine Nv.r ?_|refine Jk rfl ?_|(refine JX ?_;conv=>whnf)|(refine JV ?_;(conv=>whnf);show Evs _ _ _ _ _)|refine JJ rfl ?_|refine JK rfl ?_|refine JQ rfl ?_|refine JL rfl rfl ?_|refine JM rfl rfl ?_|refine JN rfl ?_|refine JO rfl ?_|refine JP rfl ?_)
    refine s_iteD rfl (fun h => ?_) (fun h => ?_)
    · (repeat first|refine Nv.r ?_|refine Jk rfl ?_|(refine JX ?_;conv=>whnf)|(refine JV ?_;(conv=>whnf);show Evs _ _ _ _ _)|refine JJ rfl ?_|refine JK rfl ?_|refine JQ rfl ?_|refine JL rfl rfl ?_|refine JM rfl rfl ?_|refine JN rfl ?_|refine JO rfl ?_|refine JP rfl ?_)
      refine e_arv rfl rfl (ar_shr32 _ 1 (by omega)) ?_
      (repeat first|refine Nv.r ?_|refine Jk rfl ?_|(refine JX ?_;conv=>whnf)|(refine JV ?_;(conv=>whnf);show Evs _ _ _ _ _)|refine JJ rfl ?_|refine JK rfl ?_|refine JQ rfl ?_|refine JL rfl rfl ?_|refine JM rfl rfl ?_|refine JN rfl ?_|refine JO rfl ?_|refine JP rfl ?_)
      refine e_arv (v := u32 1#32) rfl rfl (ar_and32 _ _) ?_
      refine e_p (un_neg32 rfl) ?_
      refine e_arv (u := u32 2197175160#32) rfl rfl (ar_and32 _ _) ?_
      refine e_arv rfl rfl (ar_xor32 _ _) ?_
      (repeat first|refine Nv.r ?_|refine Jk rfl ?_|(refine JX ?_;conv=>whnf)|(refine JV ?_;(conv=>whnf);show Evs _ _ _ _ _)|refine JJ rfl ?_|refine JK rfl ?_|refine JQ rfl ?_|refine JL rfl rfl ?_|refine JM rfl rfl ?_|refine JN rfl ?_|refine JO rfl ?_|refine JP rfl ?_)
      refine e_add rfl rfl (by omega) (by omega) ?_
      (repeat first|refine Nv.r ?_|refine Jk rfl ?_|(refine JX ?_;conv=>whnf)|(refine JV ?_;(conv=>whnf);show Evs _ _ _ _ _)|refine JJ rfl ?_|refine JK rfl ?_|refine JQ rfl ?_|refine JL rfl rfl ?_|refine JM rfl rfl ?_|refine JN rfl ?_|refine JO rfl ?_|refine JP rfl ?_)
      exact ⟨rfl, k + 1, ⟨rfl, rfl, rfl, rfl, rfl, trivial⟩, ⟨by omega, S⟩, by omega⟩
    · have hk8 : k = 8 := by omega
      subst hk8
      (repeat first|refine Nv.r ?_|refine Jk rfl ?_|(refine JX ?_;conv=>whnf)|(refine JV ?_;(conv=>whnf);show Evs _ _ _ _ _)|refine JJ rfl ?_|refine JK rfl ?_|refine JQ rfl ?_|refine JL rfl rfl ?_|refine JM rfl rfl ?_|refine JN rfl ?_|refine JO rfl ?_|refine JP rfl ?_)
      refine e_ixp rfl rfl (by omega) (by omega) ?_
      refine e_st (cs := tabTo i ++ List.replicate (256 - i) (u32 0)) (vs := [u32 (crcT i)]) S 0 rfl rfl rfl rfl (by simp [Value.flat]) (by simp [tabTo_len]; omega) fun w S => ?_
      (repeat first|refine Nv.r ?_|refine Jk rfl ?_|(refine JX ?_;conv=>whnf)|(refine JV ?_;(conv=>whnf);show Evs _ _ _ _ _)|refine JJ rfl ?_|refine JK rfl ?_|refine JQ rfl ?_|refine JL rfl rfl ?_|refine JM rfl rfl ?_|refine JN rfl ?_|refine JO rfl ?_|refine JP rfl ?_)
      refine e_add rfl rfl (by omega) (by omega) ?_
      (repeat first|refine Nv.r ?_|refine Jk rfl ?_|(refine JX ?_;conv=>whnf)|(refine JV ?_;(conv=>whnf);show Evs _ _ _ _ _)|refine JJ rfl ?_|refine JK rfl ?_|refine JQ rfl ?_|refine JL rfl rfl ?_|refine JM rfl rfl ?_|refine JN rfl ?_|refine JO rfl ?_|refine JP rfl ?_)
      refine ⟨rfl, i + 1, ⟨rfl, rfl, trivial⟩, ⟨by omega, ?_⟩, by omega⟩
      have : putAt (tabTo i ++ List.replicate (256 - i) (u32 0)) (0 + (i : Int).toNat * 1) [u32 (crcT i)] = tabTo (i + 1) ++ List.replicate (256 - (i + 1)) (u32 0) := by
        have e : 0 + (i : Int).toNat * 1 = (tabTo i).length := by rw [tabTo_len]; omega
        unfold putAt
        rw [e, List.take_left, ← List.drop_drop, List.drop_left, List.drop_replicate]
        simp only [tabTo, List.range_succ, List.map_append, List.map_cons, List.map_nil, List.append_assoc, List.length_cons, List.length_nil]
        congr 3
      rw [this] at S
      exact S
  · have hi' : i = 256 := by omega
    subst hi'
    have e : tabTo 256 ++ List.replicate (256 - 256) (u32 0) = tabTo 256 := by simp
    rw [e] at S
    (repeat first|refine Nv.r ?_|refine Jk rfl ?_|(refine JX ?_;conv=>whnf)|(refine JV ?_;(conv=>whnf);show Evs _ _ _ _ _)|refine JJ rfl ?_|refine JK rfl ?_|refine JQ rfl ?_|refine JL rfl rfl ?_|refine JM rfl rfl ?_|refine JN rfl ?_|refine JO rfl ?_|refine JP rfl ?_)
    refine e_ld (v := .agg ⟨tabTo 256⟩) (S.row 0 rfl (by simp [tabTo_len]) (by rw [List.drop_zero, List.take_of_length_le (by simp [tabTo_len])])) ?_
    refine e_st S 0 rfl rfl rfl (by simp [tabTo_len]) (by simp [tabTo, Value.flat]) (by simp [tabTo_len]) fun w S => ?_
    rw [putAt_all rfl] at S
    (repeat first|refine Nv.r ?_|refine Jk rfl ?_|(refine JX ?_;conv=>whnf)|(refine JV ?_;(conv=>whnf);show Evs _ _ _ _ _)|refine JJ rfl ?_|refine JK rfl ?_|refine JQ rfl ?_|refine JL rfl rfl ?_|refine JM rfl rfl ?_|refine JN rfl ?_|refine JO rfl ?_|refine JP rfl ?_)
    refine f_ret (vs := [.agg ⟨tabTo 256⟩]) rfl ?_ (hQ _ _ _ rfl S)
    simp only [rvsV, rvV]
    rw [show Rg.ev _ _ = Value.pointer (some ⟨b, 0, none⟩) from rfl, S.row 0 rfl (by simp [tabTo_len]) (by rw [List.drop_zero, List.take_of_length_le (by simp [tabTo_len])])]

end Go.Proofs.YtjnogknjdjphaaaGreat

/-
  The walks of crc.Extend, crc.Of and of the sector's numbers.
-/
namespace Go.Proofs.YtjnogknjdjphaaaGreat
open Dn
attribute [local irreducible] Evs Ev EvT DSpec PSpec CallTo
set_option maxRecDepth 10000

theorem crc_extend (c : BitVec 32) (b cap : Nat) (l : Sec) (sp : List Value) (ty : Nat) (fr : Nat × Nat) (hl : l.length ≤ 1000000) :
    DSpec Tryz.prog 235 [u32 c, .slice (some ⟨b, 0, none⟩) l.length cap] [(b, .cells ⟨bcells l ++ sp⟩ ty fr)] fun v L => v = u32 (~~~ (crcReg (~~~ c) l)) ∧ L = [(b, .cells ⟨bcells l ++ sp⟩ ty fr)] := by
  refine spec_of mix Tryz.func235 c235_eq rfl rfl fun w F Q S hQ => ?_
  (repeat first|refine Nv.r ?_|refine Jk rfl ?_|(refine JX ?_;conv=>whnf)|(refine JV ?_;(conv=>whnf);show Evs _ _ _ _ _)|refine JJ rfl ?_|refine JK rfl ?_|refine JQ rfl ?_|refine JL rfl rfl ?_|refine JM rfl rfl ?_|refine JN rfl ?_|refine JO rfl ?_|refine JP rfl ?_)
  refine e_callP rfl crc_table S fun w S => ?_
  refine e_nwE S (cs' := List.replicate 256 (u32 0)) rfl fun t w S => ?_
  refine e_st S 0 rfl rfl rfl (by simp [tabTo_len]) (by simp [tabTo, Value.flat]) (by simp) fun w S => ?_
  rw [putAt_all (by simp [tabTo_len])] at S
  (repeat first|refine Nv.r ?_|refine Jk rfl ?_)
  refine e_mvI rfl ?_
  refine e_p (un_not32 rfl) ?_
  (repeat first|refine Nv.r ?_|refine Jk rfl ?_|(refine JX ?_;conv=>whnf)|(refine JV ?_;(conv=>whnf);show Evs _ _ _ _ _)|refine JJ rfl ?_|refine JK rfl ?_|refine JQ rfl ?_|refine JL rfl rfl ?_|refine JM rfl rfl ?_|refine JN rfl ?_|refine JO rfl ?_|refine JP rfl ?_)
  refine s_loop (σ := Nat) (fun i => [(14, .int .i64 (i : Int)), (6, u32 (crcReg (~~~ c) (l.take i))), (12, .slice (some ⟨b, 0, none⟩) l.length cap), (13, .int .i64 (l.length : Int)), (5, .pointer (some ⟨t, 0, none⟩))])
    (fun i w => i ≤ l.length ∧ Sep w [(t, .cells ⟨tabTo 256⟩ 289), (b, .cells ⟨bcells l ++ sp⟩ ty fr)] F) (fun i => l.length - i) 0 ⟨rfl, rfl, rfl, rfl, rfl, trivial⟩ rfl ⟨by omega, S⟩ ?_
  rintro g i w ⟨hi, S⟩
  simp only [setL]
  (repeat first|refine Nv.r ?_|refine Jk rfl ?_|(refine JX ?_;conv=>whnf)|(refine JV ?_;(conv=>whnf);show Evs _ _ _ _ _)|refine JJ rfl ?_|refine JK rfl ?_|refine JQ rfl ?_|refine JL rfl rfl ?_|refine JM rfl rfl ?_|refine JN rfl ?_|refine JO rfl ?_|refine JP rfl ?_)
  refine s_iteD rfl (fun h => ?_) (fun h => ?_)
  · have hi' : i < l.length := by omega
    (repeat first|refine Nv.r ?_|refine Jk rfl ?_|(refine JX ?_;conv=>whnf)|(refine JV ?_;(conv=>whnf);show Evs _ _ _ _ _)|refine JJ rfl ?_|refine JK rfl ?_|refine JQ rfl ?_|refine JL rfl rfl ?_|refine JM rfl rfl ?_|refine JN rfl ?_|refine JO rfl ?_|refine JP rfl ?_)
    refine e_ixa rfl rfl (by omega) (by omega) ?_
    refine e_ld (v := bv l[i]) (S.cell 1 rfl ?_) ?_
    · rw [show 0 + (i : Int).toNat * 1 = i by omega, List.getElem?_append_left (by simpa using hi')]
      simp [bcells, hi']
    (repeat first|refine Nv.r ?_|refine Jk rfl ?_)
    refine e_mvI rfl ?_
    (repeat first|refine Nv.r ?_|refine Jk rfl ?_|(refine JX ?_;conv=>whnf)|(refine JV ?_;(conv=>whnf);show Evs _ _ _ _ _)|refine JJ rfl ?_|refine JK rfl ?_|refine JQ rfl ?_|refine JL rfl rfl ?_|refine JM rfl rfl ?_|refine JN rfl ?_|refine JO rfl ?_|refine JP rfl ?_)
    refine e_arv rfl rfl (ar_shr32 _ 8 (by omega)) ?_
    (repeat first|refine Nv.r ?_|refine Jk rfl ?_)
    refine e_mvI rfl ?_
    refine e_p (v := .int .u8 (((crcReg (~~~ c) (l.take i)).toNat % 256 : Nat) : Int)) (congrArg (fun x => some (Value.int .u8 x)) (by rw [wrap_u8]; omega)) ?_
    refine e_mvI (n := (l[i].toNat : Int)) rfl ?_
    refine e_arv rfl rfl (ar_xor8 _ _ (by omega) (UInt8.toNat_lt _)) ?_
    have hx : (crcReg (~~~ c) (l.take i)).toNat % 256 ^^^ l[i].toNat < 256 := Nat.xor_lt_two_pow (n := 8) (by omega) (UInt8.toNat_lt _)
    refine e_ixp rfl rfl (by omega) (by omega) ?_
    refine e_ld (v := u32 (crcT ((crcReg (~~~ c) (l.take i)).toNat % 256 ^^^ l[i].toNat))) (S.cell 0 rfl ?_) ?_
    · rw [show 0 + (((crcReg (~~~ c) (l.take i)).toNat % 256 ^^^ l[i].toNat : Nat) : Int).toNat * 1 = (crcReg (~~~ c) (l.take i)).toNat % 256 ^^^ l[i].toNat by omega]
      simp [tabTo, hx]
    refine e_arv rfl rfl (ar_xor32 _ _) ?_
    (repeat first|refine Nv.r ?_|refine Jk rfl ?_|(refine JX ?_;conv=>whnf)|(refine JV ?_;(conv=>whnf);show Evs _ _ _ _ _)|refine JJ rfl ?_|refine JK rfl ?_|refine JQ rfl ?_|refine JL rfl rfl ?_|refine JM rfl rfl ?_|refine JN rfl ?_|refine JO rfl ?_|refine JP rfl ?_)
    refine e_add rfl rfl (by omega) (by omega) ?_
    (repeat first|refine Nv.r ?_|refine Jk rfl ?_|(refine JX ?_;conv=>whnf)|(refine JV ?_;(conv=>whnf);show Evs _ _ _ _ _)|refine JJ rfl ?_|refine JK rfl ?_|refine JQ rfl ?_|refine JL rfl rfl ?_|refine JM rfl rfl ?_|refine JN rfl ?_|refine JO rfl ?_|refine JP rfl ?_)
    refine ⟨rfl, i + 1, ⟨rfl, ?_, rfl, rfl, rfl, trivial⟩, ⟨by omega, S⟩, by omega⟩
    show u32 _ = u32 _
    congr 3
    rw [List.take_succ_eq_append_getElem hi', crcReg, crcReg, List.foldl_append]
    rfl
  · have hi' : i = l.length := by omega
    subst hi'
    (repeat first|refine Nv.r ?_|refine Jk rfl ?_)
    refine e_mvI rfl ?_
    refine e_p (un_not32 rfl) ?_
    (repeat first|refine Nv.r ?_|refine Jk rfl ?_|(refine JX ?_;conv=>whnf)|(refine JV ?_;(conv=>whnf);show Evs _ _ _ _ _)|refine JJ rfl ?_|refine JK rfl ?_|refine JQ rfl ?_|refine JL rfl rfl ?_|refine JM rfl rfl ?_|refine JN rfl ?_|refine JO rfl ?_|refine JP rfl ?_)
    refine f_ret rfl rfl (hQ _ _ _ ⟨?_, rfl⟩ (S.drop (L2 := [_])))
    show u32 _ = u32 _
    rw [List.take_length]

theorem crc_of (b cap : Nat) (l : Sec) (sp : List Value) (ty : Nat) (fr : Nat × Nat) (hl : l.length ≤ 1000000) :
    DSpec Tryz.prog 203 [.slice (some ⟨b, 0, none⟩) l.length cap] [(b, .cells ⟨bcells l ++ sp⟩ ty fr)] fun v L => v = u32 (crcOf l) ∧ L = [(b, .cells ⟨bcells l ++ sp⟩ ty fr)] := by
  refine spec_of mix Tryz.func203 c203_eq rfl rfl fun w F Q S hQ => ?_
  (repeat first|refine Nv.r ?_|refine Jk rfl ?_|(refine JX ?_;conv=>whnf)|(refine JV ?_;(conv=>whnf);show Evs _ _ _ _ _)|refine JJ rfl ?_|refine JK rfl ?_|refine JQ rfl ?_|refine JL rfl rfl ?_|refine JM rfl rfl ?_|refine JN rfl ?_|refine JO rfl ?_|refine JP rfl ?_)
  refine e_call (L2 := []) rfl (crc_extend 0#32 b cap l sp ty fr hl) S ?_
  rintro _ _ w ⟨rfl, rfl⟩ S
  (repeat first|refine Nv.r ?_|refine Jk rfl ?_|(refine JX ?_;conv=>whnf)|(refine JV ?_;(conv=>whnf);show Evs _ _ _ _ _)|refine JJ rfl ?_|refine JK rfl ?_|refine JQ rfl ?_|refine JL rfl rfl ?_|refine JM rfl rfl ?_|refine JN rfl ?_|refine JO rfl ?_|refine JP rfl ?_)
  exact f_ret rfl rfl (hQ _ _ _ ⟨rfl, rfl⟩ S)

theorem sec_valid (p : Pl) : PSpec Tryz.prog 188 [.agg ⟨p.v⟩] (.bool (decide p.ok)) := by
  refine pspec_of mix Tryz.func188 c188_eq rfl rfl fun w F Q S hQ => ?_
  (repeat first|refine Nv.r ?_|refine Jk rfl ?_|(refine JX ?_;conv=>whnf)|(refine JV ?_;(conv=>whnf);show Evs _ _ _ _ _)|refine JJ rfl ?_|refine JK rfl ?_|refine JQ rfl ?_|refine JL rfl rfl ?_|refine JM rfl rfl ?_|refine JN rfl ?_|refine JO rfl ?_|refine JP rfl ?_)
  refine e_bx S rfl fun b w S => ?_
  (repeat first|refine Nv.r ?_|refine Jk rfl ?_|(refine JX ?_;conv=>whnf)|(refine JV ?_;(conv=>whnf);show Evs _ _ _ _ _)|refine JJ rfl ?_|refine JK rfl ?_|refine JQ rfl ?_|refine JL rfl rfl ?_|refine JM rfl rfl ?_|refine JN rfl ?_|refine JO rfl ?_|refine JP rfl ?_)
  refine e_ld (S.cell 0 rfl rfl) ?_
  (repeat first|refine Nv.r ?_|refine Jk rfl ?_|(refine JX ?_;conv=>whnf)|(refine JV ?_;(conv=>whnf);show Evs _ _ _ _ _)|refine JJ rfl ?_|refine JK rfl ?_|refine JQ rfl ?_|refine JL rfl rfl ?_|refine JM rfl rfl ?_|refine JN rfl ?_|refine JO rfl ?_|refine JP rfl ?_)
  refine e_brD rfl (fun h1 => ?_) (fun h1 => ?_)
  all_goals
    repeat' first
      | (refine f_ret rfl rfl (hQ _ _ _ (congrArg Value.bool ?_) S); first | exact decide_eq_decide.2 (by unfold Pl.ok; omega) | exact (decide_eq_false (by unfold Pl.ok; omega)).symm)
      | (refine e_ld (S.cell 0 rfl rfl) ?_)
      | (refine e_brD rfl (fun h1 => ?_) (fun h1 => ?_))
      | (refine e_pkT rfl ?_)
      | (refine e_pkF rfl ?_)
      | (first|refine Nv.r ?_|refine Jk rfl ?_|(refine JX ?_;conv=>whnf)|(refine JV ?_;(conv=>whnf);show Evs _ _ _ _ _)|refine JJ rfl ?_|refine JK rfl ?_|refine JQ rfl ?_|refine JL rfl rfl ?_|refine JM rfl rfl ?_|refine JN rfl ?_|refine JO rfl ?_|refine JP rfl ?_)

theorem min_lt {a b : Int} : 0 ≤ (if b < a then b else a) ↔ 0 ≤ a ∧ 0 ≤ b := by split <;> omega
theorem max_lt {a b c : Int} : (if b > a then b else a) < c ↔ a < c ∧ b < c := by split <;> omega
theorem sec_validGen (g : Gn) : PSpec Tryz.prog 204 [.agg ⟨g.v⟩] (.bool (decide g.ok)) := by
  refine pspec_of mix Tryz.func204 c204_eq rfl rfl fun w F Q S hQ => ?_
  (repeat first|refine Nv.r ?_|refine Jk rfl ?_|(refine JX ?_;conv=>whnf)|(refine JV ?_;(conv=>whnf);show Evs _ _ _ _ _)|refine JJ rfl ?_|refine JK rfl ?_|refine JQ rfl ?_|refine JL rfl rfl ?_|refine JM rfl rfl ?_|refine JN rfl ?_|refine JO rfl ?_|refine JP rfl ?_)
  refine e_bx S rfl fun b w S => ?_
  (repeat first|refine Nv.r ?_|refine Jk rfl ?_|(refine JX ?_;conv=>whnf)|(refine JV ?_;(conv=>whnf);show Evs _ _ _ _ _)|refine JJ rfl ?_|refine JK rfl ?_|refine JQ rfl ?_|refine JL rfl rfl ?_|refine JM rfl rfl ?_|refine JN rfl ?_|refine JO rfl ?_|refine JP rfl ?_)
  refine e_ld (S.cell 0 rfl rfl) ?_
  (repeat first|refine Nv.r ?_|refine Jk rfl ?_|(refine JX ?_;conv=>whnf)|(refine JV ?_;(conv=>whnf);show Evs _ _ _ _ _)|refine JJ rfl ?_|refine JK rfl ?_|refine JQ rfl ?_|refine JL rfl rfl ?_|refine JM rfl rfl ?_|refine JN rfl ?_|refine JO rfl ?_|refine JP rfl ?_)
  refine e_ld (S.cell 0 rfl rfl) ?_
  (repeat first|refine Nv.r ?_|refine Jk rfl ?_|(refine JX ?_;conv=>whnf)|(refine JV ?_;(conv=>whnf);show Evs _ _ _ _ _)|refine JJ rfl ?_|refine JK rfl ?_|refine JQ rfl ?_|refine JL rfl rfl ?_|refine JM rfl rfl ?_|refine JN rfl ?_|refine JO rfl ?_|refine JP rfl ?_)
  refine e_brD rfl (fun h1 => ?_) (fun h1 => ?_)
  · (repeat first|refine Nv.r ?_|refine Jk rfl ?_|(refine JX ?_;conv=>whnf)|(refine JV ?_;(conv=>whnf);show Evs _ _ _ _ _)|refine JJ rfl ?_|refine JK rfl ?_|refine JQ rfl ?_|refine JL rfl rfl ?_|refine JM rfl rfl ?_|refine JN rfl ?_|refine JO rfl ?_|refine JP rfl ?_)
    refine e_ld (S.cell 0 rfl rfl) ?_
    (repeat first|refine Nv.r ?_|refine Jk rfl ?_|(refine JX ?_;conv=>whnf)|(refine JV ?_;(conv=>whnf);show Evs _ _ _ _ _)|refine JJ rfl ?_|refine JK rfl ?_|refine JQ rfl ?_|refine JL rfl rfl ?_|refine JM rfl rfl ?_|refine JN rfl ?_|refine JO rfl ?_|refine JP rfl ?_)
    refine e_ld (S.cell 0 rfl rfl) ?_
    (repeat first|refine Nv.r ?_|refine Jk rfl ?_|(refine JX ?_;conv=>whnf)|(refine JV ?_;(conv=>whnf);show Evs _ _ _ _ _)|refine JJ rfl ?_|refine JK rfl ?_|refine JQ rfl ?_|refine JL rfl rfl ?_|refine JM rfl rfl ?_|refine JN rfl ?_|refine JO rfl ?_|refine JP rfl ?_)
    refine e_brD rfl (fun h2 => ?_) (fun h2 => ?_)
    · (repeat first|refine Nv.r ?_|refine Jk rfl ?_|(refine JX ?_;conv=>whnf)|(refine JV ?_;(conv=>whnf);show Evs _ _ _ _ _)|refine JJ rfl ?_|refine JK rfl ?_|refine JQ rfl ?_|refine JL rfl rfl ?_|refine JM rfl rfl ?_|refine JN rfl ?_|refine JO rfl ?_|refine JP rfl ?_)
      refine e_ld (S.row 0 rfl (by simp [Gn.v]) rfl) ?_
      (repeat first|refine Nv.r ?_|refine Jk rfl ?_|(refine JX ?_;conv=>whnf)|(refine JV ?_;(conv=>whnf);show Evs _ _ _ _ _)|refine JJ rfl ?_|refine JK rfl ?_|refine JQ rfl ?_|refine JL rfl rfl ?_|refine JM rfl rfl ?_|refine JN rfl ?_|refine JO rfl ?_|refine JP rfl ?_)
      refine f_ret rfl rfl (hQ _ _ _ (congrArg Value.bool ?_) S)
      have h1' := min_lt.1 h1
      have h2' := max_lt.1 h2
      have : g.ok ↔ ¬ (g.epoch = 0 ∧ g.count = 0) := by unfold Gn.ok Gn.ok0; omega
      simp only [sgn, cond_true]
      by_cases h3 : g.epoch = 0 ∧ g.count = 0
      · rw [decide_eq_false (p := g.ok) fun h => this.1 h h3]; simp [h3]
      · rw [decide_eq_true (p := g.ok) (this.2 h3)]
        by_cases h4 : g.epoch = 0
        · have : ¬ g.count = 0 := fun h => h3 ⟨h4, h⟩
          simp [h4, this]
        · simp [h4]
    · (repeat first|refine Nv.r ?_|refine Jk rfl ?_|(refine JX ?_;conv=>whnf)|(refine JV ?_;(conv=>whnf);show Evs _ _ _ _ _)|refine JJ rfl ?_|refine JK rfl ?_|refine JQ rfl ?_|refine JL rfl rfl ?_|refine JM rfl rfl ?_|refine JN rfl ?_|refine JO rfl ?_|refine JP rfl ?_)
      refine f_ret rfl rfl (hQ _ _ _ (congrArg Value.bool ?_) S)
      refine (decide_eq_false fun h => h2 (max_lt.2 ?_)).symm
      unfold Gn.ok Gn.ok0 at h; omega
  · (repeat first|refine Nv.r ?_|refine Jk rfl ?_|(refine JX ?_;conv=>whnf)|(refine JV ?_;(conv=>whnf);show Evs _ _ _ _ _)|refine JJ rfl ?_|refine JK rfl ?_|refine JQ rfl ?_|refine JL rfl rfl ?_|refine JM rfl rfl ?_|refine JN rfl ?_|refine JO rfl ?_|refine JP rfl ?_)
    refine f_ret rfl rfl (hQ _ _ _ (congrArg Value.bool ?_) S)
    refine (decide_eq_false fun h => h1 (min_lt.2 ?_)).symm
    unfold Gn.ok Gn.ok0 at h; omega

theorem wal_isNaN (x : Int) : PSpec Tryz.prog 213 [.int .i64 x] (.bool false) := by
  refine pspec_of mix Tryz.func213 c213_eq rfl rfl fun w F Q S hQ => ?_
  (repeat first|refine Nv.r ?_|refine Jk rfl ?_|(refine JX ?_;conv=>whnf)|(refine JV ?_;(conv=>whnf);show Evs _ _ _ _ _)|refine JJ rfl ?_|refine JK rfl ?_|refine JQ rfl ?_|refine JL rfl rfl ?_|refine JM rfl rfl ?_|refine JN rfl ?_|refine JO rfl ?_|refine JP rfl ?_)
  refine f_ret rfl rfl (hQ _ _ _ (congrArg Value.bool ?_) S)
  simp

def cmpV (x y : Int) : Int := if x < y then -1 else if x > y then 1 else 0
theorem cmp_compare (x y : Int) : PSpec Tryz.prog 150 [.int .i64 x, .int .i64 y] (.int .i64 (cmpV x y)) := by
  refine pspec_of mix Tryz.func150 c150_eq rfl rfl fun w F Q S hQ => ?_
  (repeat first|refine Nv.r ?_|refine Jk rfl ?_|(refine JX ?_;conv=>whnf)|(refine JV ?_;(conv=>whnf);show Evs _ _ _ _ _)|refine JJ rfl ?_|refine JK rfl ?_|refine JQ rfl ?_|refine JL rfl rfl ?_|refine JM rfl rfl ?_|refine JN rfl ?_|refine JO rfl ?_|refine JP rfl ?_)
  refine e_callP rfl (wal_isNaN x) S fun w S => ?_
  (repeat first|refine Nv.r ?_|refine Jk rfl ?_|(refine JX ?_;conv=>whnf)|(refine JV ?_;(conv=>whnf);show Evs _ _ _ _ _)|refine JJ rfl ?_|refine JK rfl ?_|refine JQ rfl ?_|refine JL rfl rfl ?_|refine JM rfl rfl ?_|refine JN rfl ?_|refine JO rfl ?_|refine JP rfl ?_)
  refine e_callP rfl (wal_isNaN y) S fun w S => ?_
  (repeat first|refine Nv.r ?_|refine Jk rfl ?_|(refine JX ?_;conv=>whnf)|(refine JV ?_;(conv=>whnf);show Evs _ _ _ _ _)|refine JJ rfl ?_|refine JK rfl ?_|refine JQ rfl ?_|refine JL rfl rfl ?_|refine JM rfl rfl ?_|refine JN rfl ?_|refine JO rfl ?_|refine JP rfl ?_)
  refine s_iteD rfl (fun h => ?_) (fun h => ?_)
  · (repeat first|refine Nv.r ?_|refine Jk rfl ?_|(refine JX ?_;conv=>whnf)|(refine JV ?_;(conv=>whnf);show Evs _ _ _ _ _)|refine JJ rfl ?_|refine JK rfl ?_|refine JQ rfl ?_|refine JL rfl rfl ?_|refine JM rfl rfl ?_|refine JN rfl ?_|refine JO rfl ?_|refine JP rfl ?_)
    exact f_ret rfl rfl (hQ _ _ _ (congrArg (Value.int .i64) (by unfold cmpV; rw [if_pos h])) S)
  · (repeat first|refine Nv.r ?_|refine Jk rfl ?_|(refine JX ?_;conv=>whnf)|(refine JV ?_;(conv=>whnf);show Evs _ _ _ _ _)|refine JJ rfl ?_|refine JK rfl ?_|refine JQ rfl ?_|refine JL rfl rfl ?_|refine JM rfl rfl ?_|refine JN rfl ?_|refine JO rfl ?_|refine JP rfl ?_)
    refine s_iteD rfl (fun h2 => ?_) (fun h2 => ?_)
    · (repeat first|refine Nv.r ?_|refine Jk rfl ?_|(refine JX ?_;conv=>whnf)|(refine JV ?_;(conv=>whnf);show Evs _ _ _ _ _)|refine JJ rfl ?_|refine JK rfl ?_|refine JQ rfl ?_|refine JL rfl rfl ?_|refine JM rfl rfl ?_|refine JN rfl ?_|refine JO rfl ?_|refine JP rfl ?_)
      exact f_ret rfl rfl (hQ _ _ _ (congrArg (Value.int .i64) (by unfold cmpV; rw [if_neg h, if_pos h2])) S)
    · (repeat first|refine Nv.r ?_|refine Jk rfl ?_|(refine JX ?_;conv=>whnf)|(refine JV ?_;(conv=>whnf);show Evs _ _ _ _ _)|refine JJ rfl ?_|refine JK rfl ?_|refine JQ rfl ?_|refine JL rfl rfl ?_|refine JM rfl rfl ?_|refine JN rfl ?_|refine JO rfl ?_|refine JP rfl ?_)
      exact f_ret rfl rfl (hQ _ _ _ (congrArg (Value.int .i64) (by unfold cmpV; rw [if_neg h, if_neg h2])) S)

theorem cmp_or (b : Nat) (x y : Int) (ty : Nat) (fr : Nat × Nat) : DSpec Tryz.prog 149 [.slice (some ⟨b, 0, none⟩) 2 2] [(b, .cells ⟨[.int .i64 x, .int .i64 y]⟩ ty fr)] fun v L => v = .int .i64 (if x ≠ 0 then x else y) ∧ L = [(b, .cells ⟨[.int .i64 x, .int .i64 y]⟩ ty fr)] := by
  refine spec_of mix Tryz.func149 c149_eq rfl rfl fun w F Q S hQ => ?_
  (repeat first|refine Nv.r ?_|refine Jk rfl ?_|(refine JX ?_;conv=>whnf)|(refine JV ?_;(conv=>whnf);show Evs _ _ _ _ _)|refine JJ rfl ?_|refine JK rfl ?_|refine JQ rfl ?_|refine JL rfl rfl ?_|refine JM rfl rfl ?_|refine JN rfl ?_|refine JO rfl ?_|refine JP rfl ?_)
  refine s_loop (σ := Nat) (fun i => [(8, .int .i64 (i : Int)), (7, .int .i64 2), (6, .slice (some ⟨b, 0, none⟩) 2 2), (3, .int .i64 0)])
    (fun i w => i ≤ 2 ∧ (1 ≤ i → x = 0) ∧ (2 ≤ i → y = 0) ∧ Sep w [(b, .cells ⟨[.int .i64 x, .int .i64 y]⟩ ty fr)] F) (fun i => 2 - i) 0 ⟨rfl, rfl, rfl, rfl, trivial⟩ rfl ⟨by omega, by omega, by omega, S⟩ ?_
  rintro g i w ⟨hi, hx, hy, S⟩
  simp only [setL]
  (repeat first|refine Nv.r ?_|refine Jk rfl ?_|(refine JX ?_;conv=>whnf)|(refine JV ?_;(conv=>whnf);show Evs _ _ _ _ _)|refine JJ rfl ?_|refine JK rfl ?_|refine JQ rfl ?_|refine JL rfl rfl ?_|refine JM rfl rfl ?_|refine JN rfl ?_|refine JO rfl ?_|refine JP rfl ?_)
  refine s_iteD rfl (fun h => ?_) (fun h => ?_)
  · (repeat first|refine Nv.r ?_|refine Jk rfl ?_|(refine JX ?_;conv=>whnf)|(refine JV ?_;(conv=>whnf);show Evs _ _ _ _ _)|refine JJ rfl ?_|refine JK rfl ?_|refine JQ rfl ?_|refine JL rfl rfl ?_|refine JM rfl rfl ?_|refine JN rfl ?_|refine JO rfl ?_|refine JP rfl ?_)
    refine e_ixa rfl rfl (by omega) (by omega) ?_
    have hi2 : i = 0 ∨ i = 1 := by omega
    rcases hi2 with rfl | rfl
    · refine e_ld (S.cell 0 rfl rfl) ?_
      (repeat first|refine Nv.r ?_|refine Jk rfl ?_|(refine JX ?_;conv=>whnf)|(refine JV ?_;(conv=>whnf);show Evs _ _ _ _ _)|refine JJ rfl ?_|refine JK rfl ?_|refine JQ rfl ?_|refine JL rfl rfl ?_|refine JM rfl rfl ?_|refine JN rfl ?_|refine JO rfl ?_|refine JP rfl ?_)
      refine s_ite (t := !(x == 0)) rfl (fun h => ?_) (fun h => ?_)
      · (repeat first|refine Nv.r ?_|refine Jk rfl ?_|(refine JX ?_;conv=>whnf)|(refine JV ?_;(conv=>whnf);show Evs _ _ _ _ _)|refine JJ rfl ?_|refine JK rfl ?_|refine JQ rfl ?_|refine JL rfl rfl ?_|refine JM rfl rfl ?_|refine JN rfl ?_|refine JO rfl ?_|refine JP rfl ?_)
        refine f_ret rfl rfl (hQ _ _ _ ⟨?_, rfl⟩ S)
        have : x ≠ 0 := by simpa using h
        rw [if_pos this]; rfl
      · have hx0 : x = 0 := by simpa using h
        (repeat first|refine Nv.r ?_|refine Jk rfl ?_|(refine JX ?_;conv=>whnf)|(refine JV ?_;(conv=>whnf);show Evs _ _ _ _ _)|refine JJ rfl ?_|refine JK rfl ?_|refine JQ rfl ?_|refine JL rfl rfl ?_|refine JM rfl rfl ?_|refine JN rfl ?_|refine JO rfl ?_|refine JP rfl ?_)
        refine e_add rfl rfl (by omega) (by omega) ?_
        (repeat first|refine Nv.r ?_|refine Jk rfl ?_|(refine JX ?_;conv=>whnf)|(refine JV ?_;(conv=>whnf);show Evs _ _ _ _ _)|refine JJ rfl ?_|refine JK rfl ?_|refine JQ rfl ?_|refine JL rfl rfl ?_|refine JM rfl rfl ?_|refine JN rfl ?_|refine JO rfl ?_|refine JP rfl ?_)
        exact ⟨rfl, 1, ⟨rfl, rfl, rfl, rfl, trivial⟩, ⟨by omega, fun _ => hx0, by omega, S⟩, by omega⟩
    · refine e_ld (S.cell 0 rfl rfl) ?_
      (repeat first|refine Nv.r ?_|refine Jk rfl ?_|(refine JX ?_;conv=>whnf)|(refine JV ?_;(conv=>whnf);show Evs _ _ _ _ _)|refine JJ rfl ?_|refine JK rfl ?_|refine JQ rfl ?_|refine JL rfl rfl ?_|refine JM rfl rfl ?_|refine JN rfl ?_|refine JO rfl ?_|refine JP rfl ?_)
      refine s_ite (t := !(y == 0)) rfl (fun h => ?_) (fun h => ?_)
      · (repeat first|refine Nv.r ?_|refine Jk rfl ?_|(refine JX ?_;conv=>whnf)|(refine JV ?_;(conv=>whnf);show Evs _ _ _ _ _)|refine JJ rfl ?_|refine JK rfl ?_|refine JQ rfl ?_|refine JL rfl rfl ?_|refine JM rfl rfl ?_|refine JN rfl ?_|refine JO rfl ?_|refine JP rfl ?_)
        refine f_ret rfl rfl (hQ _ _ _ ⟨?_, rfl⟩ S)
        rw [if_neg (by simp [hx])]; rfl
      · have hy0 : y = 0 := by simpa using h
        (repeat first|refine Nv.r ?_|refine Jk rfl ?_|(refine JX ?_;conv=>whnf)|(refine JV ?_;(conv=>whnf);show Evs _ _ _ _ _)|refine JJ rfl ?_|refine JK rfl ?_|refine JQ rfl ?_|refine JL rfl rfl ?_|refine JM rfl rfl ?_|refine JN rfl ?_|refine JO rfl ?_|refine JP rfl ?_)
        refine e_add rfl rfl (by omega) (by omega) ?_
        (repeat first|refine Nv.r ?_|refine Jk rfl ?_|(refine JX ?_;conv=>whnf)|(refine JV ?_;(conv=>whnf);show Evs _ _ _ _ _)|refine JJ rfl ?_|refine JK rfl ?_|refine JQ rfl ?_|refine JL rfl rfl ?_|refine JM rfl rfl ?_|refine JN rfl ?_|refine JO rfl ?_|refine JP rfl ?_)
        exact ⟨rfl, 2, ⟨rfl, rfl, rfl, rfl, trivial⟩, ⟨by omega, fun _ => hx (by omega), fun _ => hy0, S⟩, by omega⟩
  · (repeat first|refine Nv.r ?_|refine Jk rfl ?_|(refine JX ?_;conv=>whnf)|(refine JV ?_;(conv=>whnf);show Evs _ _ _ _ _)|refine JJ rfl ?_|refine JK rfl ?_|refine JQ rfl ?_|refine JL rfl rfl ?_|refine JM rfl rfl ?_|refine JN rfl ?_|refine JO rfl ?_|refine JP rfl ?_)
    refine f_ret rfl rfl (hQ _ _ _ ⟨?_, rfl⟩ S)
    rw [if_neg (by simp [hx (by omega)]), hy (by omega)]; rfl

theorem newer_cmp (a b : Gn) : (0 < (if cmpV a.epoch b.epoch ≠ 0 then cmpV a.epoch b.epoch else cmpV a.count b.count)) ↔ a.newer b := by
  unfold cmpV Gn.newer
  repeat' split
  all_goals omega

theorem sec_newer (a b : Gn) : PSpec Tryz.prog 68 [.agg ⟨a.v⟩, .agg ⟨b.v⟩] (.bool (decide (a.newer b))) := by
  refine pspec_of mix Tryz.func68 c68_eq rfl rfl fun w F Q S hQ => ?_
  (repeat first|refine Nv.r ?_|refine Jk rfl ?_|(refine JX ?_;conv=>whnf)|(refine JV ?_;(conv=>whnf);show Evs _ _ _ _ _)|refine JJ rfl ?_|refine JK rfl ?_|refine JQ rfl ?_|refine JL rfl rfl ?_|refine JM rfl rfl ?_|refine JN rfl ?_|refine JO rfl ?_|refine JP rfl ?_)
  refine e_bx S rfl fun p w S => ?_
  refine e_bx S rfl fun q w S => ?_
  (repeat first|refine Nv.r ?_|refine Jk rfl ?_|(refine JX ?_;conv=>whnf)|(refine JV ?_;(conv=>whnf);show Evs _ _ _ _ _)|refine JJ rfl ?_|refine JK rfl ?_|refine JQ rfl ?_|refine JL rfl rfl ?_|refine JM rfl rfl ?_|refine JN rfl ?_|refine JO rfl ?_|refine JP rfl ?_)
  replace S := S.drew
  refine e_ld (S.cell 1 rfl rfl) ?_
  (repeat first|refine Nv.r ?_|refine Jk rfl ?_|(refine JX ?_;conv=>whnf)|(refine JV ?_;(conv=>whnf);show Evs _ _ _ _ _)|refine JJ rfl ?_|refine JK rfl ?_|refine JQ rfl ?_|refine JL rfl rfl ?_|refine JM rfl rfl ?_|refine JN rfl ?_|refine JO rfl ?_|refine JP rfl ?_)
  refine e_ld (S.cell 0 rfl rfl) ?_
  (repeat first|refine Nv.r ?_|refine Jk rfl ?_|(refine JX ?_;conv=>whnf)|(refine JV ?_;(conv=>whnf);show Evs _ _ _ _ _)|refine JJ rfl ?_|refine JK rfl ?_|refine JQ rfl ?_|refine JL rfl rfl ?_|refine JM rfl rfl ?_|refine JN rfl ?_|refine JO rfl ?_|refine JP rfl ?_)
  repeat' first
    | (with_reducible refine t_alt ?_ ?_)
    | (refine e_ld (S.cell 1 rfl rfl) ?_)
    | (refine e_ld (S.cell 0 rfl rfl) ?_)
    | (refine e_callP rfl (cmp_compare _ _) S fun w S => ?_)
    | (first|refine Nv.r ?_|refine Jk rfl ?_|(refine JX ?_;conv=>whnf)|(refine JV ?_;(conv=>whnf);show Evs _ _ _ _ _)|refine JJ rfl ?_|refine JK rfl ?_|refine JQ rfl ?_|refine JL rfl rfl ?_|refine JM rfl rfl ?_|refine JN rfl ?_|refine JO rfl ?_|refine JP rfl ?_)
  all_goals
    refine e_bsl (size := 1) (xs := [.int .i64 (cmpV a.epoch b.epoch), .int .i64 (cmpV a.count b.count)]) S Tryz.underlying54 rfl rfl ⟨_, rfl⟩ (by omega) (by omega) (fun zs hz => ?_) fun s w S => ?_
    · match zs, hz with
      | [u, v], _ => rfl
    · (repeat first|refine Nv.r ?_|refine Jk rfl ?_|(refine JX ?_;conv=>whnf)|(refine JV ?_;(conv=>whnf);show Evs _ _ _ _ _)|refine JJ rfl ?_|refine JK rfl ?_|refine JQ rfl ?_|refine JL rfl rfl ?_|refine JM rfl rfl ?_|refine JN rfl ?_|refine JO rfl ?_|refine JP rfl ?_)
      refine e_call (L2 := [_, _]) rfl (cmp_or s _ _ _ _) S ?_
      rintro _ _ w ⟨rfl, rfl⟩ S
      (repeat first|refine Nv.r ?_|refine Jk rfl ?_|(refine JX ?_;conv=>whnf)|(refine JV ?_;(conv=>whnf);show Evs _ _ _ _ _)|refine JJ rfl ?_|refine JK rfl ?_|refine JQ rfl ?_|refine JL rfl rfl ?_|refine JM rfl rfl ?_|refine JN rfl ?_|refine JO rfl ?_|refine JP rfl ?_)
      exact f_ret rfl rfl (hQ _ _ _ (congrArg Value.bool (decide_eq_decide.2 (newer_cmp a b))) S)

end Go.Proofs.YtjnogknjdjphaaaGreat

/-
  The walks of put, get, Clone.
-/
namespace Go.Proofs.YtjnogknjdjphaaaGreat
open Dn
attribute [local irreducible] Evs Ev EvT DSpec PSpec CallTo
set_option maxRecDepth 10000

theorem sizeOf16 : PSpec Tryz.prog 243 [] (.int .i64 2) := by
  refine pspec_of mix Tryz.func243 c243_eq rfl rfl fun w F Q S hQ => ?_
  (repeat first|refine Nv.r ?_|refine Jk rfl ?_|(refine JX ?_;conv=>whnf)|(refine JV ?_;(conv=>whnf);show Evs _ _ _ _ _)|refine JJ rfl ?_|refine JK rfl ?_|refine JQ rfl ?_|refine JL rfl rfl ?_|refine JM rfl rfl ?_|refine JN rfl ?_|refine JO rfl ?_|refine JP rfl ?_)
  refine s_loop (σ := Nat) (fun k => [(2, .int .u64 ((65535 / 256 ^ k : Nat) : Int)), (1, .int .i64 (k : Int))]) (fun k w => k ≤ 2 ∧ Sep w [] F) (fun k => 2 - k) 0 ⟨rfl, rfl, trivial⟩ rfl ⟨by omega, S⟩ ?_
  rintro g k w ⟨hk, S⟩
  simp only [setL]
  (repeat first|refine Nv.r ?_|refine Jk rfl ?_|(refine JX ?_;conv=>whnf)|(refine JV ?_;(conv=>whnf);show Evs _ _ _ _ _)|refine JJ rfl ?_|refine JK rfl ?_|refine JQ rfl ?_|refine JL rfl rfl ?_|refine JM rfl rfl ?_|refine JN rfl ?_|refine JO rfl ?_|refine JP rfl ?_)
  have hk3 : k = 0 ∨ k = 1 ∨ k = 2 := by omega
  rcases hk3 with rfl | rfl | rfl
  · refine s_iteT rfl ?_
    (repeat first|refine Nv.r ?_|refine Jk rfl ?_|(refine JX ?_;conv=>whnf)|(refine JV ?_;(conv=>whnf);show Evs _ _ _ _ _)|refine JJ rfl ?_|refine JK rfl ?_|refine JQ rfl ?_|refine JL rfl rfl ?_|refine JM rfl rfl ?_|refine JN rfl ?_|refine JO rfl ?_|refine JP rfl ?_)
    refine e_add rfl rfl (by omega) (by omega) ?_
    (repeat first|refine Nv.r ?_|refine Jk rfl ?_|(refine JX ?_;conv=>whnf)|(refine JV ?_;(conv=>whnf);show Evs _ _ _ _ _)|refine JJ rfl ?_|refine JK rfl ?_|refine JQ rfl ?_|refine JL rfl rfl ?_|refine JM rfl rfl ?_|refine JN rfl ?_|refine JO rfl ?_|refine JP rfl ?_)
    refine e_arv (r := .int .u64 255) rfl rfl rfl ?_
    (repeat first|refine Nv.r ?_|refine Jk rfl ?_|(refine JX ?_;conv=>whnf)|(refine JV ?_;(conv=>whnf);show Evs _ _ _ _ _)|refine JJ rfl ?_|refine JK rfl ?_|refine JQ rfl ?_|refine JL rfl rfl ?_|refine JM rfl rfl ?_|refine JN rfl ?_|refine JO rfl ?_|refine JP rfl ?_)
    exact ⟨rfl, 1, ⟨rfl, rfl, trivial⟩, ⟨by omega, S⟩, by omega⟩
  · refine s_iteT rfl ?_
    (repeat first|refine Nv.r ?_|refine Jk rfl ?_|(refine JX ?_;conv=>whnf)|(refine JV ?_;(conv=>whnf);show Evs _ _ _ _ _)|refine JJ rfl ?_|refine JK rfl ?_|refine JQ rfl ?_|refine JL rfl rfl ?_|refine JM rfl rfl ?_|refine JN rfl ?_|refine JO rfl ?_|refine JP rfl ?_)
    refine e_add rfl rfl (by omega) (by omega) ?_
    (repeat first|refine Nv.r ?_|refine Jk rfl ?_|(refine JX ?_;conv=>whnf)|(refine JV ?_;(conv=>whnf);show Evs _ _ _ _ _)|refine JJ rfl ?_|refine JK rfl ?_|refine JQ rfl ?_|refine JL rfl rfl ?_|refine JM rfl rfl ?_|refine JN rfl ?_|refine JO rfl ?_|refine JP rfl ?_)
    refine e_arv (r := .int .u64 0) rfl rfl rfl ?_
    (repeat first|refine Nv.r ?_|refine Jk rfl ?_|(refine JX ?_;conv=>whnf)|(refine JV ?_;(conv=>whnf);show Evs _ _ _ _ _)|refine JJ rfl ?_|refine JK rfl ?_|refine JQ rfl ?_|refine JL rfl rfl ?_|refine JM rfl rfl ?_|refine JN rfl ?_|refine JO rfl ?_|refine JP rfl ?_)
    exact ⟨rfl, 2, ⟨rfl, rfl, trivial⟩, ⟨by omega, S⟩, by omega⟩
  · refine s_iteF rfl ?_
    (repeat first|refine Nv.r ?_|refine Jk rfl ?_|(refine JX ?_;conv=>whnf)|(refine JV ?_;(conv=>whnf);show Evs _ _ _ _ _)|refine JJ rfl ?_|refine JK rfl ?_|refine JQ rfl ?_|refine JL rfl rfl ?_|refine JM rfl rfl ?_|refine JN rfl ?_|refine JO rfl ?_|refine JP rfl ?_)
    exact f_ret rfl rfl (hQ _ _ _ rfl S)

theorem sizeOf32 : PSpec Tryz.prog 244 [] (.int .i64 4) := by
  refine pspec_of mix Tryz.func244 c244_eq rfl rfl fun w F Q S hQ => ?_
  (repeat first|refine Nv.r ?_|refine Jk rfl ?_|(refine JX ?_;conv=>whnf)|(refine JV ?_;(conv=>whnf);show Evs _ _ _ _ _)|refine JJ rfl ?_|refine JK rfl ?_|refine JQ rfl ?_|refine JL rfl rfl ?_|refine JM rfl rfl ?_|refine JN rfl ?_|refine JO rfl ?_|refine JP rfl ?_)
  refine s_loop (σ := Nat) (fun k => [(2, .int .u64 ((4294967295 / 256 ^ k : Nat) : Int)), (1, .int .i64 (k : Int))]) (fun k w => k ≤ 4 ∧ Sep w [] F) (fun k => 4 - k) 0 ⟨rfl, rfl, trivial⟩ rfl ⟨by omega, S⟩ ?_
  rintro g k w ⟨hk, S⟩
  simp only [setL]
  (repeat first|refine Nv.r ?_|refine Jk rfl ?_|(refine JX ?_;conv=>whnf)|(refine JV ?_;(conv=>whnf);show Evs _ _ _ _ _)|refine JJ rfl ?_|refine JK rfl ?_|refine JQ rfl ?_|refine JL rfl rfl ?_|refine JM rfl rfl ?_|refine JN rfl ?_|refine JO rfl ?_|refine JP rfl ?_)
  have hk3 : k = 4 ∨ k = 0 ∨ k = 1 ∨ k = 2 ∨ k = 3 := by omega
  rcases hk3 with rfl | hk3
  · refine s_iteF rfl ?_
    (repeat first|refine Nv.r ?_|refine Jk rfl ?_|(refine JX ?_;conv=>whnf)|(refine JV ?_;(conv=>whnf);show Evs _ _ _ _ _)|refine JJ rfl ?_|refine JK rfl ?_|refine JQ rfl ?_|refine JL rfl rfl ?_|refine JM rfl rfl ?_|refine JN rfl ?_|refine JO rfl ?_|refine JP rfl ?_)
    exact f_ret rfl rfl (hQ _ _ _ rfl S)
  · rcases hk3 with rfl | rfl | rfl | rfl
    all_goals
      refine s_iteT rfl ?_
      (repeat first|refine Nv.r ?_|refine Jk rfl ?_|(refine JX ?_;conv=>whnf)|(refine JV ?_;(conv=>whnf);show Evs _ _ _ _ _)|refine JJ rfl ?_|refine JK rfl ?_|refine JQ rfl ?_|refine JL rfl rfl ?_|refine JM rfl rfl ?_|refine JN rfl ?_|refine JO rfl ?_|refine JP rfl ?_)
      refine e_add rfl rfl (by omega) (by omega) ?_
      (repeat first|refine Nv.r ?_|refine Jk rfl ?_|(refine JX ?_;conv=>whnf)|(refine JV ?_;(conv=>whnf);show Evs _ _ _ _ _)|refine JJ rfl ?_|refine JK rfl ?_|refine JQ rfl ?_|refine JL rfl rfl ?_|refine JM rfl rfl ?_|refine JN rfl ?_|refine JO rfl ?_|refine JP rfl ?_)
    · refine e_arv (r := .int .u64 16777215) rfl rfl rfl ?_
      (repeat first|refine Nv.r ?_|refine Jk rfl ?_|(refine JX ?_;conv=>whnf)|(refine JV ?_;(conv=>whnf);show Evs _ _ _ _ _)|refine JJ rfl ?_|refine JK rfl ?_|refine JQ rfl ?_|refine JL rfl rfl ?_|refine JM rfl rfl ?_|refine JN rfl ?_|refine JO rfl ?_|refine JP rfl ?_)
      exact ⟨rfl, 1, ⟨rfl, rfl, trivial⟩, ⟨by omega, S⟩, by omega⟩
    · refine e_arv (r := .int .u64 65535) rfl rfl rfl ?_
      (repeat first|refine Nv.r ?_|refine Jk rfl ?_|(refine JX ?_;conv=>whnf)|(refine JV ?_;(conv=>whnf);show Evs _ _ _ _ _)|refine JJ rfl ?_|refine JK rfl ?_|refine JQ rfl ?_|refine JL rfl rfl ?_|refine JM rfl rfl ?_|refine JN rfl ?_|refine JO rfl ?_|refine JP rfl ?_)
      exact ⟨rfl, 2, ⟨rfl, rfl, trivial⟩, ⟨by omega, S⟩, by omega⟩
    · refine e_arv (r := .int .u64 255) rfl rfl rfl ?_
      (repeat first|refine Nv.r ?_|refine Jk rfl ?_|(refine JX ?_;conv=>whnf)|(refine JV ?_;(conv=>whnf);show Evs _ _ _ _ _)|refine JJ rfl ?_|refine JK rfl ?_|refine JQ rfl ?_|refine JL rfl rfl ?_|refine JM rfl rfl ?_|refine JN rfl ?_|refine JO rfl ?_|refine JP rfl ?_)
      exact ⟨rfl, 3, ⟨rfl, rfl, trivial⟩, ⟨by omega, S⟩, by omega⟩
    · refine e_arv (r := .int .u64 0) rfl rfl rfl ?_
      (repeat first|refine Nv.r ?_|refine Jk rfl ?_|(refine JX ?_;conv=>whnf)|(refine JV ?_;(conv=>whnf);show Evs _ _ _ _ _)|refine JJ rfl ?_|refine JK rfl ?_|refine JQ rfl ?_|refine JL rfl rfl ?_|refine JM rfl rfl ?_|refine JN rfl ?_|refine JO rfl ?_|refine JP rfl ?_)
      exact ⟨rfl, 4, ⟨rfl, rfl, trivial⟩, ⟨by omega, S⟩, by omega⟩

/-- Bytes that grow. -/
abbrev OwnB (ad : Option Addr) (n cap : Nat) (s : Sec) (Lb : List (Nat × Obj)) : Prop := OwnS 5 1 ad n cap (bcells s) Lb

theorem bcells_app (a b : Sec) : bcells (a ++ b) = bcells a ++ bcells b := by simp [bcells]
theorem wrap_u64n (n : Nat) (h : n < 18446744073709551616) : IntKind.u64.wrap (n : Int) = n := by rw [wrap_u64]; omega
theorem wrap_u16n (n : Nat) (h : n < 65536) : IntKind.u16.wrap (n : Int) = n := by rw [wrap_u16]; omega
theorem ar_shr8 (k : IntKind) (a : Nat) (hk : 8 ≤ k.bits) : arV .shr (.int k (a : Int)) (.int .u64 8) = some (.int k ((a / 256 : Nat) : Int)) := by
  simp only [arV]
  rw [if_neg (by omega)]
  have e : min (8 : Int).toNat k.bits = 8 := by show min 8 k.bits = 8; omega
  rw [e, Int.fdiv_eq_ediv_of_nonneg _ (by decide)]
  congr 2

section
variable {m : Nat} {w : World} {L L1 L2 Lb : List (Nat × Obj)} {F : Fr} {T : Rg} {N : Rg → World → Prop} {l : List Ins} {ty ty' : TypeId}
/-- append(b, x) -/
theorem e_push {r d n cap : Nat} {ad : Option Addr} {s : Sec} {b : UInt8} {a x y : Operand} (S : Dn.Sep w (L ++ Lb) F) (hO : OwnB ad n cap s Lb) (ha : T.ev (cX a) = bv b) (hx : ∀ v, (updO T (some r) v).evR x = .slice ad n cap) (hy : ∀ v, (updO T (some r) v).evR y = v) (hn : n ≤ 1000000)
    (h : ∀ v ad' cap' Lb' w', OwnB ad' (n + 1) cap' (s ++ [b]) Lb' → Dn.Sep w' (L ++ Lb') F → Evs Tryz.prog l N (updO (updO T (some r) v) (some d) (.slice ad' (n + 1) cap')) w') :
    Evs Tryz.prog (.op (.raw (some r) (.buildSlice 43 1 #[(0, a)]) ty) :: .op (.raw (some d) (.call (.mk (.builtin .append) #[x, y] #[43, 43])) ty') :: l) N T w := by
  refine e_bsl (size := 1) (xs := [bv b]) S Tryz.underlying43 rfl rfl ⟨_, rfl⟩ (by omega) (by omega) (fun zs hz => ?_) fun q w S => ?_
  · match zs, hz with
    | [u], _ =>
      have hz' : (T.ev (cX a)).cells.toList = [bv b] := by rw [ha]; rfl
      simp only [List.map_cons, List.map_nil, partsV, hz', fillL, List.length_cons, List.length_nil]
      rfl
  · have S' : Dn.Sep w (((q, Obj.cells ⟨[bv b]⟩ 5) :: L) ++ Lb) F := S.perm (List.perm_append_singleton _ _)
    refine e_app (size := 1) (k := 1) (ys := [bv b]) S' hO (hx _) ?_ Tryz.underlying43 rfl rfl rfl rfl (by have : (1 : Nat) ≤ 1 := Nat.le_refl _; show (n + 1) * 1 ≤ _; omega) (by omega) fun ad' cap' Lb' w' hO' S'' => ?_
    · rw [hy]
      exact src_row Tryz.underlying43 (rowOf_sep S' 0 rfl (by simp) rfl) (by simp [Value.flat, bv])
    · exact h _ ad' cap' Lb' w' (by unfold OwnB; rw [bcells_app]; exact hO') (Sep.drop (L2 := [(q, Obj.cells ⟨[bv b]⟩ 5)]) S'')
end
theorem bv_wrap (n : Nat) : Value.int .u8 (IntKind.u8.wrap (n : Int)) = bv (UInt8.ofNat n) := by
  unfold bv
  rw [wrap_u8]
  simp only [UInt8.toNat_ofNat']
  congr 1

theorem sec_put16 (ad : Option Addr) (n cap v : Nat) (s : Sec) (Lb : List (Nat × Obj)) (hO : OwnB ad n cap s Lb) (hv : v < 65536) (hn : n ≤ 100000) :
    DSpec Tryz.prog 220 [.slice ad n cap, .int .u16 (v : Int)] Lb fun u L' => ∃ ad' cap', u = .slice ad' (n + 2) cap' ∧ OwnB ad' (n + 2) cap' (s ++ leB 2 v) L' := by
  refine spec_of mix Tryz.func220 c220_eq rfl rfl fun w F Q S hQ => ?_
  (repeat first|refine Nv.r ?_|refine Jk rfl ?_|(refine JX ?_;conv=>whnf)|(refine JV ?_;(conv=>whnf);show Evs _ _ _ _ _)|refine JJ rfl ?_|refine JK rfl ?_|refine JQ rfl ?_|refine JL rfl rfl ?_|refine JM rfl rfl ?_|refine JN rfl ?_|refine JO rfl ?_|refine JP rfl ?_)
  refine e_callP rfl sizeOf16 S fun w S => ?_
  (repeat first|refine Nv.r ?_|refine Jk rfl ?_|(refine JX ?_;conv=>whnf)|(refine JV ?_;(conv=>whnf);show Evs _ _ _ _ _)|refine JJ rfl ?_|refine JK rfl ?_|refine JQ rfl ?_|refine JL rfl rfl ?_|refine JM rfl rfl ?_|refine JN rfl ?_|refine JO rfl ?_|refine JP rfl ?_)
  refine s_loop (σ := Nat × Option Addr × Nat × List (Nat × Obj)) (fun t => [(6, .int .i64 (t.1 : Int)), (5, .int .i64 2), (0, .slice t.2.1 (n + t.1) t.2.2.1), (1, .int .u16 ((v / 256 ^ t.1 : Nat) : Int))])
    (fun t w => t.1 ≤ 2 ∧ OwnB t.2.1 (n + t.1) t.2.2.1 (s ++ leB t.1 v) t.2.2.2 ∧ Dn.Sep w t.2.2.2 F) (fun t => 2 - t.1) (0, ad, cap, Lb) ⟨rfl, rfl, rfl, ?_, trivial⟩ rfl ⟨by simp, by simpa [leB] using hO, S⟩ ?_
  · show Value.int .u16 _ = Value.int .u16 _
    simp
  rintro g ⟨j, ad, cap, Lb⟩ w ⟨hj, hO, S⟩
  simp only [setL] at hj hO S ⊢
  (repeat first|refine Nv.r ?_|refine Jk rfl ?_|(refine JX ?_;conv=>whnf)|(refine JV ?_;(conv=>whnf);show Evs _ _ _ _ _)|refine JJ rfl ?_|refine JK rfl ?_|refine JQ rfl ?_|refine JL rfl rfl ?_|refine JM rfl rfl ?_|refine JN rfl ?_|refine JO rfl ?_|refine JP rfl ?_)
  refine s_iteD rfl (fun h => ?_) (fun h => ?_)
  · have hq : v / 256 ^ j < 65536 := Nat.lt_of_le_of_lt (Nat.div_le_self _ _) hv
    (repeat first|refine Nv.r ?_|refine Jk rfl ?_|(refine JX ?_;conv=>whnf)|(refine JV ?_;(conv=>whnf);show Evs _ _ _ _ _)|refine JJ rfl ?_|refine JK rfl ?_|refine JQ rfl ?_|refine JL rfl rfl ?_|refine JM rfl rfl ?_|refine JN rfl ?_|refine JO rfl ?_|refine JP rfl ?_)
    refine e_push (L := []) S hO (bv_wrap (v / 256 ^ j)) (fun _ => rfl) (fun _ => rfl) (by omega) fun _ ad' cap' Lb' w hO' S => ?_
    (repeat first|refine Nv.r ?_|refine Jk rfl ?_)
    refine e_mvL rfl ?_
    (repeat first|refine Nv.r ?_|refine Jk rfl ?_)
    refine e_mvI rfl ?_
    refine e_p (v := .int .u64 ((v / 256 ^ j : Nat) : Int)) (congrArg (fun x => some (Value.int .u64 x)) (wrap_u64n _ (by omega))) ?_
    refine e_arv rfl rfl (ar_shr8 .u64 _ (by decide)) ?_
    refine e_p (v := .int .u16 ((v / 256 ^ j / 256 : Nat) : Int)) (congrArg (fun x => some (Value.int .u16 x)) (wrap_u16n _ (by omega))) ?_
    (repeat first|refine Nv.r ?_|refine Jk rfl ?_|(refine JX ?_;conv=>whnf)|(refine JV ?_;(conv=>whnf);show Evs _ _ _ _ _)|refine JJ rfl ?_|refine JK rfl ?_|refine JQ rfl ?_|refine JL rfl rfl ?_|refine JM rfl rfl ?_|refine JN rfl ?_|refine JO rfl ?_|refine JP rfl ?_)
    refine e_add rfl rfl (by omega) (by omega) ?_
    (repeat first|refine Nv.r ?_|refine Jk rfl ?_|(refine JX ?_;conv=>whnf)|(refine JV ?_;(conv=>whnf);show Evs _ _ _ _ _)|refine JJ rfl ?_|refine JK rfl ?_|refine JQ rfl ?_|refine JL rfl rfl ?_|refine JM rfl rfl ?_|refine JN rfl ?_|refine JO rfl ?_|refine JP rfl ?_)
    refine ⟨rfl, (j + 1, ad', cap', Lb'), ⟨rfl, rfl, rfl, ?_, trivial⟩, ⟨by simp; omega, ?_, S⟩, by simp; omega⟩
    · show Value.int .u16 _ = Value.int .u16 _
      simp only [Nat.pow_succ, Nat.div_div_eq_div_mul]
    · simp only [leB_succ, ← List.append_assoc]
      exact hO'
  · have hj' : j = 2 := by omega
    subst hj'
    (repeat first|refine Nv.r ?_|refine Jk rfl ?_|(refine JX ?_;conv=>whnf)|(refine JV ?_;(conv=>whnf);show Evs _ _ _ _ _)|refine JJ rfl ?_|refine JK rfl ?_|refine JQ rfl ?_|refine JL rfl rfl ?_|refine JM rfl rfl ?_|refine JN rfl ?_|refine JO rfl ?_|refine JP rfl ?_)
    exact f_ret rfl rfl (hQ _ _ _ ⟨ad, cap, rfl, hO⟩ S)

theorem sec_put32 (ad : Option Addr) (n cap v : Nat) (s : Sec) (Lb : List (Nat × Obj)) (hO : OwnB ad n cap s Lb) (hv : v < 4294967296) (hn : n ≤ 100000) :
    DSpec Tryz.prog 221 [.slice ad n cap, .int .u32 (v : Int)] Lb fun u L' => ∃ ad' cap', u = .slice ad' (n + 4) cap' ∧ OwnB ad' (n + 4) cap' (s ++ leB 4 v) L' := by
  refine spec_of mix Tryz.func221 c221_eq rfl rfl fun w F Q S hQ => ?_
  (repeat first|refine Nv.r ?_|refine Jk rfl ?_|(refine JX ?_;conv=>whnf)|(refine JV ?_;(conv=>whnf);show Evs _ _ _ _ _)|refine JJ rfl ?_|refine JK rfl ?_|refine JQ rfl ?_|refine JL rfl rfl ?_|refine JM rfl rfl ?_|refine JN rfl ?_|refine JO rfl ?_|refine JP rfl ?_)
  refine e_callP rfl sizeOf32 S fun w S => ?_
  (repeat first|refine Nv.r ?_|refine Jk rfl ?_|(refine JX ?_;conv=>whnf)|(refine JV ?_;(conv=>whnf);show Evs _ _ _ _ _)|refine JJ rfl ?_|refine JK rfl ?_|refine JQ rfl ?_|refine JL rfl rfl ?_|refine JM rfl rfl ?_|refine JN rfl ?_|refine JO rfl ?_|refine JP rfl ?_)
  refine s_loop (σ := Nat × Option Addr × Nat × List (Nat × Obj)) (fun t => [(6, .int .i64 (t.1 : Int)), (5, .int .i64 4), (0, .slice t.2.1 (n + t.1) t.2.2.1), (1, .int .u32 ((v / 256 ^ t.1 : Nat) : Int))])
    (fun t w => t.1 ≤ 4 ∧ OwnB t.2.1 (n + t.1) t.2.2.1 (s ++ leB t.1 v) t.2.2.2 ∧ Dn.Sep w t.2.2.2 F) (fun t => 4 - t.1) (0, ad, cap, Lb) ⟨rfl, rfl, rfl, ?_, trivial⟩ rfl ⟨by simp, by simpa [leB] using hO, S⟩ ?_
  · show Value.int .u32 _ = Value.int .u32 _
    simp
  rintro g ⟨j, ad, cap, Lb⟩ w ⟨hj, hO, S⟩
  simp only [setL] at hj hO S ⊢
  (repeat first|refine Nv.r ?_|refine Jk rfl ?_|(refine JX ?_;conv=>whnf)|(refine JV ?_;(conv=>whnf);show Evs _ _ _ _ _)|refine JJ rfl ?_|refine JK rfl ?_|refine JQ rfl ?_|refine JL rfl rfl ?_|refine JM rfl rfl ?_|refine JN rfl ?_|refine JO rfl ?_|refine JP rfl ?_)
  refine s_iteD rfl (fun h => ?_) (fun h => ?_)
  · have hq : v / 256 ^ j < 4294967296 := Nat.lt_of_le_of_lt (Nat.div_le_self _ _) hv
    (repeat first|refine Nv.r ?_|refine Jk rfl ?_|(refine JX ?_;conv=>whnf)|(refine JV ?_;(conv=>whnf);show Evs _ _ _ _ _)|refine JJ rfl ?_|refine JK rfl ?_|refine JQ rfl ?_|refine JL rfl rfl ?_|refine JM rfl rfl ?_|refine JN rfl ?_|refine JO rfl ?_|refine JP rfl ?_)
    refine e_push (L := []) S hO (bv_wrap (v / 256 ^ j)) (fun _ => rfl) (fun _ => rfl) (by omega) fun _ ad' cap' Lb' w hO' S => ?_
    (repeat first|refine Nv.r ?_|refine Jk rfl ?_)
    refine e_mvL rfl ?_
    (repeat first|refine Nv.r ?_|refine Jk rfl ?_)
    refine e_mvI rfl ?_
    refine e_p (v := .int .u64 ((v / 256 ^ j : Nat) : Int)) (congrArg (fun x => some (Value.int .u64 x)) (wrap_u64n _ (by omega))) ?_
    refine e_arv rfl rfl (ar_shr8 .u64 _ (by decide)) ?_
    refine e_p (v := .int .u32 ((v / 256 ^ j / 256 : Nat) : Int)) (congrArg (fun x => some (Value.int .u32 x)) (wrap_u32n _ (by omega))) ?_
    (repeat first|refine Nv.r ?_|refine Jk rfl ?_|(refine JX ?_;conv=>whnf)|(refine JV ?_;(conv=>whnf);show Evs _ _ _ _ _)|refine JJ rfl ?_|refine JK rfl ?_|refine JQ rfl ?_|refine JL rfl rfl ?_|refine JM rfl rfl ?_|refine JN rfl ?_|refine JO rfl ?_|refine JP rfl ?_)
    refine e_add rfl rfl (by omega) (by omega) ?_
    (repeat first|refine Nv.r ?_|refine Jk rfl ?_|(refine JX ?_;conv=>whnf)|(refine JV ?_;(conv=>whnf);show Evs _ _ _ _ _)|refine JJ rfl ?_|refine JK rfl ?_|refine JQ rfl ?_|refine JL rfl rfl ?_|refine JM rfl rfl ?_|refine JN rfl ?_|refine JO rfl ?_|refine JP rfl ?_)
    refine ⟨rfl, (j + 1, ad', cap', Lb'), ⟨rfl, rfl, rfl, ?_, trivial⟩, ⟨by simp; omega, ?_, S⟩, by simp; omega⟩
    · show Value.int .u32 _ = Value.int .u32 _
      simp only [Nat.pow_succ, Nat.div_div_eq_div_mul]
    · simp only [leB_succ, ← List.append_assoc]
      exact hO'
  · have hj' : j = 4 := by omega
    subst hj'
    (repeat first|refine Nv.r ?_|refine Jk rfl ?_|(refine JX ?_;conv=>whnf)|(refine JV ?_;(conv=>whnf);show Evs _ _ _ _ _)|refine JJ rfl ?_|refine JK rfl ?_|refine JQ rfl ?_|refine JL rfl rfl ?_|refine JM rfl rfl ?_|refine JN rfl ?_|refine JO rfl ?_|refine JP rfl ?_)
    exact f_ret rfl rfl (hQ _ _ _ ⟨ad, cap, rfl, hO⟩ S)

end Go.Proofs.YtjnogknjdjphaaaGreat

/-
  The walks of get, Clone, and of the log's put.
-/
namespace Go.Proofs.YtjnogknjdjphaaaGreat
open Dn
attribute [local irreducible] Evs Ev EvT DSpec PSpec CallTo
set_option maxRecDepth 10000

theorem ar_shl8 (a i : Nat) (hi : i ≤ 6) (ha : a < 256) : arV .shl (.int .i64 (a : Int)) (.int .i64 ((8 : Int) * (i : Int))) = some (.int .i64 ((a * 256 ^ i : Nat) : Int)) := by
  simp only [arV]
  rw [if_neg (by omega)]
  have e : min ((8 : Int) * (i : Int)).toNat IntKind.i64.bits = 8 * i := by show min _ 64 = _; omega
  have e2 : (a : Int) * 2 ^ (8 * i) = ((a * 256 ^ i : Nat) : Int) := by
    have : ((256 : Nat) ^ i) = 2 ^ (8 * i) := by rw [Nat.pow_mul]
    rw [this]; simp
  rw [e, e2]
  have h1 : 256 ^ i ≤ 256 ^ 6 := Nat.pow_le_pow_right (by omega) hi
  have h2 : a * 256 ^ i ≤ 255 * 256 ^ 6 := Nat.mul_le_mul (by omega) h1
  rw [wrap_id (by omega) (by omega)]
theorem ofInt64n (n : Nat) (h : n < 18446744073709551616) : (BitVec.ofInt 64 (n : Int)).toNat = n := by rw [BitVec.toNat_ofInt]; omega
theorem ar_or8 (x a i : Nat) (hi : i ≤ 6) (ha : a < 256) (hx : x < 256 ^ i) : arV .or (.int .i64 (x : Int)) (.int .i64 ((a * 256 ^ i : Nat) : Int)) = some (.int .i64 ((x + 256 ^ i * a : Nat) : Int)) := by
  have h1 : 256 ^ i ≤ 256 ^ 6 := Nat.pow_le_pow_right (by omega) hi
  have h2 : a * 256 ^ i ≤ 255 * 256 ^ 6 := Nat.mul_le_mul (by omega) h1
  simp only [arV, kEq, cond_true]
  show some (Value.int .i64 (IntKind.i64.wrap ((BitVec.ofInt 64 (x : Int) ||| BitVec.ofInt 64 ((a * 256 ^ i : Nat) : Int)).toNat : Int))) = _
  have e : (BitVec.ofInt 64 (x : Int) ||| BitVec.ofInt 64 ((a * 256 ^ i : Nat) : Int)).toNat = x + 256 ^ i * a := by
    rw [BitVec.toNat_or, ofInt64n _ (by omega), ofInt64n _ (by omega), Nat.or_comm, Nat.mul_comm a]
    have e3 : (256 : Nat) ^ i = 2 ^ (8 * i) := by rw [Nat.pow_mul]
    rw [e3] at hx ⊢
    rw [← Nat.two_pow_add_eq_or_of_lt hx]; omega
  rw [e]
  have : 256 ^ i * a = a * 256 ^ i := Nat.mul_comm _ _
  rw [wrap_id (by omega) (by omega)]


theorem sec_get (s : Sec) (hs : s.length ≤ 7) : PSpec Tryz.prog 202 [.string ⟨⟨s⟩⟩] (.int .i64 (leN s : Int)) := by
  refine pspec_of mix Tryz.func202 c202_eq rfl rfl fun w F Q S hQ => ?_
  (repeat first|refine Nv.r ?_|refine Jk rfl ?_|(refine JX ?_;conv=>whnf)|(refine JV ?_;(conv=>whnf);show Evs _ _ _ _ _)|refine JJ rfl ?_|refine JK rfl ?_|refine JQ rfl ?_|refine JL rfl rfl ?_|refine JM rfl rfl ?_|refine JN rfl ?_|refine JO rfl ?_|refine JP rfl ?_)
  refine s_loop (σ := Nat) (fun i => [(7, .int .i64 (i : Int)), (6, .int .i64 (s.length : Int)), (3, .int .i64 (leN (s.take i) : Int)), (0, .string ⟨⟨s⟩⟩)]) (fun i w => i ≤ s.length ∧ Dn.Sep w [] F) (fun i => s.length - i) 0 ⟨rfl, rfl, rfl, rfl, trivial⟩ rfl ⟨by omega, S⟩ ?_
  rintro g i w ⟨hi, S⟩
  simp only [setL]
  (repeat first|refine Nv.r ?_|refine Jk rfl ?_|(refine JX ?_;conv=>whnf)|(refine JV ?_;(conv=>whnf);show Evs _ _ _ _ _)|refine JJ rfl ?_|refine JK rfl ?_|refine JQ rfl ?_|refine JL rfl rfl ?_|refine JM rfl rfl ?_|refine JN rfl ?_|refine JO rfl ?_|refine JP rfl ?_)
  refine s_iteD rfl (fun h => ?_) (fun h => ?_)
  · have hi' : i < s.length := by omega
    have hb : s[i].toNat < 256 := UInt8.toNat_lt _
    (repeat first|refine Nv.r ?_|refine Jk rfl ?_|(refine JX ?_;conv=>whnf)|(refine JV ?_;(conv=>whnf);show Evs _ _ _ _ _)|refine JJ rfl ?_|refine JK rfl ?_|refine JQ rfl ?_|refine JL rfl rfl ?_|refine JM rfl rfl ?_|refine JN rfl ?_|refine JO rfl ?_|refine JP rfl ?_)
    refine e_ixs (u := s[i]) rfl rfl (by omega) (by show (i : Int) < ((s.length : Nat) : Int); omega) (by simp [hi', List.getD_eq_getElem?_getD]) ?_
    refine e_p (v := .int .i64 (s[i].toNat : Int)) (congrArg (fun x => some (Value.int .i64 x)) (wrap_id (by omega) (by omega))) ?_
    (repeat first|refine Nv.r ?_|refine Jk rfl ?_)
    refine e_mvI rfl ?_
    refine e_mul rfl rfl (by omega) (by omega) ?_
    refine e_arv rfl rfl (ar_shl8 s[i].toNat i (by omega) hb) ?_
    refine e_arv rfl rfl (ar_or8 (leN (s.take i)) s[i].toNat i (by omega) hb (by have := leN_lt (s.take i); rw [List.length_take, Nat.min_eq_left (by omega)] at this; exact this)) ?_
    (repeat first|refine Nv.r ?_|refine Jk rfl ?_)
    refine e_mvI rfl ?_
    (repeat first|refine Nv.r ?_|refine Jk rfl ?_|(refine JX ?_;conv=>whnf)|(refine JV ?_;(conv=>whnf);show Evs _ _ _ _ _)|refine JJ rfl ?_|refine JK rfl ?_|refine JQ rfl ?_|refine JL rfl rfl ?_|refine JM rfl rfl ?_|refine JN rfl ?_|refine JO rfl ?_|refine JP rfl ?_)
    refine e_add rfl rfl (by omega) (by omega) ?_
    (repeat first|refine Nv.r ?_|refine Jk rfl ?_|(refine JX ?_;conv=>whnf)|(refine JV ?_;(conv=>whnf);show Evs _ _ _ _ _)|refine JJ rfl ?_|refine JK rfl ?_|refine JQ rfl ?_|refine JL rfl rfl ?_|refine JM rfl rfl ?_|refine JN rfl ?_|refine JO rfl ?_|refine JP rfl ?_)
    refine ⟨rfl, i + 1, ⟨rfl, rfl, ?_, rfl, trivial⟩, ⟨by omega, S⟩, by omega⟩
    show Value.int .i64 _ = Value.int .i64 _
    congr 2
    rw [List.take_succ_eq_append_getElem hi', leN_app, List.length_take, Nat.min_eq_left (by omega)]
    simp [leN]
  · have hi' : i = s.length := by omega
    subst hi'
    (repeat first|refine Nv.r ?_|refine Jk rfl ?_|(refine JX ?_;conv=>whnf)|(refine JV ?_;(conv=>whnf);show Evs _ _ _ _ _)|refine JJ rfl ?_|refine JK rfl ?_|refine JQ rfl ?_|refine JL rfl rfl ?_|refine JM rfl rfl ?_|refine JN rfl ?_|refine JO rfl ?_|refine JP rfl ?_)
    refine f_ret rfl rfl (hQ _ _ _ ?_ S)
    show Value.int .i64 _ = Value.int .i64 _
    rw [List.take_length]

theorem lite_clone (s : Sec) (h0 : s ≠ []) (hs : s.length ≤ 1000000) : PSpec Tryz.prog 228 [.string ⟨⟨s⟩⟩] (.string ⟨⟨s⟩⟩) := by
  refine pspec_of mix Tryz.func228 c228_eq rfl rfl fun w F Q S hQ => ?_
  have hpos : 0 < s.length := List.length_pos_iff.2 h0
  (repeat first|refine Nv.r ?_|refine Jk rfl ?_|(refine JX ?_;conv=>whnf)|(refine JV ?_;(conv=>whnf);show Evs _ _ _ _ _)|refine JJ rfl ?_|refine JK rfl ?_|refine JQ rfl ?_|refine JL rfl rfl ?_|refine JM rfl rfl ?_|refine JN rfl ?_|refine JO rfl ?_|refine JP rfl ?_)
  refine s_iteF (by show Value.bool (((s.length : Nat) : Int) == 0) = _; congr 1; simp; omega) ?_
  (repeat first|refine Nv.r ?_|refine Jk rfl ?_|(refine JX ?_;conv=>whnf)|(refine JV ?_;(conv=>whnf);show Evs _ _ _ _ _)|refine JJ rfl ?_|refine JK rfl ?_|refine JQ rfl ?_|refine JL rfl rfl ?_|refine JM rfl rfl ?_|refine JN rfl ?_|refine JO rfl ?_|refine JP rfl ?_)
  refine e_mksl (size := 1) (n := s.length) (u := .int .u8 0) S rfl rfl Tryz.underlying43 rfl rfl ⟨_, rfl, rfl⟩ hs (by decide) fun b w S => ?_
  (repeat first|refine Nv.r ?_|refine Jk rfl ?_|(refine JX ?_;conv=>whnf)|(refine JV ?_;(conv=>whnf);show Evs _ _ _ _ _)|refine JJ rfl ?_|refine JK rfl ?_|refine JQ rfl ?_|refine JL rfl rfl ?_|refine JM rfl rfl ?_|refine JN rfl ?_|refine JO rfl ?_|refine JP rfl ?_)
  have hsrc : Src Tryz.prog 1 9 (.string ⟨⟨s⟩⟩) s.length (bcells s) w := Src.ofString w Tryz.underlying9 ⟨⟨s⟩⟩
  refine e_copy (e := 5) (i := _) S 0 rfl rfl hsrc (Nat.le_refl _) Tryz.underlying43 rfl (by simp [bcells]) fun w S => ?_
  (repeat first|refine Nv.r ?_|refine Jk rfl ?_|(refine JX ?_;conv=>whnf)|(refine JV ?_;(conv=>whnf);show Evs _ _ _ _ _)|refine JJ rfl ?_|refine JK rfl ?_|refine JQ rfl ?_|refine JL rfl rfl ?_|refine JM rfl rfl ?_|refine JN rfl ?_|refine JO rfl ?_|refine JP rfl ?_)
  refine e_ixa rfl rfl (by omega) (by omega) ?_
  (repeat first|refine Nv.r ?_|refine Jk rfl ?_|(refine JX ?_;conv=>whnf)|(refine JV ?_;(conv=>whnf);show Evs _ _ _ _ _)|refine JJ rfl ?_|refine JK rfl ?_|refine JQ rfl ?_|refine JL rfl rfl ?_|refine JM rfl rfl ?_|refine JN rfl ?_|refine JO rfl ?_|refine JP rfl ?_)
  have hput : putAt (List.replicate (s.length * 1) (Value.int .u8 0)) 0 (bcells s) = bcells s := putAt_all (by simp [bcells])
  rw [hput] at S
  refine e_ustr (s := s) (cap := 0) S rfl rfl Tryz.underlying288 (by kernel_rfl) h0 hs fun w S => ?_
  (repeat first|refine Nv.r ?_|refine Jk rfl ?_|(refine JX ?_;conv=>whnf)|(refine JV ?_;(conv=>whnf);show Evs _ _ _ _ _)|refine JJ rfl ?_|refine JK rfl ?_|refine JQ rfl ?_|refine JL rfl rfl ?_|refine JM rfl rfl ?_|refine JN rfl ?_|refine JO rfl ?_|refine JP rfl ?_)
  exact f_ret rfl rfl (hQ _ _ _ rfl S)

theorem str_clone (s : Sec) (h0 : s ≠ []) (hs : s.length ≤ 1000000) : PSpec Tryz.prog 189 [.string ⟨⟨s⟩⟩] (.string ⟨⟨s⟩⟩) := by
  refine pspec_of mix Tryz.func189 c189_eq rfl rfl fun w F Q S hQ => ?_
  (repeat first|refine Nv.r ?_|refine Jk rfl ?_|(refine JX ?_;conv=>whnf)|(refine JV ?_;(conv=>whnf);show Evs _ _ _ _ _)|refine JJ rfl ?_|refine JK rfl ?_|refine JQ rfl ?_|refine JL rfl rfl ?_|refine JM rfl rfl ?_|refine JN rfl ?_|refine JO rfl ?_|refine JP rfl ?_)
  refine e_callP rfl (lite_clone s h0 hs) S fun w S => ?_
  (repeat first|refine Nv.r ?_|refine Jk rfl ?_|(refine JX ?_;conv=>whnf)|(refine JV ?_;(conv=>whnf);show Evs _ _ _ _ _)|refine JJ rfl ?_|refine JK rfl ?_|refine JQ rfl ?_|refine JL rfl rfl ?_|refine JM rfl rfl ?_|refine JN rfl ?_|refine JO rfl ?_|refine JP rfl ?_)
  exact f_ret rfl rfl (hQ _ _ _ rfl S)

end Go.Proofs.YtjnogknjdjphaaaGreat

/-
  The walks of Label and Open.
-/
namespace Go.Proofs.YtjnogknjdjphaaaGreat
open Dn
attribute [local irreducible] Evs Ev EvT DSpec PSpec CallTo
set_option maxRecDepth 10000

def zP : Pl := ⟨0, 0, 0⟩
def zG : Gn := ⟨0, 0⟩
def labelV (s : Sec) : Value :=
  if s.length ≠ 64 then .tuple ⟨[.agg ⟨zP.v⟩, .agg ⟨zG.v⟩, .int .i64 1]⟩
  else if lblOK s then .tuple ⟨[.agg ⟨(lblP s).v⟩, .agg ⟨(lblG s).v⟩, .int .i64 0]⟩
  else .tuple ⟨[.agg ⟨zP.v⟩, .agg ⟨zG.v⟩, .int .i64 7]⟩

theorem rvs3 {T : Rg} {w : World} {a b c : RV} {x y z : Value} (h1 : rvV T w a = some x) (h2 : rvV T w b = some y) (h3 : rvV T w c = some z) : rvsV T w [a, b, c] = some [x, y, z] := by simp only [rvsV, h1, h2, h3]
theorem rvs2 {T : Rg} {w : World} {a b : RV} {x y : Value} (h1 : rvV T w a = some x) (h2 : rvV T w b = some y) : rvsV T w [a, b] = some [x, y] := by simp only [rvsV, h1, h2]
theorem rvs1 {T : Rg} {w : World} {a : RV} {x : Value} (h1 : rvV T w a = some x) : rvsV T w [a] = some [x] := by simp only [rvsV, h1]

theorem sec_label (s : Sec) : PSpec Tryz.prog 138 [.string ⟨⟨s⟩⟩] (labelV s) := by
  refine pspec_of mix Tryz.func138 c138_eq rfl rfl fun w F Q S hQ => ?_
  (repeat first|refine Nv.r ?_|refine Jk rfl ?_)
  refine e_nwE S (cs' := zP.v) rfl fun b2 w S => ?_
  refine e_nwE S (cs' := zG.v) rfl fun b3 w S => ?_
  (repeat first|refine Nv.r ?_|refine Jk rfl ?_)
  refine e_mvI rfl ?_
  (repeat first|refine Nv.r ?_|refine Jk rfl ?_)
  refine e_mvS rfl ?_
  refine e_p (v := .int .i64 ((s.length : Nat) : Int)) rfl ?_
  refine e_p (cmp_neqD (a := ((s.length : Nat) : Int)) (b := 64) rfl rfl) ?_
  (repeat first|refine Nv.r ?_|refine Jk rfl ?_)
  refine s_iteN rfl (fun h => ?_) (fun h => ?_)
  · (repeat first|refine Nv.r ?_|refine Jk rfl ?_|(refine JX ?_;conv=>whnf)|(refine JV ?_;(conv=>whnf);show Evs _ _ _ _ _)|refine JJ rfl ?_|refine JK rfl ?_|refine JQ rfl ?_|refine JL rfl rfl ?_|refine JM rfl rfl ?_|refine JN rfl ?_|refine JO rfl ?_|refine JP rfl ?_)
    refine e_st S 1 rfl rfl rfl rfl (by simp [Value.flat]) (by simp [zP, Pl.v]) fun w S => ?_
    refine e_st S 0 rfl rfl rfl rfl (by simp [Value.flat]) (by simp [zG, Gn.v]) fun w S => ?_
    (repeat first|refine Nv.r ?_|refine Jk rfl ?_|(refine JX ?_;conv=>whnf)|(refine JV ?_;(conv=>whnf);show Evs _ _ _ _ _)|refine JJ rfl ?_|refine JK rfl ?_|refine JQ rfl ?_|refine JL rfl rfl ?_|refine JM rfl rfl ?_|refine JN rfl ?_|refine JO rfl ?_|refine JP rfl ?_)
    refine f_ret (vs := [.agg ⟨zP.v⟩, .agg ⟨zG.v⟩, .int .i64 1]) rfl (rvs3 (S.row 1 rfl (by simp [zP, Pl.v, putAt]) rfl) (S.row 0 rfl (by simp [zG, Gn.v, putAt]) rfl) rfl) (hQ _ _ _ ?_ S)
    unfold labelV
    rw [if_pos (by omega)]; rfl
  have hs : s.length = 64 := by omega
  (repeat (with_reducible first|refine Jc ?_|refine Jd ?_|refine Je ?_|refine Jf ?_|refine Jg ?_|refine Jh ?_|refine Ji ?_|refine Jj ?_|refine Jk rfl ?_|refine Jl ?_|refine Jm ?_|refine Jn ?_|refine Jp ?_|refine Jq ?_))
  -- the place
  refine s_cut (σ := Nat) (fun b5 => [(0, .string ⟨⟨s⟩⟩), (2, .pointer (some ⟨b2, 0, none⟩)), (3, .pointer (some ⟨b3, 0, none⟩)), (5, .pointer (some ⟨b5, 0, none⟩))])
    (fun b5 w => Dn.Sep w [(b5, .cells ⟨(lblP s).v⟩ 53), (b3, .cells ⟨zG.v⟩ 58), (b2, .cells ⟨zP.v⟩ 53)] F) ?_ ?_
  · (repeat first|refine Nv.r ?_|refine Jk rfl ?_)
    replace S := S.drew
    refine e_mvS rfl ?_
    (repeat first|refine Nv.r ?_|refine Jk rfl ?_)
    refine e_ixs (u := s.getD 4 0) rfl rfl (by omega) (by show (4 : Int) < ((s.length : Nat) : Int); omega) rfl ?_
    (repeat first|refine Nv.r ?_|refine Jk rfl ?_)
    refine e_p (cvi_i64u8 rfl) ?_
    (repeat first|refine Nv.r ?_|refine Jk rfl ?_)
    refine e_mvS rfl ?_
    (repeat first|refine Nv.r ?_|refine Jk rfl ?_)
    refine e_ixs (u := s.getD 5 0) rfl rfl (by omega) (by show (5 : Int) < ((s.length : Nat) : Int); omega) rfl ?_
    (repeat first|refine Nv.r ?_|refine Jk rfl ?_)
    refine e_p (cvi_i64u8 rfl) ?_
    (repeat first|refine Nv.r ?_|refine Jk rfl ?_)
    refine e_mvS rfl ?_
    (repeat first|refine Nv.r ?_|refine Jk rfl ?_)
    refine e_slsL (i := 6) (j := 8) rfl (bnd_s rfl rfl (by omega)) (bnd_s rfl rfl (by omega)) (by omega) ?_
    (repeat first|refine Nv.r ?_|refine Jk rfl ?_)
    have hget := sec_get ((s.drop 6).take (8 - 6)) (by simp; omega)
    refine t_alt ?_ ?_
    · (repeat first|refine Nv.r ?_|refine Jk rfl ?_)
      refine e_callP rfl hget S fun w S => ?_
      (repeat first|refine Nv.r ?_|refine Jk rfl ?_)
      refine e_bl3 rfl ?_
      (repeat first|refine Nv.r ?_|refine Jk rfl ?_)
      refine e_nw S fun b5 w S => ?_
      (repeat first|refine Nv.r ?_|refine Jk rfl ?_)
      refine e_st (vs := (lblP s).v) S 0 rfl rfl rfl rfl (by simp [Pl.v, Value.flat]) (by simp) fun w S => ?_
      (repeat first|refine Nv.r ?_|refine Jk rfl ?_)
      exact ⟨rfl, b5, ⟨rfl, rfl, rfl, rfl, trivial⟩, S⟩
    · (repeat first|refine Nv.r ?_|refine Jk rfl ?_)
      refine e_nw S fun b5 w S => ?_
      (repeat first|refine Nv.r ?_|refine Jk rfl ?_)
      refine e_callP rfl hget S fun w S => ?_
      (repeat first|refine Nv.r ?_|refine Jk rfl ?_)
      refine e_bl3 rfl ?_
      (repeat first|refine Nv.r ?_|refine Jk rfl ?_)
      refine e_st (vs := (lblP s).v) S 0 rfl rfl rfl rfl (by simp [Pl.v, Value.flat]) (by simp) fun w S => ?_
      (repeat first|refine Nv.r ?_|refine Jk rfl ?_)
      exact ⟨rfl, b5, ⟨rfl, rfl, rfl, rfl, trivial⟩, S⟩
  intro g b5 w S
  simp only [setL]
  (repeat (with_reducible first|refine Jc ?_|refine Jd ?_|refine Je ?_|refine Jf ?_|refine Jg ?_|refine Jh ?_|refine Ji ?_|refine Jj ?_|refine Jk rfl ?_|refine Jl ?_|refine Jm ?_|refine Jn ?_|refine Jp ?_|refine Jq ?_))
  -- the generation
  refine s_cut (σ := Nat) (fun b6 => [(0, .string ⟨⟨s⟩⟩), (2, .pointer (some ⟨b2, 0, none⟩)), (3, .pointer (some ⟨b3, 0, none⟩)), (5, .pointer (some ⟨b5, 0, none⟩)), (6, .pointer (some ⟨b6, 0, none⟩))])
    (fun b6 w => Dn.Sep w [(b6, .cells ⟨(lblG s).v⟩ 58), (b5, .cells ⟨(lblP s).v⟩ 53), (b3, .cells ⟨zG.v⟩ 58), (b2, .cells ⟨zP.v⟩ 53)] F) ?_ ?_
  · (repeat first|refine Nv.r ?_|refine Jk rfl ?_)
    replace S := S.drew
    refine e_mvS rfl ?_
    (repeat first|refine Nv.r ?_|refine Jk rfl ?_)
    refine e_slsL (i := 8) (j := 12) rfl (bnd_s rfl rfl (by omega)) (bnd_s rfl rfl (by omega)) (by omega) ?_
    (repeat first|refine Nv.r ?_|refine Jk rfl ?_)
    refine e_mvS rfl ?_
    (repeat first|refine Nv.r ?_|refine Jk rfl ?_)
    refine e_slsL (i := 12) (j := 16) rfl (bnd_s rfl rfl (by omega)) (bnd_s rfl rfl (by omega)) (by omega) ?_
    (repeat first|refine Nv.r ?_|refine Jk rfl ?_)
    have hget1 := sec_get ((s.drop 8).take (12 - 8)) (by simp; omega)
    have hget2 := sec_get ((s.drop 12).take (16 - 12)) (by simp; omega)
    refine t_alt ?_ ?_
    · (repeat first|refine Nv.r ?_|refine Jk rfl ?_)
      refine e_callP rfl hget1 S fun w S => ?_
      (repeat first|refine Nv.r ?_|refine Jk rfl ?_)
      refine t_alt ?_ ?_
      · (repeat first|refine Nv.r ?_|refine Jk rfl ?_)
        refine e_callP rfl hget2 S fun w S => ?_
        (repeat first|refine Nv.r ?_|refine Jk rfl ?_)
        refine e_bl2 rfl ?_
        (repeat first|refine Nv.r ?_|refine Jk rfl ?_)
        refine e_nw S fun b6 w S => ?_
        (repeat first|refine Nv.r ?_|refine Jk rfl ?_)
        refine e_st (vs := (lblG s).v) S 0 rfl rfl rfl rfl (by simp [Gn.v, Value.flat]) (by simp) fun w S => ?_
        (repeat first|refine Nv.r ?_|refine Jk rfl ?_)
        exact ⟨rfl, b6, ⟨rfl, rfl, rfl, rfl, rfl, trivial⟩, S⟩
      · (repeat first|refine Nv.r ?_|refine Jk rfl ?_)
        refine e_nw S fun b6 w S => ?_
        (repeat first|refine Nv.r ?_|refine Jk rfl ?_)
        refine e_callP rfl hget2 S fun w S => ?_
        (repeat first|refine Nv.r ?_|refine Jk rfl ?_)
        refine e_bl2 rfl ?_
        (repeat first|refine Nv.r ?_|refine Jk rfl ?_)
        refine e_st (vs := (lblG s).v) S 0 rfl rfl rfl rfl (by simp [Gn.v, Value.flat]) (by simp) fun w S => ?_
        (repeat first|refine Nv.r ?_|refine Jk rfl ?_)
        exact ⟨rfl, b6, ⟨rfl, rfl, rfl, rfl, rfl, trivial⟩, S⟩
    · (repeat first|refine Nv.r ?_|refine Jk rfl ?_)
      refine e_nw S fun b6 w S => ?_
      (repeat first|refine Nv.r ?_|refine Jk rfl ?_)
      refine e_callP rfl hget1 S fun w S => ?_
      (repeat first|refine Nv.r ?_|refine Jk rfl ?_)
      refine e_callP rfl hget2 S fun w S => ?_
      (repeat first|refine Nv.r ?_|refine Jk rfl ?_)
      refine e_bl2 rfl ?_
      (repeat first|refine Nv.r ?_|refine Jk rfl ?_)
      refine e_st (vs := (lblG s).v) S 0 rfl rfl rfl rfl (by simp [Gn.v, Value.flat]) (by simp) fun w S => ?_
      (repeat first|refine Nv.r ?_|refine Jk rfl ?_)
      exact ⟨rfl, b6, ⟨rfl, rfl, rfl, rfl, rfl, trivial⟩, S⟩
  intro g b6 w S
  simp only [setL]
  (repeat first|refine Nv.r ?_|refine Jk rfl ?_)
  -- torn?
  refine s_opsd ?_
  replace S := S.drew
  refine e_mvS rfl ?_
  refine e_slsL (i := 8) (j := 16) rfl (bnd_s rfl rfl (by omega)) (bnd_s rfl rfl (by omega)) (by omega) ?_
  refine e_mvS rfl ?_
  refine e_slsL (i := 56) (j := s.length) rfl (bnd_n _ _ _) (bnd_s rfl rfl (by omega)) (by omega) ?_
  have e56 : (s.drop 56).take (s.length - 56) = s.drop 56 := List.take_of_length_le (by simp)
  rw [e56]
  refine e_p (cmpS_neq rfl rfl) ?_
  refine e_mvB rfl ?_
  (repeat (with_reducible first|refine Jc ?_|refine Jd ?_|refine Je ?_|refine Jf ?_|refine Jg ?_|refine Jh ?_|refine Ji ?_|refine Jj ?_|refine Jk rfl ?_|refine Jl ?_|refine Jm ?_|refine Jn ?_|refine Jp ?_|refine Jq ?_))
  refine s_seq ?_
  -- the checks
  refine s_cut (σ := Unit) (fun _ => [(56, .bool (!decide (lblOK s))), (0, .string ⟨⟨s⟩⟩), (2, .pointer (some ⟨b2, 0, none⟩)), (3, .pointer (some ⟨b3, 0, none⟩)), (5, .pointer (some ⟨b5, 0, none⟩)), (6, .pointer (some ⟨b6, 0, none⟩))])
    (fun _ w => Dn.Sep w [(b6, .cells ⟨(lblG s).v⟩ 58), (b5, .cells ⟨(lblP s).v⟩ 53), (b3, .cells ⟨zG.v⟩ 58), (b2, .cells ⟨zP.v⟩ 53)] F) ?_ ?_
  · (repeat first|refine Nv.r ?_|refine Jk rfl ?_)
    replace S := S.drew
    refine e_mvS rfl ?_
    (repeat first|refine Nv.r ?_|refine Jk rfl ?_)
    refine e_slsL (i := 0) (j := 4) rfl (bnd_s rfl rfl (by omega)) (bnd_n _ _ _) (by omega) ?_
    (repeat first|refine Nv.r ?_|refine Jk rfl ?_)
    refine e_mvS rfl ?_
    (repeat first|refine Nv.r ?_|refine Jk rfl ?_)
    refine e_slsL (i := 4) (j := s.length) rfl (bnd_n _ _ _) (bnd_s rfl rfl (by omega)) (by omega) ?_
    (repeat first|refine Nv.r ?_|refine Jk rfl ?_)
    have e4 : (s.drop 4).take (s.length - 4) = s.drop 4 := List.take_of_length_le (by simp)
    rw [e4]
    have hget := sec_get ((s.drop 0).take (4 - 0)) (by simp; omega)
    have hl60 : (s.drop 4).length = 60 := by simp; omega
    have crcCall : ∀ {b40 cap : Nat}, DSpec Tryz.prog 203 [.slice (some ⟨b40, 0, none⟩) (s.drop 4).length cap] [(b40, .cells ⟨bcells (s.drop 4) ++ List.replicate (cap - (s.drop 4).length) (.int .u8 0)⟩ 5 (cap, cap + 1))] _ := fun {b40 cap} => crc_of b40 cap (s.drop 4) _ _ _ (by omega)
    refine t_alt ?_ ?_
    all_goals
      (repeat first|refine Nv.r ?_|refine Jk rfl ?_)
      first
        | (refine e_callP rfl hget S fun w S => ?_
           (repeat first|refine Nv.r ?_|refine Jk rfl ?_)
           refine e_s2b S rfl fun b40 cap w hc S => ?_)
        | (refine e_s2b S rfl fun b40 cap w hc S => ?_
           (repeat first|refine Nv.r ?_|refine Jk rfl ?_)
           refine e_callP rfl hget S fun w S => ?_)
      (repeat first|refine Nv.r ?_|refine Jk rfl ?_)
      refine e_call (L2 := [_, _, _, _]) rfl crcCall (S.perm (List.perm_append_singleton _ [_, _, _, _]).symm) ?_
      rintro _ _ w ⟨rfl, rfl⟩ S
      replace S := Sep.drop (L2 := [_]) (S.perm (List.perm_append_singleton _ [_, _, _, _]))
      (repeat first|refine Nv.r ?_|refine Jk rfl ?_)
      refine e_p (cvi_i64u32 rfl) ?_
      (repeat first|refine Nv.r ?_|refine Jk rfl ?_)
      refine e_p (cmp_neqD rfl rfl) ?_
      (repeat first|refine Nv.r ?_|refine Jk rfl ?_)
      refine e_mvB rfl ?_
      (repeat first|refine Nv.r ?_|refine Jk rfl ?_)
      have hcrc : lblOK s → ((leN ((s.drop 0).take (4 - 0)) : Nat) : Int) = (((crcOf (s.drop 4)).toNat : Nat) : Int) := fun h => (by
        have h1 := h.1
        have e : (s.drop 0).take (4 - 0) = s.take 4 := by simp
        rw [e]; omega)
      refine e_brN rfl (fun h1 => ?_) (fun h1 => ?_)
      · have hc : leN (s.take 4) = (crcOf (s.drop 4)).toNat := by
          have e : (s.drop 0).take (4 - 0) = s.take 4 := by simp
          rw [e] at h1; omega
        (repeat first|refine Nv.r ?_|refine Jk rfl ?_|(refine JX ?_;conv=>whnf)|(refine JV ?_;(conv=>whnf);show Evs _ _ _ _ _)|refine JJ rfl ?_|refine JK rfl ?_|refine JQ rfl ?_|refine JL rfl rfl ?_|refine JM rfl rfl ?_|refine JN rfl ?_|refine JO rfl ?_|refine JP rfl ?_)
        refine e_ld (S.row 1 rfl (by simp [Pl.v]) rfl) ?_
        (repeat first|refine Nv.r ?_|refine Jk rfl ?_|(refine JX ?_;conv=>whnf)|(refine JV ?_;(conv=>whnf);show Evs _ _ _ _ _)|refine JJ rfl ?_|refine JK rfl ?_|refine JQ rfl ?_|refine JL rfl rfl ?_|refine JM rfl rfl ?_|refine JN rfl ?_|refine JO rfl ?_|refine JP rfl ?_)
        refine e_callP rfl (sec_valid (lblP s)) S fun w S => ?_
        (repeat first|refine Nv.r ?_|refine Jk rfl ?_|(refine JX ?_;conv=>whnf)|(refine JV ?_;(conv=>whnf);show Evs _ _ _ _ _)|refine JJ rfl ?_|refine JK rfl ?_|refine JQ rfl ?_|refine JL rfl rfl ?_|refine JM rfl rfl ?_|refine JN rfl ?_|refine JO rfl ?_|refine JP rfl ?_)
        refine e_brN rfl (fun h2 => ?_) (fun h2 => ?_)
        · (repeat first|refine Nv.r ?_|refine Jk rfl ?_|(refine JX ?_;conv=>whnf)|(refine JV ?_;(conv=>whnf);show Evs _ _ _ _ _)|refine JJ rfl ?_|refine JK rfl ?_|refine JQ rfl ?_|refine JL rfl rfl ?_|refine JM rfl rfl ?_|refine JN rfl ?_|refine JO rfl ?_|refine JP rfl ?_)
          refine e_ld (S.row 0 rfl (by simp [Gn.v]) rfl) ?_
          (repeat first|refine Nv.r ?_|refine Jk rfl ?_|(refine JX ?_;conv=>whnf)|(refine JV ?_;(conv=>whnf);show Evs _ _ _ _ _)|refine JJ rfl ?_|refine JK rfl ?_|refine JQ rfl ?_|refine JL rfl rfl ?_|refine JM rfl rfl ?_|refine JN rfl ?_|refine JO rfl ?_|refine JP rfl ?_)
          refine e_callP rfl (sec_validGen (lblG s)) S fun w S => ?_
          (repeat first|refine Nv.r ?_|refine Jk rfl ?_|(refine JX ?_;conv=>whnf)|(refine JV ?_;(conv=>whnf);show Evs _ _ _ _ _)|refine JJ rfl ?_|refine JK rfl ?_|refine JQ rfl ?_|refine JL rfl rfl ?_|refine JM rfl rfl ?_|refine JN rfl ?_|refine JO rfl ?_|refine JP rfl ?_)
          refine e_brN rfl (fun h3 => ?_) (fun h3 => ?_)
          · (repeat first|refine Nv.r ?_|refine Jk rfl ?_|(refine JX ?_;conv=>whnf)|(refine JV ?_;(conv=>whnf);show Evs _ _ _ _ _)|refine JJ rfl ?_|refine JK rfl ?_|refine JQ rfl ?_|refine JL rfl rfl ?_|refine JM rfl rfl ?_|refine JN rfl ?_|refine JO rfl ?_|refine JP rfl ?_)
            refine ⟨rfl, (), ⟨?_, rfl, rfl, rfl, rfl, rfl, trivial⟩, S⟩
            show Value.bool (!decide _) = Value.bool (!decide _)
            rw [decide_eq_decide.2 (⟨fun h => ⟨hc, h2, h3, h⟩, fun h => h.2.2.2⟩ : (s.drop 8).take (16 - 8) = s.drop 56 ↔ lblOK s)]
          · (repeat first|refine Nv.r ?_|refine Jk rfl ?_|(refine JX ?_;conv=>whnf)|(refine JV ?_;(conv=>whnf);show Evs _ _ _ _ _)|refine JJ rfl ?_|refine JK rfl ?_|refine JQ rfl ?_|refine JL rfl rfl ?_|refine JM rfl rfl ?_|refine JN rfl ?_|refine JO rfl ?_|refine JP rfl ?_)
            refine ⟨rfl, (), ⟨?_, rfl, rfl, rfl, rfl, rfl, trivial⟩, S⟩
            show Value.bool true = Value.bool (!decide _)
            rw [decide_eq_false (fun h : lblOK s => h3 h.2.2.1)]; rfl
        · (repeat first|refine Nv.r ?_|refine Jk rfl ?_|(refine JX ?_;conv=>whnf)|(refine JV ?_;(conv=>whnf);show Evs _ _ _ _ _)|refine JJ rfl ?_|refine JK rfl ?_|refine JQ rfl ?_|refine JL rfl rfl ?_|refine JM rfl rfl ?_|refine JN rfl ?_|refine JO rfl ?_|refine JP rfl ?_)
          refine ⟨rfl, (), ⟨?_, rfl, rfl, rfl, rfl, rfl, trivial⟩, S⟩
          show Value.bool true = Value.bool (!decide _)
          rw [decide_eq_false (fun h : lblOK s => h2 h.2.1)]; rfl
      · (repeat first|refine Nv.r ?_|refine Jk rfl ?_|(refine JX ?_;conv=>whnf)|(refine JV ?_;(conv=>whnf);show Evs _ _ _ _ _)|refine JJ rfl ?_|refine JK rfl ?_|refine JQ rfl ?_|refine JL rfl rfl ?_|refine JM rfl rfl ?_|refine JN rfl ?_|refine JO rfl ?_|refine JP rfl ?_)
        refine ⟨rfl, (), ⟨?_, rfl, rfl, rfl, rfl, rfl, trivial⟩, S⟩
        show Value.bool true = Value.bool (!decide _)
        rw [decide_eq_false (fun h : lblOK s => h1 (hcrc h))]; rfl
  rintro g _ w S
  simp only [setL]
  refine s_iteN rfl (fun h => ?_) (fun h => ?_)
  · (repeat first|refine Nv.r ?_|refine Jk rfl ?_|(refine JX ?_;conv=>whnf)|(refine JV ?_;(conv=>whnf);show Evs _ _ _ _ _)|refine JJ rfl ?_|refine JK rfl ?_|refine JQ rfl ?_|refine JL rfl rfl ?_|refine JM rfl rfl ?_|refine JN rfl ?_|refine JO rfl ?_|refine JP rfl ?_)
    refine e_st S 3 rfl rfl rfl rfl (by simp [Value.flat]) (by simp [zP, Pl.v]) fun w S => ?_
    refine e_st S 2 rfl rfl rfl rfl (by simp [Value.flat]) (by simp [zG, Gn.v]) fun w S => ?_
    (repeat first|refine Nv.r ?_|refine Jk rfl ?_|(refine JX ?_;conv=>whnf)|(refine JV ?_;(conv=>whnf);show Evs _ _ _ _ _)|refine JJ rfl ?_|refine JK rfl ?_|refine JQ rfl ?_|refine JL rfl rfl ?_|refine JM rfl rfl ?_|refine JN rfl ?_|refine JO rfl ?_|refine JP rfl ?_)
    refine f_ret (vs := [.agg ⟨zP.v⟩, .agg ⟨zG.v⟩, .int .i64 7]) rfl (rvs3 (S.row 3 rfl (by simp [zP, Pl.v, putAt]) rfl) (S.row 2 rfl (by simp [zG, Gn.v, putAt]) rfl) rfl) (hQ _ _ _ ?_ S)
    unfold labelV
    rw [if_neg (by omega), if_neg h]; rfl
  · (repeat first|refine Nv.r ?_|refine Jk rfl ?_|(refine JX ?_;conv=>whnf)|(refine JV ?_;(conv=>whnf);show Evs _ _ _ _ _)|refine JJ rfl ?_|refine JK rfl ?_|refine JQ rfl ?_|refine JL rfl rfl ?_|refine JM rfl rfl ?_|refine JN rfl ?_|refine JO rfl ?_|refine JP rfl ?_)
    replace S := S.drew
    refine e_ld (S.row 1 rfl (by simp [Pl.v]) rfl) ?_
    (repeat first|refine Nv.r ?_|refine Jk rfl ?_|(refine JX ?_;conv=>whnf)|(refine JV ?_;(conv=>whnf);show Evs _ _ _ _ _)|refine JJ rfl ?_|refine JK rfl ?_|refine JQ rfl ?_|refine JL rfl rfl ?_|refine JM rfl rfl ?_|refine JN rfl ?_|refine JO rfl ?_|refine JP rfl ?_)
    refine t_alt ?_ ?_
    all_goals
      repeat' first
        | (refine e_ld (S.row 0 rfl (by simp [Gn.v]) rfl) ?_)
        | (refine e_st (vs := (lblP s).v) S 3 rfl rfl rfl rfl (by simp [Pl.v, Value.flat]) (by simp [zP, Pl.v]) fun w S => ?_)
        | (refine e_st (vs := (lblG s).v) S 2 rfl rfl rfl rfl (by simp [Gn.v, Value.flat]) (by simp [zG, Gn.v]) fun w S => ?_)
        | (refine f_ret (vs := [.agg ⟨(lblP s).v⟩, .agg ⟨(lblG s).v⟩, .int .i64 0]) rfl (rvs3 (S.row 3 rfl (by simp [zP, Pl.v, putAt]) rfl) (S.row 2 rfl (by simp [zG, Gn.v, putAt]) rfl) rfl) (hQ _ _ _ ?_ S); unfold labelV; rw [if_neg (by omega), if_pos h]; rfl)
        | (first|refine Nv.r ?_|refine Jk rfl ?_|(refine JX ?_;conv=>whnf)|(refine JV ?_;(conv=>whnf);show Evs _ _ _ _ _)|refine JJ rfl ?_|refine JK rfl ?_|refine JQ rfl ?_|refine JL rfl rfl ?_|refine JM rfl rfl ?_|refine JN rfl ?_|refine JO rfl ?_|refine JP rfl ?_)

end Go.Proofs.YtjnogknjdjphaaaGreat

/- The compiled forms of functions of this seat, printed by a program of this claim's writer. -/
set_option maxRecDepth 100000
namespace Go.Proofs.YtjnogknjdjphaaaGreat
open Dn Go
/-- (*solvent/disk.Disk).has -/
def c185 : Fun := ⟨16, (.seq (.ops [(.op (.p (some 4) (.mov (.c (.bool false)))))] false) (.seq (.ops [(.op (.p (some 5) (.mov (.r 1)))), (.op (.p (some 6) (.cmp .geq (.r 5) (.c (.int .i64 0))))), (.op (.p (some 7) (.mov (.r 6)))), (.gd 7 true (some 8) (.p (some 8) (.mov (.r 1)))), (.gd 7 true (some 9) (.p (some 9) (.mov (.r 0)))), (.gd 7 true (some 10) (.p (some 10) (.nck (.r 9)))), (.gd 7 true (some 11) (.p (some 11) (.fad (.r 10) 0))), (.gd 7 true (some 12) (.ld (some 12) none (.r 11))), (.gd 7 true (some 13) (.p (some 13) (.len (.r 12)))), (.gd 7 true (some 14) (.p (some 14) (.cmp .lss (.r 8) (.r 13)))), (.op (.pk (some 15) (.r 7) (.r 14) (.c (.bool false)))), (.op (.p (some 4) (.mov (.r 15))))] false) .ret)), [(.t (.r 4))]⟩
theorem c185_eq : cF Tryz.prog Tryz.f185 = some c185 := by kernel_rfl
/-- (*solvent/disk.Disk).Write -/
def c165 : Fun := ⟨46, (.seq (.ops [(.op (.p (some 6) (.mov (.c (.int .i64 0)))))] false) (.seq (.seq (.ops [(.op (.p (some 9) (.mov (.r 0)))), (.op (.p (some 10) (.mov (.r 1)))), (.op (.call (some 11) 185 [(.r 9), (.r 10)])), (.op (.p (some 12) (.un .not (.r 11)))), (.op (.p (some 13) (.mov (.r 12)))), (.gd 13 false (some 14) (.p (some 14) (.mov (.r 2)))), (.gd 13 false (some 15) (.p (some 15) (.lns (.r 14)))), (.gd 13 false (some 16) (.p (some 16) (.cmp .neq (.r 15) (.c (.int .i64 64))))), (.op (.pk (some 17) (.r 13) (.c (.bool true)) (.r 16)))] false) (.ite (.r 17) (.seq (.ops [(.op (.p (some 6) (.mov (.c (.int .i64 1)))))] false) .ret) .skip)) (.seq (.ops [(.op (.p (some 19) (.mov (.r 0)))), (.op (.p (some 20) (.nck (.r 19)))), (.op (.p (some 21) (.fad (.r 20) 2))), (.op (.ld (some 22) none (.r 21))), (.op (.p (some 23) (.mov (.r 1)))), (.op (.raw (some 24) (.lookup 170 (.tmp 22) (.tmp 23) true) 185)), (.op (.p (some 18) (.mov (.r 24)))), (.op (.p (some 25) (.ext (.r 18) 0))), (.op (.p (some 26) (.ext (.r 18) 1))), (.op (.p (some 7) (.mov (.r 25)))), (.op (.p (some 8) (.mov (.r 26))))] false) (.seq (.seq (.ops [(.op (.p (some 27) (.mov (.r 8)))), (.op (.p (some 28) (.un .not (.r 27))))] false) (.ite (.r 28) (.ops [(.op (.p (some 29) (.mov (.r 1)))), (.op (.p (some 7) (.mov (.r 29))))] false) .skip)) (.seq (.ops [(.op (.p (some 30) (.mov (.r 0)))), (.op (.p (some 31) (.nck (.r 30)))), (.op (.p (some 32) (.fad (.r 31) 2))), (.op (.ld (some 33) none (.r 32))), (.op (.p (some 34) (.mov (.r 1)))), (.op (.raw none (.call (.mk (.builtin .delete) #[(.tmp 33), (.tmp 34)] #[170, 3])) 0))] false) (.seq (.seq (.ops [(.op (.p (some 35) (.mov (.r 7)))), (.op (.p (some 36) (.cmp .neq (.r 35) (.c (.int .i64 (-1))))))] false) (.ite (.r 36) (.ops [(.op (.p (some 37) (.mov (.r 0)))), (.op (.p (some 38) (.nck (.r 37)))), (.op (.p (some 39) (.fad (.r 38) 1))), (.op (.ld (some 40) none (.r 39))), (.op (.p (some 41) (.mov (.r 7)))), (.op (.p (some 42) (.mov (.r 2)))), (.op (.s2b (some 43) 5 (.r 42))), (.op (.p (some 44) (.s2a 64 (.r 43)))), (.op (.ld (some 45) (some 64) (.r 44))), (.op (.raw none (.mapUpdate 221 (.tmp 40) (.tmp 41) (.tmp 45)) 0))] true) .skip)) (.seq (.ops [(.op (.p (some 6) (.mov (.c (.int .i64 0)))))] false) .ret))))))), [(.t (.r 6))]⟩
theorem c165_eq : cF Tryz.prog Tryz.f165 = some c165 := by kernel_rfl
/-- (*solvent/disk.Disk).Read -/
def c121 : Fun := ⟨32, (.seq (.ops [(.op (.p (some 4) (.mov (.c (.string ⟨#[]⟩))))), (.op (.p (some 5) (.mov (.c (.int .i64 0)))))] false) (.seq (.seq (.ops [(.op (.p (some 8) (.mov (.r 0)))), (.op (.p (some 9) (.mov (.r 1)))), (.op (.call (some 10) 185 [(.r 8), (.r 9)])), (.op (.p (some 11) (.un .not (.r 10))))] false) (.ite (.r 11) (.seq (.ops [(.op (.p (some 4) (.mov (.c (.string ⟨#[]⟩))))), (.op (.p (some 5) (.mov (.c (.int .i64 1)))))] false) .ret) .skip)) (.seq (.ops [(.op (.p (some 13) (.mov (.r 0)))), (.op (.p (some 14) (.nck (.r 13)))), (.op (.p (some 15) (.fad (.r 14) 1))), (.op (.ld (some 16) none (.r 15))), (.op (.p (some 17) (.mov (.r 1)))), (.op (.raw (some 18) (.lookup 221 (.tmp 16) (.tmp 17) true) 245)), (.op (.p (some 12) (.mov (.r 18)))), (.op (.p (some 19) (.ext (.r 12) 0))), (.op (.p (some 20) (.ext (.r 12) 1))), (.op (.nw (some 6) 244 [(.int .u8 0), (.int .u8 0), (.int .u8 0), (.int .u8 0), (.int .u8 0), (.int .u8 0), (.int .u8 0), (.int .u8 0), (.int .u8 0), (.int .u8 0), (.int .u8 0), (.int .u8 0), (.int .u8 0), (.int .u8 0), (.int .u8 0), (.int .u8 0), (.int .u8 0), (.int .u8 0), (.int .u8 0), (.int .u8 0), (.int .u8 0), (.int .u8 0), (.int .u8 0), (.int .u8 0), (.int .u8 0), (.int .u8 0), (.int .u8 0), (.int .u8 0), (.int .u8 0), (.int .u8 0), (.int .u8 0), (.int .u8 0), (.int .u8 0), (.int .u8 0), (.int .u8 0), (.int .u8 0), (.int .u8 0), (.int .u8 0), (.int .u8 0), (.int .u8 0), (.int .u8 0), (.int .u8 0), (.int .u8 0), (.int .u8 0), (.int .u8 0), (.int .u8 0), (.int .u8 0), (.int .u8 0), (.int .u8 0), (.int .u8 0), (.int .u8 0), (.int .u8 0), (.int .u8 0), (.int .u8 0), (.int .u8 0), (.int .u8 0), (.int .u8 0), (.int .u8 0), (.int .u8 0), (.int .u8 0), (.int .u8 0), (.int .u8 0), (.int .u8 0), (.int .u8 0)])), (.op (.st none 64 (.r 6) (.r 19))), (.op (.p (some 7) (.mov (.r 20))))] false) (.seq (.seq (.ops [(.op (.p (some 21) (.mov (.r 7)))), (.op (.p (some 22) (.un .not (.r 21))))] false) (.ite (.r 22) (.ops [(.op (.p (some 23) (.mov (.r 0)))), (.op (.p (some 24) (.nck (.r 23)))), (.op (.p (some 25) (.fad (.r 24) 0))), (.op (.ld (some 26) none (.r 25))), (.op (.p (some 27) (.mov (.r 1)))), (.op (.p (some 28) (.ixa 64 (.r 26) (.r 27)))), (.op (.ld (some 29) (some 64) (.r 28))), (.op (.st none 64 (.r 6) (.r 29)))] false) .skip)) (.seq (.ops [(.op (.p (some 30) (.slp 64 1 (.r 6) none none))), (.op (.b2s (some 31) (.r 30))), (.op (.p (some 4) (.mov (.r 31)))), (.op (.p (some 5) (.mov (.c (.int .i64 0)))))] false) .ret))))), [(.t (.r 4)), (.t (.r 5))]⟩
theorem c121_eq : cF Tryz.prog Tryz.f121 = some c121 := by kernel_rfl
/-- (*solvent/disk.Disk).Flush -/
def c167 : Fun := ⟨25, (.seq (.seq (.ops [(.op (.p (some 4) (.mov (.r 0)))), (.op (.p (some 5) (.nck (.r 4)))), (.op (.p (some 6) (.fad (.r 5) 1))), (.op (.ld (some 7) none (.r 6))), (.op (.raw (some 8) (.range 221 (.tmp 7)) 0))] false) (.blk 0 (.loop (.seq (.ops [(.op (.raw (some 9) (.next (.tmp 8) false) 0)), (.op (.p (some 10) (.ext (.r 9) 0)))] false) (.seq (.ite (.r 10) .skip (.exit 0)) (.blk 1 (.seq (.ops [(.op (.raw (some 11) (.entry (.tmp 8)) 0)), (.op (.p (some 12) (.ext (.r 11) 0))), (.op (.p (some 13) (.ext (.r 11) 1))), (.op (.nw (some 3) 244 [(.int .u8 0), (.int .u8 0), (.int .u8 0), (.int .u8 0), (.int .u8 0), (.int .u8 0), (.int .u8 0), (.int .u8 0), (.int .u8 0), (.int .u8 0), (.int .u8 0), (.int .u8 0), (.int .u8 0), (.int .u8 0), (.int .u8 0), (.int .u8 0), (.int .u8 0), (.int .u8 0), (.int .u8 0), (.int .u8 0), (.int .u8 0), (.int .u8 0), (.int .u8 0), (.int .u8 0), (.int .u8 0), (.int .u8 0), (.int .u8 0), (.int .u8 0), (.int .u8 0), (.int .u8 0), (.int .u8 0), (.int .u8 0), (.int .u8 0), (.int .u8 0), (.int .u8 0), (.int .u8 0), (.int .u8 0), (.int .u8 0), (.int .u8 0), (.int .u8 0), (.int .u8 0), (.int .u8 0), (.int .u8 0), (.int .u8 0), (.int .u8 0), (.int .u8 0), (.int .u8 0), (.int .u8 0), (.int .u8 0), (.int .u8 0), (.int .u8 0), (.int .u8 0), (.int .u8 0), (.int .u8 0), (.int .u8 0), (.int .u8 0), (.int .u8 0), (.int .u8 0), (.int .u8 0), (.int .u8 0), (.int .u8 0), (.int .u8 0), (.int .u8 0), (.int .u8 0)])), (.op (.p (some 2) (.mov (.r 12)))), (.op (.st none 64 (.r 3) (.r 13)))] false) (.ops [(.op (.p (some 14) (.mov (.r 0)))), (.op (.p (some 15) (.nck (.r 14)))), (.op (.p (some 16) (.fad (.r 15) 0))), (.op (.ld (some 17) none (.r 16))), (.op (.p (some 18) (.mov (.r 2)))), (.op (.ld (some 19) (some 64) (.r 3))), (.op (.p (some 20) (.ixa 64 (.r 17) (.r 18)))), (.op (.st none 64 (.r 20) (.r 19)))] true)))))))) (.ops [(.op (.p (some 21) (.mov (.r 0)))), (.op (.p (some 22) (.nck (.r 21)))), (.op (.p (some 23) (.fad (.r 22) 1))), (.op (.ld (some 24) none (.r 23))), (.op (.raw none (.call (.mk (.builtin .clear) #[(.tmp 24)] #[221])) 0))] false)), []⟩
theorem c167_eq : cF Tryz.prog Tryz.f167 = some c167 := by kernel_rfl
/-- (*solvent/disk.Disk).Pending -/
def c146 : Fun := ⟨9, (.seq (.ops [(.op (.p (some 2) (.mov (.c (.slice none 0 0)))))] false) (.seq (.ops [(.op (.p (some 3) (.mov (.r 0)))), (.op (.p (some 4) (.nck (.r 3)))), (.op (.p (some 5) (.fad (.r 4) 1))), (.op (.ld (some 6) none (.r 5))), (.op (.call (some 7) 211 [(.r 6)])), (.op (.call (some 8) 210 [(.r 7)])), (.op (.p (some 2) (.mov (.r 8))))] false) .ret)), [(.t (.r 2))]⟩
theorem c146_eq : cF Tryz.prog Tryz.f146 = some c146 := by kernel_rfl
/-- (*solvent/disk.Disk).Cut -/
def c147 : Fun := ⟨50, (.seq (.seq (.ops [(.op (.p (some 7) (.mov (.r 0)))), (.op (.call (some 8) 146 [(.r 7)])), (.op (.p (some 9) (.len (.r 8)))), (.op (.p (some 10) (.mov (.c (.int .i64 0)))))] false) (.blk 0 (.loop (.seq (.ops [(.op (.p (some 11) (.cmp .lss (.r 10) (.r 9))))] false) (.seq (.ite (.r 11) .skip (.exit 0)) (.seq (.blk 1 (.seq (.ops [(.op (.p (some 12) (.mov (.r 10)))), (.op (.p (some 13) (.ixa 1 (.r 8) (.r 10)))), (.op (.ld (some 14) none (.r 13))), (.op (.p (some 4) (.mov (.r 12)))), (.op (.p (some 5) (.mov (.r 14))))] false) (.seq (.seq (.ops [(.op (.p (some 15) (.mov (.r 4)))), (.op (.p (some 16) (.mov (.r 1)))), (.op (.p (some 17) (.len (.r 16)))), (.op (.p (some 18) (.cmp .lss (.r 15) (.r 17))))] false) (.ite (.r 18) (.seq (.ops [(.op (.p (some 19) (.mov (.r 0)))), (.op (.p (some 20) (.nck (.r 19)))), (.op (.p (some 21) (.fad (.r 20) 1))), (.op (.ld (some 22) none (.r 21))), (.op (.p (some 23) (.mov (.r 5)))), (.op (.raw (some 24) (.lookup 221 (.tmp 22) (.tmp 23) false) 244)), (.op (.nw (some 6) 244 [(.int .u8 0), (.int .u8 0), (.int .u8 0), (.int .u8 0), (.int .u8 0), (.int .u8 0), (.int .u8 0), (.int .u8 0), (.int .u8 0), (.int .u8 0), (.int .u8 0), (.int .u8 0), (.int .u8 0), (.int .u8 0), (.int .u8 0), (.int .u8 0), (.int .u8 0), (.int .u8 0), (.int .u8 0), (.int .u8 0), (.int .u8 0), (.int .u8 0), (.int .u8 0), (.int .u8 0), (.int .u8 0), (.int .u8 0), (.int .u8 0), (.int .u8 0), (.int .u8 0), (.int .u8 0), (.int .u8 0), (.int .u8 0), (.int .u8 0), (.int .u8 0), (.int .u8 0), (.int .u8 0), (.int .u8 0), (.int .u8 0), (.int .u8 0), (.int .u8 0), (.int .u8 0), (.int .u8 0), (.int .u8 0), (.int .u8 0), (.int .u8 0), (.int .u8 0), (.int .u8 0), (.int .u8 0), (.int .u8 0), (.int .u8 0), (.int .u8 0), (.int .u8 0), (.int .u8 0), (.int .u8 0), (.int .u8 0), (.int .u8 0), (.int .u8 0), (.int .u8 0), (.int .u8 0), (.int .u8 0), (.int .u8 0), (.int .u8 0), (.int .u8 0), (.int .u8 0)])), (.op (.st none 64 (.r 6) (.r 24)))] false) (.ops [(.op (.p (some 25) (.mov (.r 0)))), (.op (.p (some 26) (.nck (.r 25)))), (.op (.p (some 27) (.fad (.r 26) 0))), (.op (.ld (some 28) none (.r 27))), (.op (.p (some 29) (.mov (.r 5)))), (.op (.p (some 30) (.ixa 64 (.r 28) (.r 29)))), (.op (.p (some 31) (.slp 64 1 (.r 30) none none))), (.op (.p (some 32) (.mov (.r 1)))), (.op (.p (some 33) (.mov (.r 4)))), (.op (.p (some 34) (.ixa 1 (.r 32) (.r 33)))), (.op (.ld (some 35) none (.r 34))), (.op (.p (some 36) (.mx (.r 35) [(.c (.int .i64 0))]))), (.op (.p (some 37) (.mn (.r 36) [(.c (.int .i64 64))]))), (.op (.p (some 38) (.slp 64 1 (.r 6) none (some (.r 37))))), (.op (.raw (some 39) (.call (.mk (.builtin .copy) #[(.tmp 31), (.tmp 38)] #[43, 43])) 3))] true)) .skip)) (.ops [(.op (.p (some 40) (.mov (.r 0)))), (.op (.p (some 41) (.nck (.r 40)))), (.op (.p (some 42) (.fad (.r 41) 1))), (.op (.ld (some 43) none (.r 42))), (.op (.p (some 44) (.mov (.r 5)))), (.op (.raw none (.call (.mk (.builtin .delete) #[(.tmp 43), (.tmp 44)] #[221, 3])) 0))] false)))) (.ops [(.op (.ar (some 45) .add (.r 10) (.c (.int .i64 1)))), (.op (.p (some 10) (.mov (.r 45))))] false))))))) (.ops [(.op (.p (some 46) (.mov (.r 0)))), (.op (.p (some 47) (.nck (.r 46)))), (.op (.p (some 48) (.fad (.r 47) 2))), (.op (.ld (some 49) none (.r 48))), (.op (.raw none (.call (.mk (.builtin .clear) #[(.tmp 49)] #[170])) 0))] false)), []⟩
theorem c147_eq : cF Tryz.prog Tryz.f147 = some c147 := by kernel_rfl
/-- solvent/disk.New -/
def c73 : Fun := ⟨11, (.seq (.ops [(.op (.p (some 2) (.mov (.c (.pointer none)))))] false) (.seq (.ops [(.op (.p (some 3) (.mov (.r 0)))), (.op (.p (some 4) (.mx (.r 3) [(.c (.int .i64 0))]))), (.op (.p (some 5) (.mn (.r 4) [(.c (.int .i64 65536))]))), (.op (.raw (some 6) (.makeSlice 220 (.tmp 5) (.tmp 5)) 220)), (.op (.raw (some 7) (.makeMap 221 none) 221)), (.op (.raw (some 8) (.makeMap 170 none) 170)), (.op (.p (some 9) (.bld [(.slice none 0 0), (.map none), (.map none)] [(0, (1, (.r 6))), (1, (1, (.r 7))), (2, (1, (.r 8)))]))), (.op (.bx (some 10) 223 (.r 9))), (.op (.p (some 2) (.mov (.r 10))))] false) .ret)), [(.t (.r 2))]⟩
theorem c73_eq : cF Tryz.prog Tryz.f73 = some c73 := by kernel_rfl
end Go.Proofs.YtjnogknjdjphaaaGreat

/-
  The walks of a disk's methods: has, Write, Read.
-/
namespace Go.Proofs.YtjnogknjdjphaaaGreat
open Dn
attribute [local irreducible] Evs Ev EvT DSpec PSpec CallTo
set_option maxRecDepth 10000

theorem dk_has (D : Dk) (i : Int) : DSpec Tryz.prog 185 [D.v, .int .i64 i] D.L fun v L => v = .bool (D.has i) ∧ L = D.L := by
  refine spec_of mix Tryz.func185 c185_eq rfl rfl fun w F Q S hQ => ?_
  (repeat first|refine Nv.r ?_|refine Jk rfl ?_|(refine JX ?_;conv=>whnf)|(refine JV ?_;(conv=>whnf);show Evs _ _ _ _ _)|refine JJ rfl ?_|refine JK rfl ?_|refine JQ rfl ?_|refine JL rfl rfl ?_|refine JM rfl rfl ?_|refine JN rfl ?_|refine JO rfl ?_|refine JP rfl ?_)
  refine e_brD rfl (fun h0 => ?_) (fun h0 => ?_)
  · (repeat first|refine Nv.r ?_|refine Jk rfl ?_|(refine JX ?_;conv=>whnf)|(refine JV ?_;(conv=>whnf);show Evs _ _ _ _ _)|refine JJ rfl ?_|refine JK rfl ?_|refine JQ rfl ?_|refine JL rfl rfl ?_|refine JM rfl rfl ?_|refine JN rfl ?_|refine JO rfl ?_|refine JP rfl ?_)
    refine e_ld (S.cell 0 rfl rfl) ?_
    (repeat first|refine Nv.r ?_|refine Jk rfl ?_|(refine JX ?_;conv=>whnf)|(refine JV ?_;(conv=>whnf);show Evs _ _ _ _ _)|refine JJ rfl ?_|refine JK rfl ?_|refine JQ rfl ?_|refine JL rfl rfl ?_|refine JM rfl rfl ?_|refine JN rfl ?_|refine JO rfl ?_|refine JP rfl ?_)
    refine f_ret rfl rfl (hQ _ _ _ ⟨congrArg Value.bool ?_, rfl⟩ S)
    simp only [Dk.has]; simp; omega
  · (repeat first|refine Nv.r ?_|refine Jk rfl ?_|(refine JX ?_;conv=>whnf)|(refine JV ?_;(conv=>whnf);show Evs _ _ _ _ _)|refine JJ rfl ?_|refine JK rfl ?_|refine JQ rfl ?_|refine JL rfl rfl ?_|refine JM rfl rfl ?_|refine JN rfl ?_|refine JO rfl ?_|refine JP rfl ?_)
    refine f_ret rfl rfl (hQ _ _ _ ⟨congrArg Value.bool ?_, rfl⟩ S)
    simp only [Dk.has]; simp; omega

theorem zS : (Tryz.prog.info? 244).bind (·.zero) = some (Dn.encS zsec) := by kernel_rfl

theorem zI : (Tryz.prog.info? 3).bind (·.zero) = some (.int .i64 0) := by kernel_rfl

theorem dk_write (D : Dk) (i : Int) (s : ByteArray) : DSpec Tryz.prog 165 [D.v, .int .i64 i, .string s] D.L fun v L =>
    (D.has i = true ∧ s.size = 64 → v = .int .i64 0 ∧ L = (D.write i s.data.toList).L) ∧ (¬ (D.has i = true ∧ s.size = 64) → v = .int .i64 1 ∧ L = D.L) := by
  refine spec_of mix Tryz.func165 c165_eq rfl rfl fun w F Q S hQ => ?_
  (repeat first|refine Nv.r ?_|refine Jk rfl ?_|(refine JX ?_;conv=>whnf)|(refine JV ?_;(conv=>whnf);show Evs _ _ _ _ _)|refine JJ rfl ?_|refine JK rfl ?_|refine JQ rfl ?_|refine JL rfl rfl ?_|refine JM rfl rfl ?_|refine JN rfl ?_|refine JO rfl ?_|refine JP rfl ?_)
  refine e_call (L2 := []) rfl (dk_has D i) S ?_
  rintro _ _ w ⟨rfl, rfl⟩ S
  (repeat first|refine Nv.r ?_|refine Jk rfl ?_|(refine JX ?_;conv=>whnf)|(refine JV ?_;(conv=>whnf);show Evs _ _ _ _ _)|refine JJ rfl ?_|refine JK rfl ?_|refine JQ rfl ?_|refine JL rfl rfl ?_|refine JM rfl rfl ?_|refine JN rfl ?_|refine JO rfl ?_|refine JP rfl ?_)
  refine e_br rfl (fun h0 => ?_) (fun h0 => ?_)
  · -- has
    have hh : D.has i = true := by cases h : D.has i <;> simp_all
    (repeat first|refine Nv.r ?_|refine Jk rfl ?_|(refine JX ?_;conv=>whnf)|(refine JV ?_;(conv=>whnf);show Evs _ _ _ _ _)|refine JJ rfl ?_|refine JK rfl ?_|refine JQ rfl ?_|refine JL rfl rfl ?_|refine JM rfl rfl ?_|refine JN rfl ?_|refine JO rfl ?_|refine JP rfl ?_)
    refine s_ite rfl (fun h1 => ?_) (fun h1 => ?_)
    · (repeat first|refine Nv.r ?_|refine Jk rfl ?_|(refine JX ?_;conv=>whnf)|(refine JV ?_;(conv=>whnf);show Evs _ _ _ _ _)|refine JJ rfl ?_|refine JK rfl ?_|refine JQ rfl ?_|refine JL rfl rfl ?_|refine JM rfl rfl ?_|refine JN rfl ?_|refine JO rfl ?_|refine JP rfl ?_)
      refine f_ret rfl rfl (hQ _ _ _ ⟨fun h => ?_, fun _ => ⟨rfl, rfl⟩⟩ S)
      have := h.2
      simp [this] at h1
    · have hs : s.size = 64 := by simp at h1; omega
      have hcs' : ∀ {cap : Nat}, (List.drop 0 (Dn.byteCells s ++ List.replicate (cap - s.size) (Value.int .u8 0))).take 64 = bcells s.data.toList := by
        intro cap
        have : (Dn.byteCells s).length = 64 := by simp [Dn.byteCells]; exact hs
        rw [List.drop_zero, List.take_append_of_le_length (by omega), List.take_of_length_le (by omega)]; rfl
      (repeat first|refine Nv.r ?_|refine Jk rfl ?_|(refine JX ?_;conv=>whnf)|(refine JV ?_;(conv=>whnf);show Evs _ _ _ _ _)|refine JJ rfl ?_|refine JK rfl ?_|refine JQ rfl ?_|refine JL rfl rfl ?_|refine JM rfl rfl ?_|refine JN rfl ?_|refine JO rfl ?_|refine JP rfl ?_)
      refine e_ld (S.cell 0 rfl rfl) ?_
      (repeat first|refine Nv.r ?_|refine Jk rfl ?_|(refine JX ?_;conv=>whnf)|(refine JV ?_;(conv=>whnf);show Evs _ _ _ _ _)|refine JJ rfl ?_|refine JK rfl ?_|refine JQ rfl ?_|refine JL rfl rfl ?_|refine JM rfl rfl ?_|refine JN rfl ?_|refine JO rfl ?_|refine JP rfl ?_)
      obtain ⟨to, hto⟩ : ∃ to, (D.armed.get i).getD i = to := ⟨_, rfl⟩
      have fin : ∀ L', L' = (D.write i s.data.toList).L → ∀ w, Dn.Sep w L' F → Q (.int .i64 0) w := fun L' h w S => hQ _ _ _ ⟨fun _ => ⟨rfl, h⟩, fun h => absurd ⟨hh, hs⟩ h⟩ S
      have rest : D.armed.get i = some to ∨ (D.armed.get i = none ∧ to = i) := by
        cases hg : D.armed.get i with
        | some t => rw [hg] at hto; exact .inl (congrArg some hto)
        | none => rw [hg] at hto; exact .inr ⟨rfl, hto.symm⟩
      rcases rest with hg | ⟨hg, hti⟩
      all_goals
        first
          | refine e_lookT S 3 rfl rfl rfl Tryz.underlying170 Tryz.underlying3 hg ?_
          | refine e_lookF S 3 rfl rfl rfl Tryz.underlying170 Tryz.underlying3 zI hg ?_
        try subst hti
        (repeat first|refine Nv.r ?_|refine Jk rfl ?_|(refine JX ?_;conv=>whnf)|(refine JV ?_;(conv=>whnf);show Evs _ _ _ _ _)|refine JJ rfl ?_|refine JK rfl ?_|refine JQ rfl ?_|refine JL rfl rfl ?_|refine JM rfl rfl ?_|refine JN rfl ?_|refine JO rfl ?_|refine JP rfl ?_)
        refine e_ld (S.cell 0 rfl rfl) ?_
        (repeat first|refine Nv.r ?_|refine Jk rfl ?_|(refine JX ?_;conv=>whnf)|(refine JV ?_;(conv=>whnf);show Evs _ _ _ _ _)|refine JJ rfl ?_|refine JK rfl ?_|refine JQ rfl ?_|refine JL rfl rfl ?_|refine JM rfl rfl ?_|refine JN rfl ?_|refine JO rfl ?_|refine JP rfl ?_)
        refine e_delete S 3 rfl rfl rfl rfl Tryz.underlying170 Tryz.underlying3 fun w S => ?_
        (repeat first|refine Nv.r ?_|refine Jk rfl ?_|(refine JX ?_;conv=>whnf)|(refine JV ?_;(conv=>whnf);show Evs _ _ _ _ _)|refine JJ rfl ?_|refine JK rfl ?_|refine JQ rfl ?_|refine JL rfl rfl ?_|refine JM rfl rfl ?_|refine JN rfl ?_|refine JO rfl ?_|refine JP rfl ?_)
        refine s_ite rfl (fun h2 => ?_) (fun h2 => ?_)
        · have h2' : ¬ (to = -1) := by simpa using h2
          refine s_opsd ?_
          (repeat first|refine Nv.r ?_|refine Jk rfl ?_|(refine JX ?_;conv=>whnf)|(refine JV ?_;(conv=>whnf);show Evs _ _ _ _ _)|refine JJ rfl ?_|refine JK rfl ?_|refine JQ rfl ?_|refine JL rfl rfl ?_|refine JM rfl rfl ?_|refine JN rfl ?_|refine JO rfl ?_|refine JP rfl ?_)
          refine e_ld (S.drew.cell 0 rfl rfl) ?_
          (repeat first|refine Nv.r ?_|refine Jk rfl ?_|(refine JX ?_;conv=>whnf)|(refine JV ?_;(conv=>whnf);show Evs _ _ _ _ _)|refine JJ rfl ?_|refine JK rfl ?_|refine JQ rfl ?_|refine JL rfl rfl ?_|refine JM rfl rfl ?_|refine JN rfl ?_|refine JO rfl ?_|refine JP rfl ?_)
          refine e_s2b S.drew rfl fun b cap w hc S => ?_
          refine e_s2a rfl (by omega) ?_
          refine e_ld (S.row 0 rfl (by simp [Dn.byteCells]; omega) hcs') ?_
          refine e_mapup S 3 rfl rfl rfl rfl Tryz.underlying221 Tryz.underlying3 fun w S => ?_
          (repeat first|refine Nv.r ?_|refine Jk rfl ?_|(refine JX ?_;conv=>whnf)|(refine JV ?_;(conv=>whnf);show Evs _ _ _ _ _)|refine JJ rfl ?_|refine JK rfl ?_|refine JQ rfl ?_|refine JL rfl rfl ?_|refine JM rfl rfl ?_|refine JN rfl ?_|refine JO rfl ?_|refine JP rfl ?_)
          refine f_ret rfl rfl (fin _ ?_ _ (S.drop (L2 := [_])))
          rw [Dk.write_to hto h2']; rfl
        · have h2' : to = -1 := by simpa using h2
          (repeat first|refine Nv.r ?_|refine Jk rfl ?_|(refine JX ?_;conv=>whnf)|(refine JV ?_;(conv=>whnf);show Evs _ _ _ _ _)|refine JJ rfl ?_|refine JK rfl ?_|refine JQ rfl ?_|refine JL rfl rfl ?_|refine JM rfl rfl ?_|refine JN rfl ?_|refine JO rfl ?_|refine JP rfl ?_)
          refine f_ret rfl rfl (fin _ ?_ _ S)
          rw [Dk.write_lost (hto.trans h2')]; rfl
  · (repeat first|refine Nv.r ?_|refine Jk rfl ?_|(refine JX ?_;conv=>whnf)|(refine JV ?_;(conv=>whnf);show Evs _ _ _ _ _)|refine JJ rfl ?_|refine JK rfl ?_|refine JQ rfl ?_|refine JL rfl rfl ?_|refine JM rfl rfl ?_|refine JN rfl ?_|refine JO rfl ?_|refine JP rfl ?_)
    refine f_ret rfl rfl (hQ _ _ _ ⟨fun h => ?_, fun _ => ⟨rfl, rfl⟩⟩ S)
    rw [h.1] at h0; simp at h0

theorem dk_read (D : Dk) (i : Int) (hok : D.ok) : DSpec Tryz.prog 121 [D.v, .int .i64 i] D.L fun v L => L = D.L ∧
    (D.has i = true → v = .tuple ⟨[.string ⟨⟨D.read i.toNat⟩⟩, .int .i64 0]⟩) ∧ (D.has i = false → v = .tuple ⟨[.string ⟨#[]⟩, .int .i64 1]⟩) := by
  refine spec_of mix Tryz.func121 c121_eq rfl rfl fun w F Q S hQ => ?_
  (repeat first|refine Nv.r ?_|refine Jk rfl ?_|(refine JX ?_;conv=>whnf)|(refine JV ?_;(conv=>whnf);show Evs _ _ _ _ _)|refine JJ rfl ?_|refine JK rfl ?_|refine JQ rfl ?_|refine JL rfl rfl ?_|refine JM rfl rfl ?_|refine JN rfl ?_|refine JO rfl ?_|refine JP rfl ?_)
  refine e_call (L2 := []) rfl (dk_has D i) S ?_
  rintro _ _ w ⟨rfl, rfl⟩ S
  (repeat first|refine Nv.r ?_|refine Jk rfl ?_|(refine JX ?_;conv=>whnf)|(refine JV ?_;(conv=>whnf);show Evs _ _ _ _ _)|refine JJ rfl ?_|refine JK rfl ?_|refine JQ rfl ?_|refine JL rfl rfl ?_|refine JM rfl rfl ?_|refine JN rfl ?_|refine JO rfl ?_|refine JP rfl ?_)
  refine s_ite rfl (fun h0 => ?_) (fun h0 => ?_)
  · (repeat first|refine Nv.r ?_|refine Jk rfl ?_|(refine JX ?_;conv=>whnf)|(refine JV ?_;(conv=>whnf);show Evs _ _ _ _ _)|refine JJ rfl ?_|refine JK rfl ?_|refine JQ rfl ?_|refine JL rfl rfl ?_|refine JM rfl rfl ?_|refine JN rfl ?_|refine JO rfl ?_|refine JP rfl ?_)
    refine f_ret rfl rfl (hQ _ _ _ ⟨rfl, fun h => ?_, fun _ => rfl⟩ S)
    rw [h] at h0; simp at h0
  · have hh : D.has i = true := by cases h : D.has i <;> simp_all
    have hi : 0 ≤ i ∧ i < (D.dur.length : Int) := by simpa [Dk.has] using hh
    (repeat first|refine Nv.r ?_|refine Jk rfl ?_|(refine JX ?_;conv=>whnf)|(refine JV ?_;(conv=>whnf);show Evs _ _ _ _ _)|refine JJ rfl ?_|refine JK rfl ?_|refine JQ rfl ?_|refine JL rfl rfl ?_|refine JM rfl rfl ?_|refine JN rfl ?_|refine JO rfl ?_|refine JP rfl ?_)
    refine e_ld (S.cell 0 rfl rfl) ?_
    (repeat first|refine Nv.r ?_|refine Jk rfl ?_|(refine JX ?_;conv=>whnf)|(refine JV ?_;(conv=>whnf);show Evs _ _ _ _ _)|refine JJ rfl ?_|refine JK rfl ?_|refine JQ rfl ?_|refine JL rfl rfl ?_|refine JM rfl rfl ?_|refine JN rfl ?_|refine JO rfl ?_|refine JP rfl ?_)
    have hsec : ((D.dur.flatMap bcells).drop (0 + i.toNat * 64)).take 64 = bcells (D.sec i.toNat) := by
      rw [Nat.zero_add, flat_drop hok.1 (by omega)]
      simp [Dk.sec, List.getD_eq_getElem?_getD, List.getElem?_eq_getElem (show i.toNat < D.dur.length by omega)]
    cases hg : D.cache.get i with
    | some s =>
      refine e_lookT S 2 rfl rfl rfl Tryz.underlying221 Tryz.underlying3 hg ?_
      (repeat first|refine Nv.r ?_|refine Jk rfl ?_|(refine JX ?_;conv=>whnf)|(refine JV ?_;(conv=>whnf);show Evs _ _ _ _ _)|refine JJ rfl ?_|refine JK rfl ?_|refine JQ rfl ?_|refine JL rfl rfl ?_|refine JM rfl rfl ?_|refine JN rfl ?_|refine JO rfl ?_|refine JP rfl ?_)
      refine e_nwE S (cs' := bcells zsec) (by kernel_rfl) fun b w S => ?_
      refine e_st S 0 rfl rfl rfl (by rw [bcells_len]; exact D.ok_get hok hg) (bcells_flat s) (by simp [bcells_len, zsec]) fun w S => ?_
      rw [putAt_all (by simp [bcells_len, zsec]; exact D.ok_get hok hg)] at S
      (repeat first|refine Nv.r ?_|refine Jk rfl ?_|(refine JX ?_;conv=>whnf)|(refine JV ?_;(conv=>whnf);show Evs _ _ _ _ _)|refine JJ rfl ?_|refine JK rfl ?_|refine JQ rfl ?_|refine JL rfl rfl ?_|refine JM rfl rfl ?_|refine JN rfl ?_|refine JO rfl ?_|refine JP rfl ?_)
      have hs64 : s.length = 64 := D.ok_get hok hg
      refine e_b2s (S.str 0 (s := s) rfl (by simp [bcells_len, hs64]) ?_) ?_
      · rw [List.drop_zero, List.take_of_length_le (by simp [bcells_len, hs64])]; rfl
      (repeat first|refine Nv.r ?_|refine Jk rfl ?_|(refine JX ?_;conv=>whnf)|(refine JV ?_;(conv=>whnf);show Evs _ _ _ _ _)|refine JJ rfl ?_|refine JK rfl ?_|refine JQ rfl ?_|refine JL rfl rfl ?_|refine JM rfl rfl ?_|refine JN rfl ?_|refine JO rfl ?_|refine JP rfl ?_)
      refine f_ret rfl rfl (hQ _ _ _ ⟨rfl, fun _ => ?_, fun h => ?_⟩ (S.drop (L2 := [_])))
      · have e : D.read i.toNat = s := by unfold Dk.read; rw [show ((i.toNat : Nat) : Int) = i from by omega, hg]; rfl
        rw [e]; rfl
      · rw [hh] at h; simp at h
    | none =>
      refine e_lookF S 2 rfl rfl rfl Tryz.underlying221 Tryz.underlying3 zS hg ?_
      (repeat first|refine Nv.r ?_|refine Jk rfl ?_|(refine JX ?_;conv=>whnf)|(refine JV ?_;(conv=>whnf);show Evs _ _ _ _ _)|refine JJ rfl ?_|refine JK rfl ?_|refine JQ rfl ?_|refine JL rfl rfl ?_|refine JM rfl rfl ?_|refine JN rfl ?_|refine JO rfl ?_|refine JP rfl ?_)
      refine e_nwE S (cs' := bcells zsec) (by kernel_rfl) fun b w S => ?_
      refine e_st S 0 rfl rfl rfl (by simp [bcells_len]) (bcells_flat _) (by simp [bcells_len, zsec]) fun w S => ?_
      rw [putAt_all (by simp [bcells_len, zsec])] at S
      (repeat first|refine Nv.r ?_|refine Jk rfl ?_|(refine JX ?_;conv=>whnf)|(refine JV ?_;(conv=>whnf);show Evs _ _ _ _ _)|refine JJ rfl ?_|refine JK rfl ?_|refine JQ rfl ?_|refine JL rfl rfl ?_|refine JM rfl rfl ?_|refine JN rfl ?_|refine JO rfl ?_|refine JP rfl ?_)
      refine e_ld (S.cell 1 rfl rfl) ?_
      (repeat first|refine Nv.r ?_|refine Jk rfl ?_|(refine JX ?_;conv=>whnf)|(refine JV ?_;(conv=>whnf);show Evs _ _ _ _ _)|refine JJ rfl ?_|refine JK rfl ?_|refine JQ rfl ?_|refine JL rfl rfl ?_|refine JM rfl rfl ?_|refine JN rfl ?_|refine JO rfl ?_|refine JP rfl ?_)
      refine e_ixa rfl rfl hi.1 hi.2 ?_
      have hs64 : (D.sec i.toNat).length = 64 := by
        simp only [Dk.sec, List.getD_eq_getElem?_getD, List.getElem?_eq_getElem (show i.toNat < D.dur.length by omega)]
        exact hok.1 _ (List.getElem_mem _)
      refine e_ld (S.row 2 rfl (by rw [flat_len hok.1]; omega) hsec) ?_
      refine e_st S 0 rfl rfl rfl (by rw [bcells_len]; exact hs64) (bcells_flat _) (by simp [bcells_len]) fun w S => ?_
      rw [putAt_all (by simp [bcells_len, hs64])] at S
      (repeat first|refine Nv.r ?_|refine Jk rfl ?_|(refine JX ?_;conv=>whnf)|(refine JV ?_;(conv=>whnf);show Evs _ _ _ _ _)|refine JJ rfl ?_|refine JK rfl ?_|refine JQ rfl ?_|refine JL rfl rfl ?_|refine JM rfl rfl ?_|refine JN rfl ?_|refine JO rfl ?_|refine JP rfl ?_)
      refine e_b2s (S.str 0 (s := D.sec i.toNat) rfl (by simp [bcells_len, hs64]) ?_) ?_
      · rw [List.drop_zero, List.take_of_length_le (by simp [bcells_len, hs64])]; rfl
      (repeat first|refine Nv.r ?_|refine Jk rfl ?_|(refine JX ?_;conv=>whnf)|(refine JV ?_;(conv=>whnf);show Evs _ _ _ _ _)|refine JJ rfl ?_|refine JK rfl ?_|refine JQ rfl ?_|refine JL rfl rfl ?_|refine JM rfl rfl ?_|refine JN rfl ?_|refine JO rfl ?_|refine JP rfl ?_)
      refine f_ret rfl rfl (hQ _ _ _ ⟨rfl, fun _ => ?_, fun h => ?_⟩ (S.drop (L2 := [_])))
      · have e : D.read i.toNat = D.sec i.toNat := by unfold Dk.read; rw [show ((i.toNat : Nat) : Int) = i from by omega, hg]; rfl
        rw [e]; rfl
      · rw [hh] at h; simp at h

end Go.Proofs.YtjnogknjdjphaaaGreat

/-
  The walks of a shelf: sizes, sectors, Check, Config, State, number, access.
-/
namespace Go.Proofs.YtjnogknjdjphaaaGreat
open Dn
attribute [local irreducible] Evs Ev EvT DSpec PSpec CallTo
set_option maxRecDepth 10000

theorem sh_within (n lo hi : Int) : PSpec Tryz.prog 151 [.int .i64 n, .int .i64 lo, .int .i64 hi] (.bool (decide (lo ≤ n ∧ n ≤ hi))) := by
  refine pspec_of mix Tryz.func151 c151_eq rfl rfl fun w F Q S hQ => ?_
  (repeat first|refine Nv.r ?_|refine Jk rfl ?_|(refine JX ?_;conv=>whnf)|(refine JV ?_;(conv=>whnf);show Evs _ _ _ _ _)|refine JJ rfl ?_|refine JK rfl ?_|refine JQ rfl ?_|refine JL rfl rfl ?_|refine JM rfl rfl ?_|refine JN rfl ?_|refine JO rfl ?_|refine JP rfl ?_)
  refine e_brD rfl (fun h1 => ?_) (fun h1 => ?_)
  · (repeat first|refine Nv.r ?_|refine Jk rfl ?_|(refine JX ?_;conv=>whnf)|(refine JV ?_;(conv=>whnf);show Evs _ _ _ _ _)|refine JJ rfl ?_|refine JK rfl ?_|refine JQ rfl ?_|refine JL rfl rfl ?_|refine JM rfl rfl ?_|refine JN rfl ?_|refine JO rfl ?_|refine JP rfl ?_)
    exact f_ret rfl rfl (hQ _ _ _ (congrArg Value.bool (decide_eq_decide.2 (by omega))) S)
  · (repeat first|refine Nv.r ?_|refine Jk rfl ?_|(refine JX ?_;conv=>whnf)|(refine JV ?_;(conv=>whnf);show Evs _ _ _ _ _)|refine JJ rfl ?_|refine JK rfl ?_|refine JQ rfl ?_|refine JL rfl rfl ?_|refine JM rfl rfl ?_|refine JN rfl ?_|refine JO rfl ?_|refine JP rfl ?_)
    exact f_ret rfl rfl (hQ _ _ _ (congrArg Value.bool (decide_eq_false (by omega)).symm) S)

theorem ar_remI (a b : Int) (h : b ≠ 0) : arV .rem (.int .i64 a) (.int .i64 b) = some (.int .i64 (a.tmod b)) := by
  simp only [arV, kEq, cond_true, if_neg h]

theorem sh_check (c : Cfg) : PSpec Tryz.prog 71 [.agg ⟨c.v⟩] (.int .i64 (if c.ok then 0 else 1)) := by
  refine pspec_of mix Tryz.func71 c71_eq rfl rfl fun w F Q S hQ => ?_
  have bad : ¬ c.ok → ∀ {w' L'}, Dn.Sep w' L' F → Q (.int .i64 1) w' := fun h w' L' S => hQ _ _ _ (by rw [if_neg h]) S
  (repeat first|refine Nv.r ?_|refine Jk rfl ?_|(refine JX ?_;conv=>whnf)|(refine JV ?_;(conv=>whnf);show Evs _ _ _ _ _)|refine JJ rfl ?_|refine JK rfl ?_|refine JQ rfl ?_|refine JL rfl rfl ?_|refine JM rfl rfl ?_|refine JN rfl ?_|refine JO rfl ?_|refine JP rfl ?_)
  refine e_bx S rfl fun b w S => ?_
  (repeat first|refine Nv.r ?_|refine Jk rfl ?_|(refine JX ?_;conv=>whnf)|(refine JV ?_;(conv=>whnf);show Evs _ _ _ _ _)|refine JJ rfl ?_|refine JK rfl ?_|refine JQ rfl ?_|refine JL rfl rfl ?_|refine JM rfl rfl ?_|refine JN rfl ?_|refine JO rfl ?_|refine JP rfl ?_)
  refine e_ld (S.cell 0 rfl rfl) ?_
  refine e_cfP (fs := []) (cs := []) rfl (by kernel_rfl) rfl (sh_within c.disks 1 64) S fun w S => ?_
  (repeat first|refine Nv.r ?_|refine Jk rfl ?_|(refine JX ?_;conv=>whnf)|(refine JV ?_;(conv=>whnf);show Evs _ _ _ _ _)|refine JJ rfl ?_|refine JK rfl ?_|refine JQ rfl ?_|refine JL rfl rfl ?_|refine JM rfl rfl ?_|refine JN rfl ?_|refine JO rfl ?_|refine JP rfl ?_)
  refine e_brD rfl (fun h1 => ?_) (fun h1 => ?_)
  rotate_left
  · (repeat first|refine Nv.r ?_|refine Jk rfl ?_|(refine JX ?_;conv=>whnf)|(refine JV ?_;(conv=>whnf);show Evs _ _ _ _ _)|refine JJ rfl ?_|refine JK rfl ?_|refine JQ rfl ?_|refine JL rfl rfl ?_|refine JM rfl rfl ?_|refine JN rfl ?_|refine JO rfl ?_|refine JP rfl ?_)
    exact f_ret rfl rfl (bad (fun h => h1 h.1) S)
  (repeat first|refine Nv.r ?_|refine Jk rfl ?_|(refine JX ?_;conv=>whnf)|(refine JV ?_;(conv=>whnf);show Evs _ _ _ _ _)|refine JJ rfl ?_|refine JK rfl ?_|refine JQ rfl ?_|refine JL rfl rfl ?_|refine JM rfl rfl ?_|refine JN rfl ?_|refine JO rfl ?_|refine JP rfl ?_)
  refine e_ld (S.cell 0 rfl rfl) ?_
  refine e_gdT rfl ?_
  refine e_cfP (fs := []) (cs := []) rfl (by kernel_rfl) rfl (sh_within c.racks 1 8) S fun w S => ?_
  (repeat first|refine Nv.r ?_|refine Jk rfl ?_|(refine JX ?_;conv=>whnf)|(refine JV ?_;(conv=>whnf);show Evs _ _ _ _ _)|refine JJ rfl ?_|refine JK rfl ?_|refine JQ rfl ?_|refine JL rfl rfl ?_|refine JM rfl rfl ?_|refine JN rfl ?_|refine JO rfl ?_|refine JP rfl ?_)
  refine e_brD rfl (fun h2 => ?_) (fun h2 => ?_)
  rotate_left
  · (repeat first|refine Nv.r ?_|refine Jk rfl ?_|(refine JX ?_;conv=>whnf)|(refine JV ?_;(conv=>whnf);show Evs _ _ _ _ _)|refine JJ rfl ?_|refine JK rfl ?_|refine JQ rfl ?_|refine JL rfl rfl ?_|refine JM rfl rfl ?_|refine JN rfl ?_|refine JO rfl ?_|refine JP rfl ?_)
    exact f_ret rfl rfl (bad (fun h => h2 h.2.1) S)
  (repeat first|refine Nv.r ?_|refine Jk rfl ?_|(refine JX ?_;conv=>whnf)|(refine JV ?_;(conv=>whnf);show Evs _ _ _ _ _)|refine JJ rfl ?_|refine JK rfl ?_|refine JQ rfl ?_|refine JL rfl rfl ?_|refine JM rfl rfl ?_|refine JN rfl ?_|refine JO rfl ?_|refine JP rfl ?_)
  refine e_ld (S.cell 0 rfl rfl) ?_
  refine e_gdT rfl ?_
  refine e_cfP (fs := []) (cs := []) rfl (by kernel_rfl) rfl (sh_within c.rows 1 4096) S fun w S => ?_
  (repeat first|refine Nv.r ?_|refine Jk rfl ?_|(refine JX ?_;conv=>whnf)|(refine JV ?_;(conv=>whnf);show Evs _ _ _ _ _)|refine JJ rfl ?_|refine JK rfl ?_|refine JQ rfl ?_|refine JL rfl rfl ?_|refine JM rfl rfl ?_|refine JN rfl ?_|refine JO rfl ?_|refine JP rfl ?_)
  refine e_brN rfl (fun h3 => ?_) (fun h3 => ?_)
  rotate_left
  · (repeat first|refine Nv.r ?_|refine Jk rfl ?_|(refine JX ?_;conv=>whnf)|(refine JV ?_;(conv=>whnf);show Evs _ _ _ _ _)|refine JJ rfl ?_|refine JK rfl ?_|refine JQ rfl ?_|refine JL rfl rfl ?_|refine JM rfl rfl ?_|refine JN rfl ?_|refine JO rfl ?_|refine JP rfl ?_)
    exact f_ret rfl rfl (bad (fun h => h3 h.2.2.1) S)
  (repeat first|refine Nv.r ?_|refine Jk rfl ?_|(refine JX ?_;conv=>whnf)|(refine JV ?_;(conv=>whnf);show Evs _ _ _ _ _)|refine JJ rfl ?_|refine JK rfl ?_|refine JQ rfl ?_|refine JL rfl rfl ?_|refine JM rfl rfl ?_|refine JN rfl ?_|refine JO rfl ?_|refine JP rfl ?_)
  refine e_ld (S.cell 0 rfl rfl) ?_
  (repeat first|refine Nv.r ?_|refine Jk rfl ?_|(refine JX ?_;conv=>whnf)|(refine JV ?_;(conv=>whnf);show Evs _ _ _ _ _)|refine JJ rfl ?_|refine JK rfl ?_|refine JQ rfl ?_|refine JL rfl rfl ?_|refine JM rfl rfl ?_|refine JN rfl ?_|refine JO rfl ?_|refine JP rfl ?_)
  refine e_ld (S.cell 0 rfl rfl) ?_
  refine e_gdT rfl ?_
  refine e_sub rfl rfl (by omega) (by omega) ?_
  refine e_gdT rfl ?_
  refine e_cfP (fs := []) (cs := []) rfl (by kernel_rfl) rfl (sh_within c.spare 0 (c.disks - 1)) S fun w S => ?_
  (repeat first|refine Nv.r ?_|refine Jk rfl ?_|(refine JX ?_;conv=>whnf)|(refine JV ?_;(conv=>whnf);show Evs _ _ _ _ _)|refine JJ rfl ?_|refine JK rfl ?_|refine JQ rfl ?_|refine JL rfl rfl ?_|refine JM rfl rfl ?_|refine JN rfl ?_|refine JO rfl ?_|refine JP rfl ?_)
  refine e_brN rfl (fun h4 => ?_) (fun h4 => ?_)
  rotate_left
  · (repeat first|refine Nv.r ?_|refine Jk rfl ?_|(refine JX ?_;conv=>whnf)|(refine JV ?_;(conv=>whnf);show Evs _ _ _ _ _)|refine JJ rfl ?_|refine JK rfl ?_|refine JQ rfl ?_|refine JL rfl rfl ?_|refine JM rfl rfl ?_|refine JN rfl ?_|refine JO rfl ?_|refine JP rfl ?_)
    exact f_ret rfl rfl (bad (fun h => h4 h.2.2.2.1) S)
  (repeat first|refine Nv.r ?_|refine Jk rfl ?_|(refine JX ?_;conv=>whnf)|(refine JV ?_;(conv=>whnf);show Evs _ _ _ _ _)|refine JJ rfl ?_|refine JK rfl ?_|refine JQ rfl ?_|refine JL rfl rfl ?_|refine JM rfl rfl ?_|refine JN rfl ?_|refine JO rfl ?_|refine JP rfl ?_)
  refine e_ld (S.cell 0 rfl rfl) ?_
  refine e_gdT rfl ?_
  refine e_cfP (fs := []) (cs := []) rfl (by kernel_rfl) rfl (sh_within c.log 1 65536) S fun w S => ?_
  (repeat first|refine Nv.r ?_|refine Jk rfl ?_|(refine JX ?_;conv=>whnf)|(refine JV ?_;(conv=>whnf);show Evs _ _ _ _ _)|refine JJ rfl ?_|refine JK rfl ?_|refine JQ rfl ?_|refine JL rfl rfl ?_|refine JM rfl rfl ?_|refine JN rfl ?_|refine JO rfl ?_|refine JP rfl ?_)
  refine e_brN rfl (fun h5 => ?_) (fun h5 => ?_)
  rotate_left
  · (repeat first|refine Nv.r ?_|refine Jk rfl ?_|(refine JX ?_;conv=>whnf)|(refine JV ?_;(conv=>whnf);show Evs _ _ _ _ _)|refine JJ rfl ?_|refine JK rfl ?_|refine JQ rfl ?_|refine JL rfl rfl ?_|refine JM rfl rfl ?_|refine JN rfl ?_|refine JO rfl ?_|refine JP rfl ?_)
    exact f_ret rfl rfl (bad (fun h => h5 h.2.2.2.2.1) S)
  (repeat first|refine Nv.r ?_|refine Jk rfl ?_|(refine JX ?_;conv=>whnf)|(refine JV ?_;(conv=>whnf);show Evs _ _ _ _ _)|refine JJ rfl ?_|refine JK rfl ?_|refine JQ rfl ?_|refine JL rfl rfl ?_|refine JM rfl rfl ?_|refine JN rfl ?_|refine JO rfl ?_|refine JP rfl ?_)
  refine e_ld (S.cell 0 rfl rfl) ?_
  refine e_gdT rfl ?_
  refine e_cfP (fs := []) (cs := []) rfl (by kernel_rfl) rfl (sh_within c.image 1 65536) S fun w S => ?_
  (repeat first|refine Nv.r ?_|refine Jk rfl ?_|(refine JX ?_;conv=>whnf)|(refine JV ?_;(conv=>whnf);show Evs _ _ _ _ _)|refine JJ rfl ?_|refine JK rfl ?_|refine JQ rfl ?_|refine JL rfl rfl ?_|refine JM rfl rfl ?_|refine JN rfl ?_|refine JO rfl ?_|refine JP rfl ?_)
  refine e_brN rfl (fun h6 => ?_) (fun h6 => ?_)
  rotate_left
  · (repeat first|refine Nv.r ?_|refine Jk rfl ?_|(refine JX ?_;conv=>whnf)|(refine JV ?_;(conv=>whnf);show Evs _ _ _ _ _)|refine JJ rfl ?_|refine JK rfl ?_|refine JQ rfl ?_|refine JL rfl rfl ?_|refine JM rfl rfl ?_|refine JN rfl ?_|refine JO rfl ?_|refine JP rfl ?_)
    exact f_ret rfl rfl (bad (fun h => h6 h.2.2.2.2.2.1) S)
  (repeat first|refine Nv.r ?_|refine Jk rfl ?_|(refine JX ?_;conv=>whnf)|(refine JV ?_;(conv=>whnf);show Evs _ _ _ _ _)|refine JJ rfl ?_|refine JK rfl ?_|refine JQ rfl ?_|refine JL rfl rfl ?_|refine JM rfl rfl ?_|refine JN rfl ?_|refine JO rfl ?_|refine JP rfl ?_)
  refine e_ld (S.cell 0 rfl rfl) ?_
  (repeat first|refine Nv.r ?_|refine Jk rfl ?_|(refine JX ?_;conv=>whnf)|(refine JV ?_;(conv=>whnf);show Evs _ _ _ _ _)|refine JJ rfl ?_|refine JK rfl ?_|refine JQ rfl ?_|refine JL rfl rfl ?_|refine JM rfl rfl ?_|refine JN rfl ?_|refine JO rfl ?_|refine JP rfl ?_)
  refine e_ld (S.cell 0 rfl rfl) ?_
  refine e_gdT rfl ?_
  refine e_arv rfl rfl (ar_remI c.disks c.racks (by omega)) ?_
  refine e_gdT rfl ?_
  refine e_p (cmp_neqD rfl rfl) ?_
  (repeat first|refine Nv.r ?_|refine Jk rfl ?_|(refine JX ?_;conv=>whnf)|(refine JV ?_;(conv=>whnf);show Evs _ _ _ _ _)|refine JJ rfl ?_|refine JK rfl ?_|refine JQ rfl ?_|refine JL rfl rfl ?_|refine JM rfl rfl ?_|refine JN rfl ?_|refine JO rfl ?_|refine JP rfl ?_)
  refine s_iteN rfl (fun h7 => ?_) (fun h7 => ?_)
  · (repeat first|refine Nv.r ?_|refine Jk rfl ?_|(refine JX ?_;conv=>whnf)|(refine JV ?_;(conv=>whnf);show Evs _ _ _ _ _)|refine JJ rfl ?_|refine JK rfl ?_|refine JQ rfl ?_|refine JL rfl rfl ?_|refine JM rfl rfl ?_|refine JN rfl ?_|refine JO rfl ?_|refine JP rfl ?_)
    exact f_ret rfl rfl (bad (fun h => h7 h.2.2.2.2.2.2) S)
  · (repeat first|refine Nv.r ?_|refine Jk rfl ?_|(refine JX ?_;conv=>whnf)|(refine JV ?_;(conv=>whnf);show Evs _ _ _ _ _)|refine JJ rfl ?_|refine JK rfl ?_|refine JQ rfl ?_|refine JL rfl rfl ?_|refine JM rfl rfl ?_|refine JN rfl ?_|refine JO rfl ?_|refine JP rfl ?_)
    exact f_ret rfl rfl (hQ _ _ _ (congrArg (Value.int .i64) (by rw [if_pos ⟨h1, h2, h3, h4, h5, h6, h7⟩])) S)

theorem sh_sizes (c : Cfg) : PSpec Tryz.prog 152 [.agg ⟨c.v⟩] (.agg ⟨c.szs.map (.int .i64)⟩) := by
  refine pspec_of mix Tryz.func152 c152_eq rfl rfl fun w F Q S hQ => ?_
  (repeat first|refine Nv.r ?_|refine Jk rfl ?_|(refine JX ?_;conv=>whnf)|(refine JV ?_;(conv=>whnf);show Evs _ _ _ _ _)|refine JJ rfl ?_|refine JK rfl ?_|refine JQ rfl ?_|refine JL rfl rfl ?_|refine JM rfl rfl ?_|refine JN rfl ?_|refine JO rfl ?_|refine JP rfl ?_)
  refine e_bx S rfl fun b w S => ?_
  refine e_nw S fun r w S => ?_
  (repeat first|refine Nv.r ?_|refine Jk rfl ?_|(refine JX ?_;conv=>whnf)|(refine JV ?_;(conv=>whnf);show Evs _ _ _ _ _)|refine JJ rfl ?_|refine JK rfl ?_|refine JQ rfl ?_|refine JL rfl rfl ?_|refine JM rfl rfl ?_|refine JN rfl ?_|refine JO rfl ?_|refine JP rfl ?_)
  refine e_ld (S.cell 1 rfl rfl) ?_
  (repeat first|refine Nv.r ?_|refine Jk rfl ?_|(refine JX ?_;conv=>whnf)|(refine JV ?_;(conv=>whnf);show Evs _ _ _ _ _)|refine JJ rfl ?_|refine JK rfl ?_|refine JQ rfl ?_|refine JL rfl rfl ?_|refine JM rfl rfl ?_|refine JN rfl ?_|refine JO rfl ?_|refine JP rfl ?_)
  refine e_ld (S.cell 1 rfl rfl) ?_
  (repeat first|refine Nv.r ?_|refine Jk rfl ?_|(refine JX ?_;conv=>whnf)|(refine JV ?_;(conv=>whnf);show Evs _ _ _ _ _)|refine JJ rfl ?_|refine JK rfl ?_|refine JQ rfl ?_|refine JL rfl rfl ?_|refine JM rfl rfl ?_|refine JN rfl ?_|refine JO rfl ?_|refine JP rfl ?_)
  refine e_ld (S.cell 1 rfl rfl) ?_
  (repeat first|refine Nv.r ?_|refine Jk rfl ?_|(refine JX ?_;conv=>whnf)|(refine JV ?_;(conv=>whnf);show Evs _ _ _ _ _)|refine JJ rfl ?_|refine JK rfl ?_|refine JQ rfl ?_|refine JL rfl rfl ?_|refine JM rfl rfl ?_|refine JN rfl ?_|refine JO rfl ?_|refine JP rfl ?_)
  refine e_ld (S.cell 1 rfl rfl) ?_
  (repeat first|refine Nv.r ?_|refine Jk rfl ?_|(refine JX ?_;conv=>whnf)|(refine JV ?_;(conv=>whnf);show Evs _ _ _ _ _)|refine JJ rfl ?_|refine JK rfl ?_|refine JQ rfl ?_|refine JL rfl rfl ?_|refine JM rfl rfl ?_|refine JN rfl ?_|refine JO rfl ?_|refine JP rfl ?_)
  refine e_st (vs := c.szs.map (.int .i64)) S 0 rfl rfl rfl rfl (by simp [Cfg.szs, Value.flat]) (by simp) fun w S => ?_
  (repeat first|refine Nv.r ?_|refine Jk rfl ?_|(refine JX ?_;conv=>whnf)|(refine JV ?_;(conv=>whnf);show Evs _ _ _ _ _)|refine JJ rfl ?_|refine JK rfl ?_|refine JQ rfl ?_|refine JL rfl rfl ?_|refine JM rfl rfl ?_|refine JN rfl ?_|refine JO rfl ?_|refine JP rfl ?_)
  exact f_ret rfl (rvs1 (S.row (vs := c.szs.map (.int .i64)) 0 rfl (by simp [putAt, Cfg.szs]) rfl)) (hQ _ _ _ rfl S)

theorem szs_sum (c : Cfg) (hc : c.ok) (i : Nat) : 0 ≤ (c.szs.take i).sum ∧ (c.szs.take i).sum ≤ 200704 := by
  unfold Cfg.ok at hc
  unfold Cfg.szs
  match i with
  | 0 => simp
  | 1 => simp; omega
  | 2 => simp; omega
  | 3 => simp; omega
  | n + 4 => simp; omega
theorem sum_snoc (l : List Int) (i : Nat) (h : i < l.length) : (l.take (i + 1)).sum = (l.take i).sum + l[i] := by
  rw [List.take_succ_eq_append_getElem h, List.sum_append]; simp

theorem sh_sectors (c : Cfg) (hc : c.ok) : PSpec Tryz.prog 72 [.agg ⟨c.v⟩] (.int .i64 c.total) := by
  refine pspec_of mix Tryz.func72 c72_eq rfl rfl fun w F Q S hQ => ?_
  (repeat first|refine Nv.r ?_|refine Jk rfl ?_|(refine JX ?_;conv=>whnf)|(refine JV ?_;(conv=>whnf);show Evs _ _ _ _ _)|refine JJ rfl ?_|refine JK rfl ?_|refine JQ rfl ?_|refine JL rfl rfl ?_|refine JM rfl rfl ?_|refine JN rfl ?_|refine JO rfl ?_|refine JP rfl ?_)
  refine e_bx S rfl fun b w S => ?_
  (repeat first|refine Nv.r ?_|refine Jk rfl ?_|(refine JX ?_;conv=>whnf)|(refine JV ?_;(conv=>whnf);show Evs _ _ _ _ _)|refine JJ rfl ?_|refine JK rfl ?_|refine JQ rfl ?_|refine JL rfl rfl ?_|refine JM rfl rfl ?_|refine JN rfl ?_|refine JO rfl ?_|refine JP rfl ?_)
  refine e_ld (S.row 0 rfl (by simp [Cfg.v]) rfl) ?_
  refine e_callP rfl (sh_sizes c) S fun w S => ?_
  (repeat first|refine Nv.r ?_|refine Jk rfl ?_|(refine JX ?_;conv=>whnf)|(refine JV ?_;(conv=>whnf);show Evs _ _ _ _ _)|refine JJ rfl ?_|refine JK rfl ?_|refine JQ rfl ?_|refine JL rfl rfl ?_|refine JM rfl rfl ?_|refine JN rfl ?_|refine JO rfl ?_|refine JP rfl ?_)
  refine s_loop (σ := Nat) (fun i => [(8, .int .i64 (i : Int)), (7, .agg ⟨c.szs.map (.int .i64)⟩), (3, .int .i64 (c.szs.take i).sum)]) (fun i w => i ≤ 4 ∧ Dn.Sep w [(b, .cells ⟨c.v⟩ 31)] F) (fun i => 4 - i) 0 ⟨rfl, rfl, rfl, trivial⟩ rfl ⟨by omega, S⟩ ?_
  rintro g i w ⟨hi, S⟩
  simp only [setL]
  (repeat first|refine Nv.r ?_|refine Jk rfl ?_|(refine JX ?_;conv=>whnf)|(refine JV ?_;(conv=>whnf);show Evs _ _ _ _ _)|refine JJ rfl ?_|refine JK rfl ?_|refine JQ rfl ?_|refine JL rfl rfl ?_|refine JM rfl rfl ?_|refine JN rfl ?_|refine JO rfl ?_|refine JP rfl ?_)
  refine s_iteD rfl (fun h => ?_) (fun h => ?_)
  · have hi' : i < c.szs.length := by show i < 4; omega
    (repeat first|refine Nv.r ?_|refine Jk rfl ?_|(refine JX ?_;conv=>whnf)|(refine JV ?_;(conv=>whnf);show Evs _ _ _ _ _)|refine JJ rfl ?_|refine JK rfl ?_|refine JQ rfl ?_|refine JL rfl rfl ?_|refine JM rfl rfl ?_|refine JN rfl ?_|refine JO rfl ?_|refine JP rfl ?_)
    have hcell : ∀ j : Nat, (hj : j < c.szs.length) → (c.szs.map (Value.int .i64))[((j : Nat) : Int).toNat]? = some (.int .i64 c.szs[j]) := by
      intro j hj
      have : ((j : Nat) : Int).toNat = j := by omega
      rw [this]; simp [hj]
    refine e_ixv rfl rfl (by omega) (by show (i : Int) < 4; omega) (hcell i hi') ?_
    (repeat first|refine Nv.r ?_|refine Jk rfl ?_|(refine JX ?_;conv=>whnf)|(refine JV ?_;(conv=>whnf);show Evs _ _ _ _ _)|refine JJ rfl ?_|refine JK rfl ?_|refine JQ rfl ?_|refine JL rfl rfl ?_|refine JM rfl rfl ?_|refine JN rfl ?_|refine JO rfl ?_|refine JP rfl ?_)
    have hs := szs_sum c hc (i + 1)
    rw [sum_snoc c.szs i hi'] at hs
    refine e_add rfl rfl (by omega) (by omega) ?_
    (repeat first|refine Nv.r ?_|refine Jk rfl ?_|(refine JX ?_;conv=>whnf)|(refine JV ?_;(conv=>whnf);show Evs _ _ _ _ _)|refine JJ rfl ?_|refine JK rfl ?_|refine JQ rfl ?_|refine JL rfl rfl ?_|refine JM rfl rfl ?_|refine JN rfl ?_|refine JO rfl ?_|refine JP rfl ?_)
    refine e_add rfl rfl (by omega) (by omega) ?_
    (repeat first|refine Nv.r ?_|refine Jk rfl ?_|(refine JX ?_;conv=>whnf)|(refine JV ?_;(conv=>whnf);show Evs _ _ _ _ _)|refine JJ rfl ?_|refine JK rfl ?_|refine JQ rfl ?_|refine JL rfl rfl ?_|refine JM rfl rfl ?_|refine JN rfl ?_|refine JO rfl ?_|refine JP rfl ?_)
    refine ⟨rfl, i + 1, ⟨rfl, rfl, ?_, trivial⟩, ⟨by omega, S⟩, by omega⟩
    show Value.int .i64 _ = Value.int .i64 _
    rw [sum_snoc c.szs i hi']
  · have hi' : i = 4 := by omega
    subst hi'
    (repeat first|refine Nv.r ?_|refine Jk rfl ?_|(refine JX ?_;conv=>whnf)|(refine JV ?_;(conv=>whnf);show Evs _ _ _ _ _)|refine JJ rfl ?_|refine JK rfl ?_|refine JQ rfl ?_|refine JL rfl rfl ?_|refine JM rfl rfl ?_|refine JN rfl ?_|refine JO rfl ?_|refine JP rfl ?_)
    refine f_ret rfl rfl (hQ _ _ _ (congrArg (Value.int .i64) ?_) S)
    simp [Cfg.szs, Cfg.total]; omega

end Go.Proofs.YtjnogknjdjphaaaGreat

/-
  The walks of a shelf: disk.New, New.
-/
namespace Go.Proofs.YtjnogknjdjphaaaGreat
open Dn
attribute [local irreducible] Evs Ev EvT DSpec PSpec CallTo
set_option maxRecDepth 10000

theorem perm_tail {α : Type} (X Y Z : List α) : ((X ++ Y) ++ Z).Perm ((X ++ Z) ++ Y) := by
  rw [List.append_assoc, List.append_assoc]
  exact (List.Perm.refl _).append List.perm_append_comm

/-- a new disk -/
def DkFresh (D : Dk) (n : Nat) : Prop := D.dur = List.replicate n zsec ∧ D.cache = ⟨[], 0⟩ ∧ D.armed = ⟨[], 0⟩

theorem zsecs (n : Nat) : List.replicate (n * 64) (Value.int .u8 0) = (List.replicate n zsec).flatMap bcells := by
  induction n with
  | zero => rfl
  | succ n ih =>
    rw [List.replicate_succ, List.flatMap_cons, ← ih, Nat.succ_mul, Nat.add_comm, ← List.replicate_append_replicate]
    rfl

theorem disk_new (n : Nat) (hn : n ≤ 65536) : DSpec Tryz.prog 73 [.int .i64 (n : Int)] [] fun v L => ∃ D : Dk, v = D.v ∧ L = D.L ∧ DkFresh D n := by
  refine spec_of mix Tryz.func73 c73_eq rfl rfl fun w F Q S hQ => ?_
  (repeat first|refine Nv.r ?_|refine Jk rfl ?_)
  refine e_mvP rfl ?_
  (repeat first|refine Nv.r ?_|refine Jk rfl ?_)
  refine e_mvI rfl ?_
  refine e_p (v := .int .i64 (n : Int)) ?_ ?_
  · show some (Value.int .i64 (if (0 : Int) > (n : Int) then 0 else (n : Int))) = _
    rw [if_neg (by omega)]
  refine e_p (v := .int .i64 (n : Int)) ?_ ?_
  · show some (Value.int .i64 (if (65536 : Int) < (n : Int) then 65536 else (n : Int))) = _
    rw [if_neg (by omega)]
  refine e_mksl (size := 64) (n := n) (u := .int .u8 0) S rfl rfl Tryz.underlying220 rfl rfl ⟨_, rfl, rfl⟩ (by omega) (by decide) fun b w S => ?_
  refine e_mkmap Dn.encS S fun c w S => ?_
  refine e_mkmap Dn.encI S fun a w S => ?_
  (repeat first|refine Nv.r ?_|refine Jk rfl ?_|(refine JX ?_;conv=>whnf)|(refine JV ?_;(conv=>whnf);show Evs _ _ _ _ _)|refine JJ rfl ?_|refine JK rfl ?_|refine JQ rfl ?_|refine JL rfl rfl ?_|refine JM rfl rfl ?_|refine JN rfl ?_|refine JO rfl ?_|refine JP rfl ?_)
  refine e_bx S rfl fun q w S => ?_
  (repeat first|refine Nv.r ?_|refine Jk rfl ?_|(refine JX ?_;conv=>whnf)|(refine JV ?_;(conv=>whnf);show Evs _ _ _ _ _)|refine JJ rfl ?_|refine JK rfl ?_|refine JQ rfl ?_|refine JL rfl rfl ?_|refine JM rfl rfl ?_|refine JN rfl ?_|refine JO rfl ?_|refine JP rfl ?_)
  rw [zsecs] at S
  have S1 := (((S.mv 1 rfl).mv 2 rfl).mv 3 rfl).mv 3 rfl
  have e : (⟨q, b, c, a, List.replicate n zsec, ⟨[], 0⟩, ⟨[], 0⟩⟩ : Dk).L = [(q, .cells ⟨[.slice (some ⟨b, 0, none⟩) n n, .map (some c), .map (some a)]⟩ 223), (b, .cells ⟨(List.replicate n zsec).flatMap bcells⟩ 244), (c, GM.obj Dn.encS ⟨[], 0⟩), (a, GM.obj Dn.encI ⟨[], 0⟩)] := by
    simp [Dk.L, Dk.hd]
  exact f_ret rfl rfl (hQ _ _ _ ⟨⟨q, b, c, a, List.replicate n zsec, ⟨[], 0⟩, ⟨[], 0⟩⟩, rfl, e.symm, rfl, rfl, rfl⟩ S1)

theorem rowOf_at {w : World} {L : List (Nat × Obj)} {F : Fr} (S : Dn.Sep w L F) {b off ty n : Nat} {cs vs : List Value} {fr : Nat × Nat} (h : (b, .cells ⟨cs⟩ ty fr) ∈ L) (hn : off + n ≤ cs.length) (hv : (cs.drop off).take n = vs) : rowOf w ⟨b, off, none⟩ n = some vs := by
  have := S.at_ _ _ h
  simp [rowOf, this, hn, hv]

/-- a new shelf -/
structure ShFresh (s : Sh) (c : Cfg) : Prop where
  cfg : s.cfg = c
  len : (s.bays.length : Int) = c.disks
  bay : ∀ b ∈ s.bays, b.2 = 1 ∧ DkFresh b.1 c.total.toNat
  off : s.off = false
  fused : s.fused = false
  left : s.left = 0

theorem sh_new (c : Cfg) : DSpec Tryz.prog 16 [.agg ⟨c.v⟩] [] fun v L =>
    if c.ok then (if c.total > 65536 then v = .tuple ⟨[.pointer none, .int .i64 2]⟩ ∧ L = [] else ∃ s : Sh, v = .tuple ⟨[s.v, .int .i64 0]⟩ ∧ L = s.L ∧ ShFresh s c)
    else v = .tuple ⟨[.pointer none, .int .i64 1]⟩ ∧ L = [] := by
  refine spec_of mix Tryz.func16 c16_eq rfl rfl fun w F Q S hQ => ?_
  have hchk := sh_check c
  (repeat first|refine Nv.r ?_|refine Jk rfl ?_|(refine JX ?_;conv=>whnf)|(refine JV ?_;(conv=>whnf);show Evs _ _ _ _ _)|refine JJ rfl ?_|refine JK rfl ?_|refine JQ rfl ?_|refine JL rfl rfl ?_|refine JM rfl rfl ?_|refine JN rfl ?_|refine JO rfl ?_|refine JP rfl ?_)
  refine e_bx S rfl fun b1 w S => ?_
  (repeat first|refine Nv.r ?_|refine Jk rfl ?_|(refine JX ?_;conv=>whnf)|(refine JV ?_;(conv=>whnf);show Evs _ _ _ _ _)|refine JJ rfl ?_|refine JK rfl ?_|refine JQ rfl ?_|refine JL rfl rfl ?_|refine JM rfl rfl ?_|refine JN rfl ?_|refine JO rfl ?_|refine JP rfl ?_)
  refine e_ld (S.row 0 rfl (by simp [Cfg.v]) rfl) ?_
  by_cases hc : c.ok
  case neg =>
    rw [if_neg hc] at hchk
    refine e_callP rfl hchk S fun w S => ?_
    (repeat first|refine Nv.r ?_|refine Jk rfl ?_|(refine JX ?_;conv=>whnf)|(refine JV ?_;(conv=>whnf);show Evs _ _ _ _ _)|refine JJ rfl ?_|refine JK rfl ?_|refine JQ rfl ?_|refine JL rfl rfl ?_|refine JM rfl rfl ?_|refine JN rfl ?_|refine JO rfl ?_|refine JP rfl ?_)
    exact f_ret rfl rfl (hQ _ _ _ (by rw [if_neg hc]; exact ⟨rfl, rfl⟩) (S.drop (L2 := [_])))
  rw [if_pos hc] at hchk
  simp only [if_pos hc] at hQ
  refine e_callP rfl hchk S fun w S => ?_
  (repeat first|refine Nv.r ?_|refine Jk rfl ?_|(refine JX ?_;conv=>whnf)|(refine JV ?_;(conv=>whnf);show Evs _ _ _ _ _)|refine JJ rfl ?_|refine JK rfl ?_|refine JQ rfl ?_|refine JL rfl rfl ?_|refine JM rfl rfl ?_|refine JN rfl ?_|refine JO rfl ?_|refine JP rfl ?_)
  refine e_ld (S.row 0 rfl (by simp [Cfg.v]) rfl) ?_
  refine e_callP rfl (sh_sectors c hc) S fun w S => ?_
  (repeat first|refine Nv.r ?_|refine Jk rfl ?_|(refine JX ?_;conv=>whnf)|(refine JV ?_;(conv=>whnf);show Evs _ _ _ _ _)|refine JJ rfl ?_|refine JK rfl ?_|refine JQ rfl ?_|refine JL rfl rfl ?_|refine JM rfl rfl ?_|refine JN rfl ?_|refine JO rfl ?_|refine JP rfl ?_)
  refine s_iteD rfl (fun h' => ?_) (fun h' => ?_)
  · (repeat first|refine Nv.r ?_|refine Jk rfl ?_|(refine JX ?_;conv=>whnf)|(refine JV ?_;(conv=>whnf);show Evs _ _ _ _ _)|refine JJ rfl ?_|refine JK rfl ?_|refine JQ rfl ?_|refine JL rfl rfl ?_|refine JM rfl rfl ?_|refine JN rfl ?_|refine JO rfl ?_|refine JP rfl ?_)
    exact f_ret rfl rfl (hQ _ _ _ (by rw [if_pos h']; exact ⟨rfl, rfl⟩) (S.drop (L2 := [_])))
  have hc' := hc
  unfold Cfg.ok at hc'
  (repeat first|refine Nv.r ?_|refine Jk rfl ?_|(refine JX ?_;conv=>whnf)|(refine JV ?_;(conv=>whnf);show Evs _ _ _ _ _)|refine JJ rfl ?_|refine JK rfl ?_|refine JQ rfl ?_|refine JL rfl rfl ?_|refine JM rfl rfl ?_|refine JN rfl ?_|refine JO rfl ?_|refine JP rfl ?_)
  refine e_ld (v := .agg ⟨c.v⟩) (S.row 0 rfl (by simp [Cfg.v]) rfl) ?_
  refine e_p (v := .agg ⟨c.v ++ [.slice none 0 0, .slice none 0 0, .bool false, .bool false, .int .i64 0]⟩) rfl ?_
  refine e_bx S rfl fun q w S => ?_
  (repeat first|refine Nv.r ?_|refine Jk rfl ?_|(refine JX ?_;conv=>whnf)|(refine JV ?_;(conv=>whnf);show Evs _ _ _ _ _)|refine JJ rfl ?_|refine JK rfl ?_|refine JQ rfl ?_|refine JL rfl rfl ?_|refine JM rfl rfl ?_|refine JN rfl ?_|refine JO rfl ?_|refine JP rfl ?_)
  refine e_ld (S.cell 1 rfl rfl) ?_
  (repeat first|refine Nv.r ?_|refine Jk rfl ?_|(refine JX ?_;conv=>whnf)|(refine JV ?_;(conv=>whnf);show Evs _ _ _ _ _)|refine JJ rfl ?_|refine JK rfl ?_|refine JQ rfl ?_|refine JL rfl rfl ?_|refine JM rfl rfl ?_|refine JN rfl ?_|refine JO rfl ?_|refine JP rfl ?_)
  refine s_loop (σ := List (Dk × Int) × Option Addr × Nat × List (Nat × Obj)) (fun t => [(16, .int .i64 (t.1.length : Int)), (15, .int .i64 c.disks), (1, .pointer (some ⟨b1, 0, none⟩)), (4, .pointer (some ⟨q, 0, none⟩))])
    (fun t w => (t.1.length : Int) ≤ c.disks ∧ (∀ b ∈ t.1, b.2 = 1 ∧ DkFresh b.1 c.total.toNat) ∧ OwnS 147 2 t.2.1 t.1.length t.2.2.1 (t.1.flatMap bayV) t.2.2.2 ∧
      Dn.Sep w (((q, .cells ⟨c.v ++ [.slice t.2.1 t.1.length t.2.2.1, .slice none 0 0, .bool false, .bool false, .int .i64 0]⟩ 143) :: (b1, .cells ⟨c.v⟩ 31) :: t.1.flatMap (·.1.L)) ++ t.2.2.2) F)
    (fun t => 64 - t.1.length) ([], none, 0, []) ⟨rfl, rfl, rfl, rfl, trivial⟩ rfl ⟨by simp; omega, by simp, OwnS.nil, by simpa using S⟩ ?_
  rintro g ⟨bs, ad, cap, Lb⟩ w ⟨hlen, hbs, hO, S⟩
  simp only [setL] at hlen hbs hO S ⊢
  (repeat first|refine Nv.r ?_|refine Jk rfl ?_|(refine JX ?_;conv=>whnf)|(refine JV ?_;(conv=>whnf);show Evs _ _ _ _ _)|refine JJ rfl ?_|refine JK rfl ?_|refine JQ rfl ?_|refine JL rfl rfl ?_|refine JM rfl rfl ?_|refine JN rfl ?_|refine JO rfl ?_|refine JP rfl ?_)
  refine s_iteD rfl (fun h => ?_) (fun h => ?_)
  · (repeat first|refine Nv.r ?_|refine Jk rfl ?_)
    replace S := S.drew
    (repeat first|refine Nv.r ?_|refine Jk rfl ?_|(refine JX ?_;conv=>whnf)|(refine JV ?_;(conv=>whnf);show Evs _ _ _ _ _)|refine JJ rfl ?_|refine JK rfl ?_|refine JQ rfl ?_|refine JL rfl rfl ?_|refine JM rfl rfl ?_|refine JN rfl ?_|refine JO rfl ?_|refine JP rfl ?_)
    refine e_ld (v := .agg ⟨c.v⟩) (S.row 1 rfl (by simp [Cfg.v]) rfl) ?_
    (repeat first|refine Nv.r ?_|refine Jk rfl ?_|(refine JX ?_;conv=>whnf)|(refine JV ?_;(conv=>whnf);show Evs _ _ _ _ _)|refine JJ rfl ?_|refine JK rfl ?_|refine JQ rfl ?_|refine JL rfl rfl ?_|refine JM rfl rfl ?_|refine JN rfl ?_|refine JO rfl ?_|refine JP rfl ?_)
    have hnew := disk_new c.total.toNat (by omega)
    have htot : 0 ≤ c.total := by unfold Cfg.total; omega
    rw [show ((c.total.toNat : Nat) : Int) = c.total by omega] at hnew
    repeat' first
      | (with_reducible refine t_alt ?_ ?_)
      | (refine e_ld (S.cell 0 rfl rfl) ?_)
      | (refine e_callP rfl (sh_sectors c hc) S fun w S => ?_)
      | (refine e_callN rfl hnew S ?_
         rintro _ _ w ⟨D, rfl, rfl, hD⟩ S
         replace S := S.perm (perm_tail _ _ _))
      | (refine e_p (v := .agg ⟨[D.v, .int .i64 1]⟩) rfl ?_)
      | (refine e_bsl (size := 2) (xs := bayV (D, 1)) S Tryz.underlying140 rfl rfl ⟨_, rfl⟩ (by omega) (by omega) (fun zs hz => (match zs, hz with | [u, v], _ => rfl)) fun b27 w S => ?_
         replace S := S.perm (perm_tail _ _ _))
      | (first|refine Nv.r ?_|refine Jk rfl ?_|(refine JX ?_;conv=>whnf)|(refine JV ?_;(conv=>whnf);show Evs _ _ _ _ _)|refine JJ rfl ?_|refine JK rfl ?_|refine JQ rfl ?_|refine JL rfl rfl ?_|refine JM rfl rfl ?_|refine JN rfl ?_|refine JO rfl ?_|refine JP rfl ?_)
    all_goals
      refine e_app (size := 2) (k := 1) (ys := bayV (D, 1)) (z := .agg #[.pointer none, .int .i64 0]) S hO rfl (src_row Tryz.underlying140 (rowOf_at S (ty := 147) (fr := (0, 0)) (cs := bayV (D, 1)) (by simp) (by simp [bayV]) rfl) (by simp [bayV, Dk.v, Value.flat])) Tryz.underlying140 rfl rfl rfl rfl (by show (bs.length + 1) * 16 ≤ _; omega) (by omega) fun ad' cap' Lb' w hO' S => ?_
      (repeat first|refine Nv.r ?_|refine Jk rfl ?_|(refine JX ?_;conv=>whnf)|(refine JV ?_;(conv=>whnf);show Evs _ _ _ _ _)|refine JJ rfl ?_|refine JK rfl ?_|refine JQ rfl ?_|refine JL rfl rfl ?_|refine JM rfl rfl ?_|refine JN rfl ?_|refine JO rfl ?_|refine JP rfl ?_)
      refine e_st (vs := [.slice ad' (bs.length + 1) cap']) S 0 rfl rfl rfl rfl (by simp [Value.flat]) (by simp [Cfg.v]) fun w S => ?_
      (repeat first|refine Nv.r ?_|refine Jk rfl ?_|(refine JX ?_;conv=>whnf)|(refine JV ?_;(conv=>whnf);show Evs _ _ _ _ _)|refine JJ rfl ?_|refine JK rfl ?_|refine JQ rfl ?_|refine JL rfl rfl ?_|refine JM rfl rfl ?_|refine JN rfl ?_|refine JO rfl ?_|refine JP rfl ?_)
      refine e_add rfl rfl (by omega) (by omega) ?_
      (repeat first|refine Nv.r ?_|refine Jk rfl ?_|(refine JX ?_;conv=>whnf)|(refine JV ?_;(conv=>whnf);show Evs _ _ _ _ _)|refine JJ rfl ?_|refine JK rfl ?_|refine JQ rfl ?_|refine JL rfl rfl ?_|refine JM rfl rfl ?_|refine JN rfl ?_|refine JO rfl ?_|refine JP rfl ?_)
      refine ⟨rfl, (bs ++ [(D, 1)], ad', cap', Lb'), ⟨?_, rfl, rfl, rfl, trivial⟩, ⟨by simp; omega, ?_, ?_, ?_⟩, by simp; omega⟩
      · show Value.int .i64 _ = Value.int .i64 _
        simp
      · intro b hb
        rcases List.mem_append.1 hb with hb | hb
        · exact hbs b hb
        · simp only [List.mem_singleton] at hb; subst hb; exact ⟨rfl, hD⟩
      · simpa [List.flatMap_append] using hO'
      · have el : (bs ++ [(D, (1 : Int))]).length = bs.length + 1 := by simp
        simp only [el]
        refine Sep.drop (L2 := [(b27, .cells ⟨bayV (D, 1)⟩ 147)]) (S.perm ?_)
        refine List.Perm.trans (List.Perm.of_eq ?_) (List.perm_middle (l₁ := (q, Obj.cells ⟨c.v ++ [.slice ad' (bs.length + 1) cap', .slice none 0 0, .bool false, .bool false, .int .i64 0]⟩ 143) :: (b1, Obj.cells ⟨c.v⟩ 31) :: (bs ++ [(D, (1 : Int))]).flatMap (fun b : Dk × Int => b.1.L)))
        simp [putAt, Cfg.v, List.flatMap_append]
  · have hlen' : (bs.length : Int) = c.disks := by omega
    (repeat first|refine Nv.r ?_|refine Jk rfl ?_|(refine JX ?_;conv=>whnf)|(refine JV ?_;(conv=>whnf);show Evs _ _ _ _ _)|refine JJ rfl ?_|refine JK rfl ?_|refine JQ rfl ?_|refine JL rfl rfl ?_|refine JM rfl rfl ?_|refine JN rfl ?_|refine JO rfl ?_|refine JP rfl ?_)
    rcases hO.own with ⟨_, hcap, _⟩ | ⟨bb, sp, lo, hi, rfl, hsp, hfr, rfl⟩
    · have := hO.le; omega
    · have S1 : Dn.Sep w ((q, Obj.cells ⟨c.v ++ [.slice (some ⟨bb, 0, none⟩) bs.length cap, .slice none 0 0, .bool false, .bool false, .int .i64 0]⟩ 143) :: (bb, Obj.cells ⟨bs.flatMap bayV ++ sp⟩ 147 (lo, hi)) :: bs.flatMap (·.1.L)) F :=
        (Sep.drop (L2 := [(b1, Obj.cells ⟨c.v⟩ 31)]) (S.mv 1 rfl)).perm ((List.perm_append_singleton _ _).cons _)
      refine f_ret rfl rfl (hQ _ _ _ ?_ S1)
      rw [if_neg h']
      exact ⟨⟨q, bb, cap, sp, (lo, hi), c, bs, false, false, 0⟩, rfl, rfl, ⟨rfl, hlen', hbs, rfl, rfl, rfl⟩⟩

end Go.Proofs.YtjnogknjdjphaaaGreat

/-
  The walks of a shelf: Config, State, number, access, step, Write, Read.
-/
namespace Go.Proofs.YtjnogknjdjphaaaGreat
open Dn
attribute [local irreducible] Evs Ev EvT DSpec PSpec CallTo
set_option maxRecDepth 10000

theorem sh_config (s : Sh) : DSpec Tryz.prog 74 [s.v] s.L fun v L => v = .agg ⟨s.cfg.v⟩ ∧ L = s.L := by
  refine spec_of mix Tryz.func74 c74_eq rfl rfl fun w F Q S hQ => ?_
  (repeat first|refine Nv.r ?_|refine Jk rfl ?_|(refine JX ?_;conv=>whnf)|(refine JV ?_;(conv=>whnf);show Evs _ _ _ _ _)|refine JJ rfl ?_|refine JK rfl ?_|refine JQ rfl ?_|refine JL rfl rfl ?_|refine JM rfl rfl ?_|refine JN rfl ?_|refine JO rfl ?_|refine JP rfl ?_)
  refine e_nw S fun r w S => ?_
  (repeat first|refine Nv.r ?_|refine Jk rfl ?_|(refine JX ?_;conv=>whnf)|(refine JV ?_;(conv=>whnf);show Evs _ _ _ _ _)|refine JJ rfl ?_|refine JK rfl ?_|refine JQ rfl ?_|refine JL rfl rfl ?_|refine JM rfl rfl ?_|refine JN rfl ?_|refine JO rfl ?_|refine JP rfl ?_)
  refine e_ld (v := .agg ⟨s.cfg.v⟩) (S.row 1 rfl (by simp [Sh.hd, Cfg.v]) rfl) ?_
  refine e_st (vs := s.cfg.v) S 0 rfl rfl rfl rfl (by simp [Cfg.v, Value.flat]) (by simp) fun w S => ?_
  (repeat first|refine Nv.r ?_|refine Jk rfl ?_|(refine JX ?_;conv=>whnf)|(refine JV ?_;(conv=>whnf);show Evs _ _ _ _ _)|refine JJ rfl ?_|refine JK rfl ?_|refine JQ rfl ?_|refine JL rfl rfl ?_|refine JM rfl rfl ?_|refine JN rfl ?_|refine JO rfl ?_|refine JP rfl ?_)
  exact f_end rfl (rvs1 (S.row (vs := s.cfg.v) 0 rfl (by simp [putAt, Cfg.v]) rfl)) (hQ _ _ _ ⟨rfl, rfl⟩ (Sep.drop (L2 := [_]) S))

theorem sh_state (s : Sh) (d : Int) : DSpec Tryz.prog 62 [s.v, .int .i64 d] s.L fun v L => v = .int .i64 (s.state d) ∧ L = s.L := by
  refine spec_of mix Tryz.func62 c62_eq rfl rfl fun w F Q S hQ => ?_
  (repeat first|refine Nv.r ?_|refine Jk rfl ?_|(refine JX ?_;conv=>whnf)|(refine JV ?_;(conv=>whnf);show Evs _ _ _ _ _)|refine JJ rfl ?_|refine JK rfl ?_|refine JQ rfl ?_|refine JL rfl rfl ?_|refine JM rfl rfl ?_|refine JN rfl ?_|refine JO rfl ?_|refine JP rfl ?_)
  refine e_brD rfl (fun h => ?_) (fun h => ?_)
  · (repeat first|refine Nv.r ?_|refine Jk rfl ?_|(refine JX ?_;conv=>whnf)|(refine JV ?_;(conv=>whnf);show Evs _ _ _ _ _)|refine JJ rfl ?_|refine JK rfl ?_|refine JQ rfl ?_|refine JL rfl rfl ?_|refine JM rfl rfl ?_|refine JN rfl ?_|refine JO rfl ?_|refine JP rfl ?_)
    refine f_ret rfl rfl (hQ _ _ _ ⟨congrArg (Value.int .i64) ?_, rfl⟩ S)
    unfold Sh.state; rw [if_pos (.inl h)]
  (repeat first|refine Nv.r ?_|refine Jk rfl ?_|(refine JX ?_;conv=>whnf)|(refine JV ?_;(conv=>whnf);show Evs _ _ _ _ _)|refine JJ rfl ?_|refine JK rfl ?_|refine JQ rfl ?_|refine JL rfl rfl ?_|refine JM rfl rfl ?_|refine JN rfl ?_|refine JO rfl ?_|refine JP rfl ?_)
  refine e_ld (S.cell 0 rfl rfl) ?_
  (repeat first|refine Nv.r ?_|refine Jk rfl ?_|(refine JX ?_;conv=>whnf)|(refine JV ?_;(conv=>whnf);show Evs _ _ _ _ _)|refine JJ rfl ?_|refine JK rfl ?_|refine JQ rfl ?_|refine JL rfl rfl ?_|refine JM rfl rfl ?_|refine JN rfl ?_|refine JO rfl ?_|refine JP rfl ?_)
  refine s_iteD rfl (fun h2 => ?_) (fun h2 => ?_)
  · (repeat first|refine Nv.r ?_|refine Jk rfl ?_|(refine JX ?_;conv=>whnf)|(refine JV ?_;(conv=>whnf);show Evs _ _ _ _ _)|refine JJ rfl ?_|refine JK rfl ?_|refine JQ rfl ?_|refine JL rfl rfl ?_|refine JM rfl rfl ?_|refine JN rfl ?_|refine JO rfl ?_|refine JP rfl ?_)
    refine f_ret rfl rfl (hQ _ _ _ ⟨congrArg (Value.int .i64) ?_, rfl⟩ S)
    unfold Sh.state; rw [if_pos (.inr h2)]
  (repeat first|refine Nv.r ?_|refine Jk rfl ?_|(refine JX ?_;conv=>whnf)|(refine JV ?_;(conv=>whnf);show Evs _ _ _ _ _)|refine JJ rfl ?_|refine JK rfl ?_|refine JQ rfl ?_|refine JL rfl rfl ?_|refine JM rfl rfl ?_|refine JN rfl ?_|refine JO rfl ?_|refine JP rfl ?_)
  refine e_ld (S.cell 0 rfl rfl) ?_
  (repeat first|refine Nv.r ?_|refine Jk rfl ?_|(refine JX ?_;conv=>whnf)|(refine JV ?_;(conv=>whnf);show Evs _ _ _ _ _)|refine JJ rfl ?_|refine JK rfl ?_|refine JQ rfl ?_|refine JL rfl rfl ?_|refine JM rfl rfl ?_|refine JN rfl ?_|refine JO rfl ?_|refine JP rfl ?_)
  obtain ⟨b, hb⟩ : ∃ b, s.bays[d.toNat]? = some b := ⟨_, List.getElem?_eq_getElem (by omega)⟩
  refine e_ixa rfl rfl (by omega) (by omega) ?_
  (repeat first|refine Nv.r ?_|refine Jk rfl ?_|(refine JX ?_;conv=>whnf)|(refine JV ?_;(conv=>whnf);show Evs _ _ _ _ _)|refine JJ rfl ?_|refine JK rfl ?_|refine JQ rfl ?_|refine JL rfl rfl ?_|refine JM rfl rfl ?_|refine JN rfl ?_|refine JO rfl ?_|refine JP rfl ?_)
  have hcell := (bay_at s.bays d.toNat b s.sp hb).2.1
  refine e_ld (S.cell 1 rfl (by rw [show 0 + d.toNat * 2 + 1 = d.toNat * 2 + 1 by omega]; exact hcell)) ?_
  (repeat first|refine Nv.r ?_|refine Jk rfl ?_|(refine JX ?_;conv=>whnf)|(refine JV ?_;(conv=>whnf);show Evs _ _ _ _ _)|refine JJ rfl ?_|refine JK rfl ?_|refine JQ rfl ?_|refine JL rfl rfl ?_|refine JM rfl rfl ?_|refine JN rfl ?_|refine JO rfl ?_|refine JP rfl ?_)
  refine f_ret rfl rfl (hQ _ _ _ ⟨congrArg (Value.int .i64) ?_, rfl⟩ S)
  unfold Sh.state; rw [if_neg (by omega), hb]; rfl

theorem szs_get (c : Cfg) (i : Nat) (h : i < 4) : (c.szs.map (Value.int .i64))[i]? = some (.int .i64 (c.szs.getD i 0)) := by
  match i, h with
  | 0, _ => rfl
  | 1, _ => rfl
  | 2, _ => rfl
  | 3, _ => rfl

theorem sh_number (s : Sh) (p : Pl) (hc : s.cfg.ok) : DSpec Tryz.prog 162 [s.v, .agg ⟨p.v⟩] s.L fun v L => v = .int .i64 (s.num p) ∧ L = s.L := by
  refine spec_of mix Tryz.func162 c162_eq rfl rfl fun w F Q S hQ => ?_
  have hc' := hc
  unfold Cfg.ok at hc'
  have bad : s.num p = -1 → ∀ {w' L'}, Dn.Sep w' (L' ++ s.L) F → Q (.int .i64 (-1)) w' := fun h w' L' S => hQ _ _ _ ⟨by rw [h], rfl⟩ S.drop
  (repeat first|refine Nv.r ?_|refine Jk rfl ?_|(refine JX ?_;conv=>whnf)|(refine JV ?_;(conv=>whnf);show Evs _ _ _ _ _)|refine JJ rfl ?_|refine JK rfl ?_|refine JQ rfl ?_|refine JL rfl rfl ?_|refine JM rfl rfl ?_|refine JN rfl ?_|refine JO rfl ?_|refine JP rfl ?_)
  refine e_bx S rfl fun b3 w S => ?_
  (repeat first|refine Nv.r ?_|refine Jk rfl ?_|(refine JX ?_;conv=>whnf)|(refine JV ?_;(conv=>whnf);show Evs _ _ _ _ _)|refine JJ rfl ?_|refine JK rfl ?_|refine JQ rfl ?_|refine JL rfl rfl ?_|refine JM rfl rfl ?_|refine JN rfl ?_|refine JO rfl ?_|refine JP rfl ?_)
  refine e_ld (S.cell 0 rfl rfl) ?_
  refine e_call (L2 := [_]) rfl (sh_state s p.disk) S ?_
  rintro _ _ w ⟨rfl, rfl⟩ S
  refine e_p (cmp_eqlD rfl rfl) ?_
  refine e_mvB rfl ?_
  refine e_brD rfl (fun h1 => ?_) (fun h1 => ?_)
  · (repeat first|refine Nv.r ?_|refine Jk rfl ?_|(refine JX ?_;conv=>whnf)|(refine JV ?_;(conv=>whnf);show Evs _ _ _ _ _)|refine JJ rfl ?_|refine JK rfl ?_|refine JQ rfl ?_|refine JL rfl rfl ?_|refine JM rfl rfl ?_|refine JN rfl ?_|refine JO rfl ?_|refine JP rfl ?_)
    exact f_ret rfl rfl (bad (by unfold Sh.num; rw [if_pos (.inl h1)]) (L' := [_]) S)
  (repeat first|refine Nv.r ?_|refine Jk rfl ?_|(refine JX ?_;conv=>whnf)|(refine JV ?_;(conv=>whnf);show Evs _ _ _ _ _)|refine JJ rfl ?_|refine JK rfl ?_|refine JQ rfl ?_|refine JL rfl rfl ?_|refine JM rfl rfl ?_|refine JN rfl ?_|refine JO rfl ?_|refine JP rfl ?_)
  refine e_ld (S.cell 0 rfl rfl) ?_
  (repeat first|refine Nv.r ?_|refine Jk rfl ?_|(refine JX ?_;conv=>whnf)|(refine JV ?_;(conv=>whnf);show Evs _ _ _ _ _)|refine JJ rfl ?_|refine JK rfl ?_|refine JQ rfl ?_|refine JL rfl rfl ?_|refine JM rfl rfl ?_|refine JN rfl ?_|refine JO rfl ?_|refine JP rfl ?_)
  refine e_brD rfl (fun h2 => ?_) (fun h2 => ?_)
  · (repeat first|refine Nv.r ?_|refine Jk rfl ?_|(refine JX ?_;conv=>whnf)|(refine JV ?_;(conv=>whnf);show Evs _ _ _ _ _)|refine JJ rfl ?_|refine JK rfl ?_|refine JQ rfl ?_|refine JL rfl rfl ?_|refine JM rfl rfl ?_|refine JN rfl ?_|refine JO rfl ?_|refine JP rfl ?_)
    exact f_ret rfl rfl (bad (by unfold Sh.num; rw [if_pos (.inr (.inl h2))]) (L' := [_]) S)
  (repeat first|refine Nv.r ?_|refine Jk rfl ?_|(refine JX ?_;conv=>whnf)|(refine JV ?_;(conv=>whnf);show Evs _ _ _ _ _)|refine JJ rfl ?_|refine JK rfl ?_|refine JQ rfl ?_|refine JL rfl rfl ?_|refine JM rfl rfl ?_|refine JN rfl ?_|refine JO rfl ?_|refine JP rfl ?_)
  refine e_ld (S.cell 0 rfl rfl) ?_
  (repeat first|refine Nv.r ?_|refine Jk rfl ?_|(refine JX ?_;conv=>whnf)|(refine JV ?_;(conv=>whnf);show Evs _ _ _ _ _)|refine JJ rfl ?_|refine JK rfl ?_|refine JQ rfl ?_|refine JL rfl rfl ?_|refine JM rfl rfl ?_|refine JN rfl ?_|refine JO rfl ?_|refine JP rfl ?_)
  refine s_iteD rfl (fun h3 => ?_) (fun h3 => ?_)
  · (repeat first|refine Nv.r ?_|refine Jk rfl ?_|(refine JX ?_;conv=>whnf)|(refine JV ?_;(conv=>whnf);show Evs _ _ _ _ _)|refine JJ rfl ?_|refine JK rfl ?_|refine JQ rfl ?_|refine JL rfl rfl ?_|refine JM rfl rfl ?_|refine JN rfl ?_|refine JO rfl ?_|refine JP rfl ?_)
    exact f_ret rfl rfl (bad (by unfold Sh.num; rw [if_pos (.inr (.inr h3))]) (L' := [_]) S)
  (repeat first|refine Nv.r ?_|refine Jk rfl ?_|(refine JX ?_;conv=>whnf)|(refine JV ?_;(conv=>whnf);show Evs _ _ _ _ _)|refine JJ rfl ?_|refine JK rfl ?_|refine JQ rfl ?_|refine JL rfl rfl ?_|refine JM rfl rfl ?_|refine JN rfl ?_|refine JO rfl ?_|refine JP rfl ?_)
  refine e_ld (v := .agg ⟨s.cfg.v⟩) (S.row 1 rfl (by simp [Sh.hd, Cfg.v]) rfl) ?_
  refine e_callP rfl (sh_sizes s.cfg) S fun w S => ?_
  refine e_nw S fun b5 w S => ?_
  refine e_st (vs := s.cfg.szs.map (.int .i64)) S 0 rfl rfl rfl rfl (by simp [Cfg.szs, Value.flat]) (by simp) fun w S => ?_
  have hput : putAt [Value.int .i64 0, .int .i64 0, .int .i64 0, .int .i64 0] 0 (s.cfg.szs.map (.int .i64)) = s.cfg.szs.map (.int .i64) := putAt_all rfl
  rw [hput] at S
  (repeat first|refine Nv.r ?_|refine Jk rfl ?_)
  refine s_opsd ?_
  replace S := S.drew
  (repeat first|refine Nv.r ?_|refine Jk rfl ?_|(refine JX ?_;conv=>whnf)|(refine JV ?_;(conv=>whnf);show Evs _ _ _ _ _)|refine JJ rfl ?_|refine JK rfl ?_|refine JQ rfl ?_|refine JL rfl rfl ?_|refine JM rfl rfl ?_|refine JN rfl ?_|refine JO rfl ?_|refine JP rfl ?_)
  refine e_ld (S.cell 1 rfl rfl) ?_
  (repeat first|refine Nv.r ?_|refine Jk rfl ?_|(refine JX ?_;conv=>whnf)|(refine JV ?_;(conv=>whnf);show Evs _ _ _ _ _)|refine JJ rfl ?_|refine JK rfl ?_|refine JQ rfl ?_|refine JL rfl rfl ?_|refine JM rfl rfl ?_|refine JN rfl ?_|refine JO rfl ?_|refine JP rfl ?_)
  obtain ⟨ar, har⟩ : ∃ ar : Nat, p.area = ar + 1 := ⟨(p.area - 1).toNat, by omega⟩
  have har2 : (p.area - 1).toNat = ar := by omega
  have numE : s.num p = if p.index < 0 ∨ p.index ≥ s.cfg.szs.getD ar 0 then -1 else p.index + (s.cfg.szs.take ar).sum := by
    unfold Sh.num; rw [if_neg (by omega), har2]
  refine e_brD rfl (fun h4 => ?_) (fun h4 => ?_)
  · (repeat first|refine Nv.r ?_|refine Jk rfl ?_|(refine JX ?_;conv=>whnf)|(refine JV ?_;(conv=>whnf);show Evs _ _ _ _ _)|refine JJ rfl ?_|refine JK rfl ?_|refine JQ rfl ?_|refine JL rfl rfl ?_|refine JM rfl rfl ?_|refine JN rfl ?_|refine JO rfl ?_|refine JP rfl ?_)
    exact f_ret rfl rfl (bad (by rw [numE, if_pos (.inl h4)]) (L' := [_, _]) S)
  (repeat first|refine Nv.r ?_|refine Jk rfl ?_|(refine JX ?_;conv=>whnf)|(refine JV ?_;(conv=>whnf);show Evs _ _ _ _ _)|refine JJ rfl ?_|refine JK rfl ?_|refine JQ rfl ?_|refine JL rfl rfl ?_|refine JM rfl rfl ?_|refine JN rfl ?_|refine JO rfl ?_|refine JP rfl ?_)
  refine e_ld (S.cell 1 rfl rfl) ?_
  (repeat first|refine Nv.r ?_|refine Jk rfl ?_|(refine JX ?_;conv=>whnf)|(refine JV ?_;(conv=>whnf);show Evs _ _ _ _ _)|refine JJ rfl ?_|refine JK rfl ?_|refine JQ rfl ?_|refine JL rfl rfl ?_|refine JM rfl rfl ?_|refine JN rfl ?_|refine JO rfl ?_|refine JP rfl ?_)
  refine e_ld (S.cell 1 rfl rfl) ?_
  refine e_gdT rfl ?_
  refine e_sub rfl rfl (by omega) (by omega) ?_
  refine e_gdT rfl ?_
  refine e_ixp rfl rfl (by omega) (by omega) ?_
  refine e_gdT rfl ?_
  refine e_ld (S.cell 0 rfl (by rw [show 0 + (p.area - 1).toNat * 1 = ar by omega]; exact szs_get s.cfg ar (by omega))) ?_
  (repeat first|refine Nv.r ?_|refine Jk rfl ?_|(refine JX ?_;conv=>whnf)|(refine JV ?_;(conv=>whnf);show Evs _ _ _ _ _)|refine JJ rfl ?_|refine JK rfl ?_|refine JQ rfl ?_|refine JL rfl rfl ?_|refine JM rfl rfl ?_|refine JN rfl ?_|refine JO rfl ?_|refine JP rfl ?_)
  refine s_iteD rfl (fun h5 => ?_) (fun h5 => ?_)
  · (repeat first|refine Nv.r ?_|refine Jk rfl ?_|(refine JX ?_;conv=>whnf)|(refine JV ?_;(conv=>whnf);show Evs _ _ _ _ _)|refine JJ rfl ?_|refine JK rfl ?_|refine JQ rfl ?_|refine JL rfl rfl ?_|refine JM rfl rfl ?_|refine JN rfl ?_|refine JO rfl ?_|refine JP rfl ?_)
    exact f_ret rfl rfl (bad (by rw [numE, if_pos (.inr h5)]) (L' := [_, _]) S)
  (repeat first|refine Nv.r ?_|refine Jk rfl ?_|(refine JX ?_;conv=>whnf)|(refine JV ?_;(conv=>whnf);show Evs _ _ _ _ _)|refine JJ rfl ?_|refine JK rfl ?_|refine JQ rfl ?_|refine JL rfl rfl ?_|refine JM rfl rfl ?_|refine JN rfl ?_|refine JO rfl ?_|refine JP rfl ?_)
  refine e_ld (S.cell 1 rfl rfl) ?_
  (repeat first|refine Nv.r ?_|refine Jk rfl ?_|(refine JX ?_;conv=>whnf)|(refine JV ?_;(conv=>whnf);show Evs _ _ _ _ _)|refine JJ rfl ?_|refine JK rfl ?_|refine JQ rfl ?_|refine JL rfl rfl ?_|refine JM rfl rfl ?_|refine JN rfl ?_|refine JO rfl ?_|refine JP rfl ?_)
  refine e_ld (S.cell 1 rfl rfl) ?_
  refine e_sub rfl rfl (by omega) (by omega) ?_
  refine e_slp (a := 0) (b := ar) rfl (bnd_s rfl (by omega) (by omega)) (bnd_n _ _ _) ?_
  refine e_p (v := .int .i64 (ar : Int)) rfl ?_
  (repeat first|refine Nv.r ?_|refine Jk rfl ?_|(refine JX ?_;conv=>whnf)|(refine JV ?_;(conv=>whnf);show Evs _ _ _ _ _)|refine JJ rfl ?_|refine JK rfl ?_|refine JQ rfl ?_|refine JL rfl rfl ?_|refine JM rfl rfl ?_|refine JN rfl ?_|refine JO rfl ?_|refine JP rfl ?_)
  have hlt : p.index < 65537 := by
    have := (szs_sum s.cfg hc 4)
    have hh : s.cfg.szs.getD ar 0 ≤ 65536 := by
      have : ar = 0 ∨ ar = 1 ∨ ar = 2 ∨ ar = 3 := by omega
      rcases this with rfl | rfl | rfl | rfl <;> simp [Cfg.szs] <;> omega
    omega
  refine s_loop (σ := Nat) (fun i => [(49, .int .i64 (i : Int)), (48, .int .i64 (ar : Int)), (47, .slice (some ⟨b5, 0, none⟩) ar 4), (6, .int .i64 (p.index + (s.cfg.szs.take i).sum))])
    (fun i w => i ≤ ar ∧ Dn.Sep w ([(b5, .cells ⟨s.cfg.szs.map (.int .i64)⟩ 218), (b3, .cells ⟨p.v⟩ 53)] ++ s.L) F) (fun i => ar - i) 0 ⟨rfl, rfl, ?_, ?_, trivial⟩ rfl ⟨by omega, S⟩ ?_
  · show Value.slice (some (if 4 = 0 then _ else _)) (ar - 0) (4 - 0) = _
    rw [if_neg (by omega)]; rfl
  · show Value.int .i64 _ = Value.int .i64 _
    simp
  rintro g i w ⟨hi, S⟩
  simp only [setL]
  (repeat first|refine Nv.r ?_|refine Jk rfl ?_|(refine JX ?_;conv=>whnf)|(refine JV ?_;(conv=>whnf);show Evs _ _ _ _ _)|refine JJ rfl ?_|refine JK rfl ?_|refine JQ rfl ?_|refine JL rfl rfl ?_|refine JM rfl rfl ?_|refine JN rfl ?_|refine JO rfl ?_|refine JP rfl ?_)
  refine s_iteD rfl (fun h => ?_) (fun h => ?_)
  · (repeat first|refine Nv.r ?_|refine Jk rfl ?_|(refine JX ?_;conv=>whnf)|(refine JV ?_;(conv=>whnf);show Evs _ _ _ _ _)|refine JJ rfl ?_|refine JK rfl ?_|refine JQ rfl ?_|refine JL rfl rfl ?_|refine JM rfl rfl ?_|refine JN rfl ?_|refine JO rfl ?_|refine JP rfl ?_)
    refine e_ixa rfl rfl (by omega) (by omega) ?_
    refine e_ld (S.cell 0 rfl (by rw [show 0 + (i : Int).toNat * 1 = i by omega]; exact szs_get s.cfg i (by omega))) ?_
    (repeat first|refine Nv.r ?_|refine Jk rfl ?_|(refine JX ?_;conv=>whnf)|(refine JV ?_;(conv=>whnf);show Evs _ _ _ _ _)|refine JJ rfl ?_|refine JK rfl ?_|refine JQ rfl ?_|refine JL rfl rfl ?_|refine JM rfl rfl ?_|refine JN rfl ?_|refine JO rfl ?_|refine JP rfl ?_)
    have hsum : (s.cfg.szs.take (i + 1)).sum = (s.cfg.szs.take i).sum + s.cfg.szs.getD i 0 := by
      have hi4 : i < s.cfg.szs.length := by show i < 4; omega
      rw [sum_snoc _ _ hi4, List.getD_eq_getElem?_getD, List.getElem?_eq_getElem hi4]; rfl
    have hs := szs_sum s.cfg hc (i + 1)
    rw [hsum] at hs
    refine e_add rfl rfl (by omega) (by omega) ?_
    (repeat first|refine Nv.r ?_|refine Jk rfl ?_|(refine JX ?_;conv=>whnf)|(refine JV ?_;(conv=>whnf);show Evs _ _ _ _ _)|refine JJ rfl ?_|refine JK rfl ?_|refine JQ rfl ?_|refine JL rfl rfl ?_|refine JM rfl rfl ?_|refine JN rfl ?_|refine JO rfl ?_|refine JP rfl ?_)
    refine e_add rfl rfl (by omega) (by omega) ?_
    (repeat first|refine Nv.r ?_|refine Jk rfl ?_|(refine JX ?_;conv=>whnf)|(refine JV ?_;(conv=>whnf);show Evs _ _ _ _ _)|refine JJ rfl ?_|refine JK rfl ?_|refine JQ rfl ?_|refine JL rfl rfl ?_|refine JM rfl rfl ?_|refine JN rfl ?_|refine JO rfl ?_|refine JP rfl ?_)
    refine ⟨rfl, i + 1, ⟨rfl, rfl, rfl, ?_, trivial⟩, ⟨by omega, S⟩, by omega⟩
    show Value.int .i64 _ = Value.int .i64 _
    rw [hsum]; congr 1; omega
  · have hi' : i = ar := by omega
    subst hi'
    (repeat first|refine Nv.r ?_|refine Jk rfl ?_|(refine JX ?_;conv=>whnf)|(refine JV ?_;(conv=>whnf);show Evs _ _ _ _ _)|refine JJ rfl ?_|refine JK rfl ?_|refine JQ rfl ?_|refine JL rfl rfl ?_|refine JM rfl rfl ?_|refine JN rfl ?_|refine JO rfl ?_|refine JP rfl ?_)
    refine f_ret rfl rfl (hQ _ _ _ ⟨congrArg (Value.int .i64) ?_, rfl⟩ (Sep.drop (L2 := [_, _]) S))
    rw [numE, if_neg (by omega)]

end Go.Proofs.YtjnogknjdjphaaaGreat
