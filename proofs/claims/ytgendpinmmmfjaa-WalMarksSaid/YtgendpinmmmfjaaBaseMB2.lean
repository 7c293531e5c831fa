/- Lemmas for a proof in several parts. -/
import Derived.Test.YtgendpinmmmfjaaBaseMB1
import Derived.Deep.AppendSrc
import Derived.Lib.UnsafeStr
import Derived.Test.YtgendpinmmmfjaaProg
set_option linter.unusedVariables false
set_option linter.unusedSimpArgs false
/-
  Memory as a list of blocks that a piece of code holds, beside all that it does not touch; the rules by which a walk goes on.
-/
namespace Dn
open Go

/-- What is not touched: the streams, the tape, the other blocks. -/
structure Fr where
  os : Os
  tape : Nat → Question → Nat
  out : Array (Nat × ByteArray)
  h : Nat → Option Obj

def look (L : List (Nat × Obj)) (b : Nat) : Option Obj :=
  match L with
  | [] => none
  | (a, o) :: L => if a = b then some o else look L b

def Fr.add (F : Fr) (L : List (Nat × Obj)) : Fr := { F with h := fun b => match look L b with | some o => some o | none => F.h b }

structure Sep (w : World) (L : List (Nat × Obj)) (F : Fr) : Prop where
  os : w.os = F.os
  tape : w.tape = F.tape
  out : w.output = F.out
  nd : (L.map (·.1)).Nodup
  at_ : ∀ b o, (b, o) ∈ L → w.heap[b]? = some o
  fr : ∀ b o, F.h b = some o → w.heap[b]? = some o
  ap : ∀ b o, (b, o) ∈ L → F.h b = none

theorem look_mem {L : List (Nat × Obj)} (hnd : (L.map (·.1)).Nodup) {b : Nat} {o : Obj} : look L b = some o ↔ (b, o) ∈ L := by
  induction L with
  | nil => simp [look]
  | cons x L ih =>
    obtain ⟨a, p⟩ := x
    simp only [List.map_cons, List.nodup_cons] at hnd
    simp only [look]
    by_cases e : a = b
    · subst e
      simp only [if_true, List.mem_cons, Prod.mk.injEq, true_and, Option.some.injEq]
      constructor
      · intro h; exact .inl h.symm
      · rintro (h | h)
        · exact h.symm
        · exact absurd (List.mem_map.2 ⟨_, h, rfl⟩) hnd.1
    · rw [if_neg e, ih hnd.2]
      simp only [List.mem_cons, Prod.mk.injEq]
      constructor
      · intro h; exact .inr h
      · rintro (h | h)
        · exact absurd h.1.symm e
        · exact h

theorem look_none {L : List (Nat × Obj)} {b : Nat} : look L b = none ↔ b ∉ L.map (·.1) := by
  induction L with
  | nil => simp [look]
  | cons x L ih =>
    obtain ⟨a, p⟩ := x
    simp only [look, List.map_cons, List.mem_cons]
    by_cases e : a = b
    · subst e; simp
    · have e' : ¬ b = a := fun h => e h.symm
      rw [if_neg e, ih]; simp [e']

variable {P : Program} {m : Nat} {w : World} {L L1 L2 : List (Nat × Obj)} {F : Fr} {T : Rg}

theorem Sep.perm (S : Sep w L F) (hp : L.Perm L1) : Sep w L1 F :=
  ⟨S.os, S.tape, S.out, (hp.map _).nodup_iff.1 S.nd, fun b o h => S.at_ b o (hp.mem_iff.2 h), S.fr, fun b o h => S.ap b o (hp.mem_iff.2 h)⟩
theorem Sep.tail (S : Sep w (L2 ++ L1) F) : Sep w L1 (F.add L2) := by
  have hnd := S.nd
  rw [List.map_append, List.nodup_append] at hnd
  refine ⟨S.os, S.tape, S.out, hnd.2.1, fun b o h => S.at_ b o (List.mem_append_right _ h), fun b o h => ?_, fun b o h => ?_⟩
  · simp only [Fr.add] at h
    split at h
    · rename_i o' hl
      injection h with h; subst h
      exact S.at_ b _ (List.mem_append_left _ ((look_mem hnd.1).1 hl))
    · exact S.fr b o h
  · simp only [Fr.add]
    have : look L2 b = none := by
      rw [look_none]
      intro hh
      exact hnd.2.2 b hh b (List.mem_map.2 ⟨_, h, rfl⟩) rfl
    rw [this]
    exact S.ap b o (List.mem_append_right _ h)
theorem Sep.join {w' : World} {L' : List (Nat × Obj)} (S' : Sep w' L' (F.add L2)) (S : Sep w (L2 ++ L1) F) : Sep w' (L2 ++ L') F := by
  have hnd := S.nd
  rw [List.map_append, List.nodup_append] at hnd
  have hF : ∀ b o, (b, o) ∈ L2 → (F.add L2).h b = some o := by
    intro b o h
    simp only [Fr.add, (look_mem hnd.1).2 h]
  refine ⟨S'.os, S'.tape, S'.out, ?_, ?_, ?_, ?_⟩
  · rw [List.map_append, List.nodup_append]
    refine ⟨hnd.1, S'.nd, fun a ha b hb e => ?_⟩
    subst e
    obtain ⟨⟨x, o⟩, hx, rfl⟩ := List.mem_map.1 ha
    obtain ⟨⟨y, o'⟩, hy, he⟩ := List.mem_map.1 hb
    simp only at he; subst he
    have := S'.ap _ _ hy
    rw [hF _ _ hx] at this
    simp at this
  · intro b o h
    rcases List.mem_append.1 h with h | h
    · exact S'.fr b o (hF b o h)
    · exact S'.at_ b o h
  · intro b o h
    refine S'.fr b o ?_
    simp only [Fr.add]
    have : look L2 b = none := by
      rw [look_none]
      intro hh
      obtain ⟨⟨x, o'⟩, hx, rfl⟩ := List.mem_map.1 hh
      have := S.ap _ _ (List.mem_append_left _ hx)
      rw [this] at h; simp at h
    rw [this]; exact h
  · intro b o h
    rcases List.mem_append.1 h with h | h
    · exact S.ap b o (List.mem_append_left _ h)
    · have := S'.ap b o h
      simp only [Fr.add] at this
      split at this
      · simp at this
      · exact this

theorem Sep.drop (S : Sep w (L2 ++ L1) F) : Sep w L1 F :=
  ⟨S.os, S.tape, S.out, by have := S.nd; rw [List.map_append, List.nodup_append] at this; exact this.2.1, fun b o h => S.at_ b o (List.mem_append_right _ h), S.fr, fun b o h => S.ap b o (List.mem_append_right _ h)⟩
theorem Sep.drew (S : Sep w L F) : Sep w.drew L F := ⟨S.os, S.tape, S.out, S.nd, S.at_, S.fr, S.ap⟩
theorem Sep.lt (S : Sep w L F) {b : Nat} {o : Obj} (h : (b, o) ∈ L) : b < w.heap.size := (Array.getElem?_eq_some_iff.1 (S.at_ b o h)).1
theorem Sep.alloc (S : Sep w L F) (o : Obj) : Sep (w.alloc o) ((w.heap.size, o) :: L) F := by
  have hold : ∀ (b : Nat) (p : Obj), w.heap[b]? = some p → (w.alloc o).heap[b]? = some p := by
    intro b p h
    have hlt := (Array.getElem?_eq_some_iff.1 h).1
    unfold World.alloc; simp only [Array.getElem?_push]; rw [if_neg (by omega)]; exact h
  refine ⟨S.os, S.tape, S.out, ?_, ?_, fun b p h => hold b p (S.fr b p h), ?_⟩
  · rw [List.map_cons, List.nodup_cons]
    refine ⟨fun h => ?_, S.nd⟩
    obtain ⟨⟨x, p⟩, hx, he⟩ := List.mem_map.1 h
    simp only at he; subst he
    exact Nat.lt_irrefl _ (S.lt hx)
  · intro b p h
    rcases List.mem_cons.1 h with h | h
    · injection h with h1 h2; subst h1; subst h2
      unfold World.alloc; simp
    · exact hold b p (S.at_ b p h)
  · intro b p h
    rcases List.mem_cons.1 h with h | h
    · injection h with h1 h2; subst h1
      cases hF : F.h w.heap.size with
      | none => rfl
      | some q =>
        have := (Array.getElem?_eq_some_iff.1 (S.fr _ _ hF)).1
        exact absurd this (Nat.lt_irrefl _)
    · exact S.ap b p h
theorem Sep.mem {i : Nat} {x : Nat × Obj} (h : L[i]? = some x) : x ∈ L := List.mem_of_getElem? h
theorem Sep.put (S : Sep w L F) (i : Nat) {b : Nat} {o : Obj} (h : L[i]? = some (b, o)) (o' : Obj) : Sep (w.putObj b o') (L.set i (b, o')) F := by
  have hlt : i < L.length := by rcases Nat.lt_or_ge i L.length with h' | h'
                                · exact h'
                                · rw [List.getElem?_eq_none h'] at h; simp at h
  have hb := S.lt (Sep.mem h)
  have hk : (L.set i (b, o')).map (·.1) = L.map (·.1) := by
    rw [List.map_set]
    have : (L.map (·.1))[i]? = some b := by rw [List.getElem?_map, h]; rfl
    apply List.ext_getElem?
    intro j
    rw [List.getElem?_set]
    split
    · rename_i e; subst e; rw [if_pos (by simpa using hlt), this]
    · rfl
  have hother : ∀ c p, c ≠ b → w.heap[c]? = some p → (w.putObj b o').heap[c]? = some p := by
    intro c p hne hh
    rw [World.putObj_heap_other hne]; exact hh
  have hmem : ∀ c p, (c, p) ∈ L.set i (b, o') → (c = b ∧ p = o') ∨ ((c, p) ∈ L ∧ c ≠ b) := by
    intro c p hm
    obtain ⟨j, hj, hje⟩ := List.mem_iff_getElem.1 hm
    rw [List.getElem_set] at hje
    split at hje
    · injection hje with h1 h2; exact .inl ⟨h1.symm, h2.symm⟩
    · rename_i hne
      have hj' : j < L.length := by simpa using hj
      right
      refine ⟨List.mem_iff_getElem.2 ⟨j, hj', hje⟩, fun e => ?_⟩
      subst e
      have h1 : (L.map (·.1))[i]'(by simpa using hlt) = c := by
        have : L[i]? = some L[i] := List.getElem?_eq_getElem hlt
        rw [h] at this; injection this with this
        simp [← this]
      have h2 : (L.map (·.1))[j]'(by simpa using hj') = c := by simp [hje]
      exact hne ((List.getElem_inj S.nd).1 (h1.trans h2.symm))
  refine ⟨S.os, S.tape, S.out, by rw [hk]; exact S.nd, fun c p hm => ?_, fun c p hf => ?_, fun c p hm => ?_⟩
  · rcases hmem c p hm with ⟨rfl, rfl⟩ | ⟨h1, h2⟩
    · exact World.putObj_heap_same hb
    · exact hother c p h2 (S.at_ c p h1)
  · refine hother c p (fun e => ?_) (S.fr c p hf)
    subst e
    have := S.ap _ _ (Sep.mem h)
    rw [this] at hf; simp at hf
  · rcases hmem c p hm with ⟨rfl, rfl⟩ | ⟨h1, h2⟩
    · exact S.ap _ _ (Sep.mem h)
    · exact S.ap c p h1

/-- The i-th block put first. -/
theorem Sep.mv (S : Sep w L F) (i : Nat) {x : Nat × Obj} (h : L[i]? = some x) : Sep w (x :: L.eraseIdx i) F := by
  refine S.perm ?_
  have hlt : i < L.length := by rcases Nat.lt_or_ge i L.length with h' | h'
                                · exact h'
                                · rw [List.getElem?_eq_none h'] at h; simp at h
  have hx : L[i] = x := by rw [List.getElem?_eq_getElem hlt] at h; exact Option.some.inj h
  subst hx
  rw [List.eraseIdx_eq_take_drop_succ]
  have : L = L.take i ++ L[i] :: L.drop (i + 1) := by rw [List.getElem_cons_drop]; simp
  conv => lhs; rw [this]
  exact List.perm_middle

/-! ### The rules -/

section rules
variable {K : Ex → Rg → World → Prop} {N : Rg → World → Prop} {a b : Cd} {l : List Ins} {d : Option Nat}

theorem s_seq (h : Ev P m a (thenK (Ev P m b K) K) T w) : Ev P m (.seq a b) K T w := h
theorem s_ops (h : Evs P l (K .n) T w) : Ev P m (.ops l false) K T w := h
theorem s_opsd (h : Evs P l (K .n) T w.drew) : Ev P m (.ops l true) K T w := h
theorem s_skip (h : K .n T w) : Ev P m .skip K T w := h
theorem s_blk {id : Nat} (h : Ev P m a (blkK id K) T w) : Ev P m (.blk id a) K T w := h
theorem s_exit {id : Nat} (h : K (.x id) T w) : Ev P m (.exit id) K T w := h
theorem s_ret (h : K .r T w) : Ev P m .ret K T w := h
theorem e_nil (h : N T w) : Evs P [] N T w := h
theorem k_then (h : Ev P m b K T w) : thenK (Ev P m b K) K .n T w := h
theorem k_thx {id : Nat} (h : K (.x id) T w) : thenK N K (.x id) T w := h
theorem k_thr (h : K .r T w) : thenK N K .r T w := h
theorem k_bln {id : Nat} (h : K .n T w) : blkK id K .n T w := h
theorem k_blr {id : Nat} (h : K .r T w) : blkK id K .r T w := h
theorem k_blx {id : Nat} (h : K .n T w) : blkK id K (.x id) T w := by simpa [blkK] using h
theorem k_bly {i id : Nat} (e : Nat.beq i id = false) (h : K (.x i) T w) : blkK id K (.x i) T w := by simpa [blkK, e] using h
theorem f_ret {res : List RV} {Q : Value → World → Prop} {vs : List Value} (hd : T.ds = []) (hv : rvsV T w res = some vs) (h : Q (tup vs) w) : finK res Q .r T w := by
  show leaveDs _ T.ds w
  rw [hd]; exact ⟨vs, hv, h⟩
theorem f_end {res : List RV} {Q : Value → World → Prop} {vs : List Value} (hd : T.ds = []) (hv : rvsV T w res = some vs) (h : Q (tup vs) w) : finK res Q .n T w := by
  show leaveDs _ T.ds w
  rw [hd]; exact ⟨vs, hv, h⟩

theorem s_iteT {c : X} (hc : T.ev c = .bool true) (h : Ev P m a K T w) : Ev P m (.ite c a b) K T w := ⟨true, hc, fun _ => h, fun e => by simp at e⟩
theorem s_iteF {c : X} (hc : T.ev c = .bool false) (h : Ev P m b K T w) : Ev P m (.ite c a b) K T w := ⟨false, hc, fun e => by simp at e, fun _ => h⟩
theorem s_ite {c : X} {t : Bool} (hc : T.ev c = .bool t) (h1 : t = true → Ev P m a K T w) (h2 : t = false → Ev P m b K T w) : Ev P m (.ite c a b) K T w := ⟨t, hc, h1, h2⟩
theorem s_iteD {c : X} {p : Prop} [Decidable p] (hc : T.ev c = .bool (decide p)) (h1 : p → Ev P m a K T w) (h2 : ¬ p → Ev P m b K T w) : Ev P m (.ite c a b) K T w :=
  ⟨_, hc, fun e => h1 (of_decide_eq_true e), fun e => h2 (of_decide_eq_false e)⟩

theorem e_p {e : PE} {v : Value} (hv : e.ev T = some v) (h : Evs P l N (updO T d v) w) : Evs P (.op (.p d e) :: l) N T w := ⟨v, hv, h⟩
theorem e_pkT {c x y : X} (hc : T.ev c = .bool true) (h : Evs P l N (updO T d (T.ev x)) w) : Evs P (.op (.pk d c x y) :: l) N T w := ⟨true, hc, h⟩
theorem e_pkF {c x y : X} (hc : T.ev c = .bool false) (h : Evs P l N (updO T d (T.ev y)) w) : Evs P (.op (.pk d c x y) :: l) N T w := ⟨false, hc, h⟩
theorem e_ar {op : BinOp} {x y : X} {v : Value} (hv : arV op (T.ev x) (T.ev y) = some v) (h : Evs P l N (updO T d v) w) : Evs P (.op (.ar d op x y) :: l) N T w := ⟨v, hv, h⟩
theorem e_ld {n : Option Nat} {x : X} {v : Value} (hv : ldV n (T.ev x) w = some v) (h : Evs P l N (updO T d v) w) : Evs P (.op (.ld d n x) :: l) N T w := ⟨v, hv, h⟩
theorem e_b2s {x : X} {v : Value} (hv : b2sV (T.ev x) w = some v) (h : Evs P l N (updO T d v) w) : Evs P (.op (.b2s d x) :: l) N T w := ⟨v, hv, h⟩
theorem e_gdT {r : Nat} {t : Bool} {o : Bop} (hc : T.f r = .bool t) (h : Evs P (.op o :: l) N T w) : Evs P (.gd r t d o :: l) N T w := ⟨t, by rw [hc]; rfl, fun _ => h, fun e => by cases t <;> simp at e⟩
theorem e_gdF {r : Nat} {t : Bool} {o : Bop} (hc : T.f r = .bool (!t)) (h : Evs P l N (updO T d undef) w) : Evs P (.gd r t d o :: l) N T w := ⟨!t, by rw [hc]; rfl, fun e => by cases t <;> simp at e, fun _ => h⟩
/-- A guard that was left out itself. -/
theorem e_gdU {r : Nat} {t : Bool} {o : Bop} (hc : T.f r = undef) (h : Evs P l N (updO T d undef) w) : Evs P (.gd r t d o :: l) N T w := ⟨!t, by rw [hc]; rfl, fun e => by cases t <;> simp at e, fun _ => h⟩
theorem upd_same (T : Rg) (r : Nat) : upd T r (T.f r) = T := by
  unfold upd
  congr 1
  funext i
  cases h : Nat.beq i r with
  | false => rfl
  | true => have := Nat.eq_of_beq_eq_true h; subst this; rfl
/-- A guard that is not known: the two ways. -/
theorem e_br {r : Nat} {t c : Bool} {o : Bop} (hc : T.f r = .bool c) (h1 : c = t → Evs P (.gd r t d o :: l) N (upd T r (.bool t)) w) (h2 : c = !t → Evs P (.gd r t d o :: l) N (upd T r (.bool (!t))) w) : Evs P (.gd r t d o :: l) N T w := by
  have hs := upd_same T r
  by_cases e : c = t
  · have e2 : upd T r (.bool t) = T := by rw [← e, ← hc]; exact hs
    have := h1 e; rw [e2] at this; exact this
  · have e' : c = !t := by cases c <;> cases t <;> simp_all
    have e2 : upd T r (.bool (!t)) = T := by rw [← e', ← hc]; exact hs
    have := h2 e'; rw [e2] at this; exact this
theorem e_brD {r : Nat} {t : Bool} {p : Prop} [Decidable p] {o : Bop} (hc : T.f r = .bool (decide p)) (h1 : p → Evs P (.gd r t d o :: l) N (upd T r (.bool true)) w) (h2 : ¬ p → Evs P (.gd r t d o :: l) N (upd T r (.bool false)) w) : Evs P (.gd r t d o :: l) N T w := by
  have hs := upd_same T r
  by_cases e : p
  · have e2 : upd T r (.bool true) = T := by rw [← decide_eq_true e, ← hc]; exact hs
    have := h1 e; rw [e2] at this; exact this
  · have e2 : upd T r (.bool false) = T := by rw [← decide_eq_false e, ← hc]; exact hs
    have := h2 e; rw [e2] at this; exact this
/-! memory -/
theorem Sep.cell (S : Sep w L F) (i : Nat) {b off ty : Nat} {cs : List Value} {fr : Nat × Nat} {v : Value} (h : L[i]? = some (b, .cells ⟨cs⟩ ty fr)) (hv : cs[off]? = some v) : ldV none (.pointer (some ⟨b, off, none⟩)) w = some v := by
  have := S.at_ _ _ (Sep.mem h)
  simp [ldV, World.cell?, this, hv]
theorem Sep.row (S : Sep w L F) (i : Nat) {b off ty n : Nat} {cs : List Value} {fr : Nat × Nat} {vs : List Value} (h : L[i]? = some (b, .cells ⟨cs⟩ ty fr)) (hn : off + n ≤ cs.length) (hv : (cs.drop off).take n = vs) :
    ldV (some n) (.pointer (some ⟨b, off, none⟩)) w = some (.agg ⟨vs⟩) := by
  have := S.at_ _ _ (Sep.mem h)
  simp [ldV, rowOf, this, hn, hv]
theorem Sep.fcell (S : Sep w L F) {b off ty : Nat} {cs : List Value} {fr : Nat × Nat} {v : Value} (h : F.h b = some (.cells ⟨cs⟩ ty fr)) (hv : cs[off]? = some v) : ldV none (.pointer (some ⟨b, off, none⟩)) w = some v := by
  have := S.fr _ _ h
  simp [ldV, World.cell?, this, hv]

theorem e_bx {t : TypeId} {x : X} {cs : List Value} (S : Sep w L F) (hv : (T.ev x).cells = ⟨cs⟩) (h : ∀ b w', Sep w' ((b, .cells ⟨cs⟩ t) :: L) F → Evs P l N (updO T d (.pointer (some ⟨b, 0, none⟩))) w') : Evs P (.op (.bx d t x) :: l) N T w := by
  have := h w.heap.size _ (S.alloc (.cells ⟨cs⟩ t))
  rw [← hv] at this
  exact this
theorem e_nw {t : TypeId} {cs : List Value} (S : Sep w L F) (h : ∀ b w', Sep w' ((b, .cells ⟨cs⟩ t) :: L) F → Evs P l N (updO T d (.pointer (some ⟨b, 0, none⟩))) w') : Evs P (.op (.nw d t cs) :: l) N T w :=
  h w.heap.size _ (S.alloc (.cells ⟨cs⟩ t))
theorem e_s2b {e : TypeId} {x : X} {s : ByteArray} (S : Sep w L F) (hx : T.ev x = .string s)
    (h : ∀ b cap w', s.size ≤ cap → Sep w' ((b, .cells ⟨byteCells s ++ List.replicate (cap - s.size) (.int .u8 0)⟩ e (cap, cap + 1)) :: L) F → Evs P l N (updO T d (.slice (some ⟨b, 0, none⟩) s.size cap)) w') : Evs P (.op (.s2b d e x) :: l) N T w :=
  ⟨s, hx, fun cap hc => h w.heap.size cap _ hc (S.drew.alloc _)⟩
/-- A store into the i-th block. -/
theorem e_st {n : Nat} {x y : X} (S : Sep w L F) (i : Nat) {b off ty : Nat} {cs vs : List Value} (hx : T.ev x = .pointer (some ⟨b, off, none⟩)) (hL : L[i]? = some (b, .cells ⟨cs⟩ ty)) (hy : (T.ev y).cells = ⟨vs⟩) (hn : vs.length = n)
    (hf : ∀ v ∈ vs, Value.flat v = true) (hl : off + n ≤ cs.length) (h : ∀ w', Sep w' (L.set i (b, .cells ⟨putAt cs off vs⟩ ty)) F → Evs P l N (updO T d undef) w') : Evs P (.op (.st d n x y) :: l) N T w := by
  have hb := S.at_ _ _ (Sep.mem hL)
  refine ⟨b, off, cs, ty, 0, 0, hx, hb, by rw [hy]; exact hn, by rw [hy]; exact hf, hl, fun i _ _ hh => by omega, ?_⟩
  rw [hy]
  exact h _ (S.put i hL _)

/-! calls -/

/-- What a call does with the blocks that it is given. -/
def DSpec (P : Program) (f : FuncId) (args : List Value) (L : List (Nat × Obj)) (post : Value → List (Nat × Obj) → Prop) : Prop :=
  ∀ w F, Sep w L F → CallTo P f args w fun v w' => ∃ L', post v L' ∧ Sep w' L' F

theorem DSpec.mono {f : FuncId} {args : List Value} {post post' : Value → List (Nat × Obj) → Prop} (h : DSpec P f args L post) (hp : ∀ v L', post v L' → post' v L') : DSpec P f args L post' :=
  fun w F S => (h w F S).mono fun v w' ⟨L', h1, h2⟩ => ⟨L', hp _ _ h1, h2⟩

theorem e_call {f : FuncId} {args : List X} {vs : List Value} {post : Value → List (Nat × Obj) → Prop} (ha : T.evs args = vs) (hf : DSpec P f vs L1 post) (S : Sep w (L2 ++ L1) F)
    (h : ∀ v L' w', post v L' → Sep w' (L2 ++ L') F → Evs P l N (updO T d v) w') : Evs P (.op (.call d f args) :: l) N T w := by
  show CallTo P f (T.evs args) w _
  rw [ha]
  exact (hf w (F.add L2) S.tail).mono fun v w' ⟨L', hp, S'⟩ => h v L' w' hp (S'.join S)

theorem e_cf {x : X} {args : List X} {f : FuncId} {fs cs vs : List Value} {post : Value → List (Nat × Obj) → Prop} (hx : T.ev x = .func (.func f) ⟨fs⟩ ⟨cs⟩) (hc : callable P f = true) (ha : fs ++ T.evs args ++ cs = vs) (hf : DSpec P f vs L1 post) (S : Sep w (L2 ++ L1) F)
    (h : ∀ v L' w', post v L' → Sep w' (L2 ++ L') F → Evs P l N (updO T d v) w') : Evs P (.op (.cf d x args) :: l) N T w := by
  refine .inl ⟨f, fs, cs, hx, hc, ?_⟩
  rw [ha]
  exact (hf w (F.add L2) S.tail).mono fun v w' ⟨L', hp, S'⟩ => h v L' w' hp (S'.join S)

/-- A function's contract, out of its compiled body. -/
theorem spec_of {f : FuncId} {fn : Func} {Fn : Fun} {mm : Nat} {body : Cd} {res : List RV} {args : List Value} {post : Value → List (Nat × Obj) → Prop} (hmix : P.follows .mixedOrders = true) (hf : P.funcs[f]? = some fn) (hc : cF P fn = some Fn) (hF : Fn = ⟨mm, body, res⟩) (hn : Nat.ble args.length mm = true)
    (h : ∀ w F (Q : Value → World → Prop), Sep w L F → (∀ v w' L', post v L' → Sep w' L' F → Q v w') → Ev P mm body (finK res Q) (T0 args) w) : DSpec P f args L post := by
  subst hF
  exact fun w F S => enter hmix hf hc (Nat.le_of_ble_eq_true hn) (h w F _ S fun v w' L' hp S' => ⟨L', hp, S'⟩)

/-! a move, the value written out -/
theorem e_mvI {x : X} {k : IntKind} {n : Int} (hv : T.ev x = .int k n) (h : Evs P l N (updO T d (.int k n)) w) : Evs P (.op (.p d (.mov x)) :: l) N T w := ⟨_, congrArg some hv, h⟩
theorem e_mvB {x : X} {b : Bool} (hv : T.ev x = .bool b) (h : Evs P l N (updO T d (.bool b)) w) : Evs P (.op (.p d (.mov x)) :: l) N T w := ⟨_, congrArg some hv, h⟩
theorem e_mvP {x : X} {a : Option Addr} (hv : T.ev x = .pointer a) (h : Evs P l N (updO T d (.pointer a)) w) : Evs P (.op (.p d (.mov x)) :: l) N T w := ⟨_, congrArg some hv, h⟩
theorem e_mvL {x : X} {a : Option Addr} {n c : Nat} (hv : T.ev x = .slice a n c) (h : Evs P l N (updO T d (.slice a n c)) w) : Evs P (.op (.p d (.mov x)) :: l) N T w := ⟨_, congrArg some hv, h⟩
theorem e_mvS {x : X} {s : ByteArray} (hv : T.ev x = .string s) (h : Evs P l N (updO T d (.string s)) w) : Evs P (.op (.p d (.mov x)) :: l) N T w := ⟨_, congrArg some hv, h⟩
theorem e_mvA {x : X} {c : Array Value} (hv : T.ev x = .agg c) (h : Evs P l N (updO T d (.agg c)) w) : Evs P (.op (.p d (.mov x)) :: l) N T w := ⟨_, congrArg some hv, h⟩
theorem e_mvT {x : X} {c : Array Value} (hv : T.ev x = .tuple c) (h : Evs P l N (updO T d (.tuple c)) w) : Evs P (.op (.p d (.mov x)) :: l) N T w := ⟨_, congrArg some hv, h⟩
theorem e_mvM {x : X} {r : Option Nat} (hv : T.ev x = .map r) (h : Evs P l N (updO T d (.map r)) w) : Evs P (.op (.p d (.mov x)) :: l) N T w := ⟨_, congrArg some hv, h⟩
theorem e_mvF {x : X} {f : Fn} {a b : Array Value} (hv : T.ev x = .func f a b) (h : Evs P l N (updO T d (.func f a b)) w) : Evs P (.op (.p d (.mov x)) :: l) N T w := ⟨_, congrArg some hv, h⟩
theorem e_pkTB {c x y : X} {b : Bool} (hc : T.ev c = .bool true) (hv : T.ev x = .bool b) (h : Evs P l N (updO T d (.bool b)) w) : Evs P (.op (.pk d c x y) :: l) N T w := e_pkT hc (by rw [hv]; exact h)
theorem e_pkFB {c x y : X} {b : Bool} (hc : T.ev c = .bool false) (hv : T.ev y = .bool b) (h : Evs P l N (updO T d (.bool b)) w) : Evs P (.op (.pk d c x y) :: l) N T w := e_pkF hc (by rw [hv]; exact h)
theorem e_bl1 {z : List Value} {ps : List (Nat × Nat × X)} {a : Value} (hv : (PE.bld z ps).ev T = some (.agg ⟨[a]⟩)) (h : Evs P l N (updO T d (.agg ⟨[a]⟩)) w) : Evs P (.op (.p d (.bld z ps)) :: l) N T w := ⟨_, hv, h⟩
theorem e_bl2 {z : List Value} {ps : List (Nat × Nat × X)} {a b : Value} (hv : (PE.bld z ps).ev T = some (.agg ⟨[a, b]⟩)) (h : Evs P l N (updO T d (.agg ⟨[a, b]⟩)) w) : Evs P (.op (.p d (.bld z ps)) :: l) N T w := ⟨_, hv, h⟩
theorem e_bl3 {z : List Value} {ps : List (Nat × Nat × X)} {a b c : Value} (hv : (PE.bld z ps).ev T = some (.agg ⟨[a, b, c]⟩)) (h : Evs P l N (updO T d (.agg ⟨[a, b, c]⟩)) w) : Evs P (.op (.p d (.bld z ps)) :: l) N T w := ⟨_, hv, h⟩
theorem e_bl4 {z : List Value} {ps : List (Nat × Nat × X)} {a b c e : Value} (hv : (PE.bld z ps).ev T = some (.agg ⟨[a, b, c, e]⟩)) (h : Evs P l N (updO T d (.agg ⟨[a, b, c, e]⟩)) w) : Evs P (.op (.p d (.bld z ps)) :: l) N T w := ⟨_, hv, h⟩
theorem e_bl6 {z : List Value} {ps : List (Nat × Nat × X)} {a b c e f g : Value} (hv : (PE.bld z ps).ev T = some (.agg ⟨[a, b, c, e, f, g]⟩)) (h : Evs P l N (updO T d (.agg ⟨[a, b, c, e, f, g]⟩)) w) : Evs P (.op (.p d (.bld z ps)) :: l) N T w := ⟨_, hv, h⟩
theorem e_bl7 {z : List Value} {ps : List (Nat × Nat × X)} {a b c e f g i : Value} (hv : (PE.bld z ps).ev T = some (.agg ⟨[a, b, c, e, f, g, i]⟩)) (h : Evs P l N (updO T d (.agg ⟨[a, b, c, e, f, g, i]⟩)) w) : Evs P (.op (.p d (.bld z ps)) :: l) N T w := ⟨_, hv, h⟩
end rules

end Dn

/-
  Rules for maps with int keys, for append, make and the like.
-/
namespace Dn
open Go

variable {P : Program} {m : Nat} {w : World} {L L1 L2 : List (Nat × Obj)} {F : Fr} {T : Rg} {N : Rg → World → Prop} {l : List Ins} {d : Option Nat} {ty : TypeId}

theorem e_raw {o : Op} {v : Value} {w' : World} (hr : (rawSem T o ty).run P w = .ok (.value v) w') (h : Evs P l N (updO T d v) w') : Evs P (.op (.raw d o ty) :: l) N T w := ⟨w', .inl ⟨v, hr, h⟩⟩
theorem e_rawS {o : Op} {w' : World} (hr : (rawSem T o ty).run P w = .ok .skip w') (h : Evs P l N (updO T d undef) w') : Evs P (.op (.raw d o ty) :: l) N T w := ⟨w', .inr ⟨hr, h⟩⟩

/-! ### maps with int keys -/

/-- A map: its entries (key, element, birth) and its clock. -/
structure GM (α : Type) where
  es : List (Int × α × Nat)
  clock : Nat

namespace GM
variable {α : Type}
def entry (enc : α → Value) (e : Int × α × Nat) : MapEntry := { key := .int .i64 e.1, val := enc e.2.1, born := e.2.2 }
def obj (enc : α → Value) (g : GM α) : Obj := .map ⟨g.es.map (entry enc)⟩ g.clock
def find (k : Int) : List (Int × α × Nat) → Option α
  | [] => none
  | e :: l => if k = e.1 then some e.2.1 else find k l
def get (g : GM α) (k : Int) : Option α := find k g.es
def upd (k : Int) (v : α) : List (Int × α × Nat) → Option (List (Int × α × Nat))
  | [] => none
  | e :: l => if k = e.1 then some ((k, v, e.2.2) :: l) else (upd k v l).map (e :: ·)
def set (g : GM α) (k : Int) (v : α) : GM α :=
  match upd k v g.es with
  | some es => ⟨es, g.clock⟩
  | none => ⟨g.es ++ [(k, v, g.clock)], g.clock + 1⟩
def del1 (k : Int) : List (Int × α × Nat) → List (Int × α × Nat)
  | [] => []
  | e :: l => if k = e.1 then l else e :: del1 k l
def del (g : GM α) (k : Int) : GM α := ⟨del1 k g.es, g.clock⟩
def clear (g : GM α) : GM α := ⟨[], g.clock⟩
end GM

variable {α : Type} {enc : α → Value}

theorem findNow_gm (k : Int) : ∀ (es : List (Int × α × Nat)) (i : Nat), Instr.findNow (.int .i64) (.int .i64 k) (es.map (GM.entry enc)) i = some (match es.findIdx? (fun e => k = e.1) with | some j => some (i + j, match (GM.find k es) with | some v => enc v | none => undef) | none => none) := by
  intro es
  induction es with
  | nil => intro i; rfl
  | cons e es ih =>
    intro i
    simp only [List.map_cons, Instr.findNow, GM.entry, Instr.sameNow, if_true]
    by_cases h : k = e.1
    · simp [h, List.findIdx?_cons, GM.find]
    · have h' : (k == e.1) = false := by simpa using h
      rw [h']
      simp only [ih]
      simp only [List.findIdx?_cons, h, decide_false, Bool.false_eq_true, if_false, GM.find]
      cases hf : List.findIdx? (fun e => decide (k = e.1)) es with
      | none => rfl
      | some j => simp only [Option.map_some, Option.some.injEq, Prod.mk.injEq, and_true]; omega

theorem find_idx (k : Int) : ∀ (es : List (Int × α × Nat)), (es.findIdx? (fun e => k = e.1)).isSome = (GM.find k es).isSome := by
  intro es
  induction es with
  | nil => rfl
  | cons e es ih =>
    simp only [List.findIdx?_cons, GM.find]
    by_cases h : k = e.1
    · simp [h]
    · simp [h, ih]

theorem checkKey_intN (n : Nat) {b : Bool} {t : TypeId} {k : Int} (ht : P.underlying t = some (.int .i64)) : (Instr.checkKey b (n + 1) t (.int .i64 k)).run P w = .ok () w := by
  simp only [Instr.checkKey, Sem.run_bind, run_und ht, Result.andThen_ok, Sem.run_pure]
theorem checkKey_int {b : Bool} {t : TypeId} {k : Int} (ht : P.underlying t = some (.int .i64)) : (Instr.checkKey b 10000 t (.int .i64 k)).run P w = .ok () w := checkKey_intN 9999 ht

theorem findKey_gm {t : TypeId} {k : Int} {es : List (Int × α × Nat)} (ht : P.underlying t = some (.int .i64)) :
    (Instr.findKey t (.int .i64 k) (es.map (GM.entry enc))).run P w = .ok (match es.findIdx? (fun e => k = e.1) with | some j => some (j, match (GM.find k es) with | some v => enc v | none => undef) | none => none) w := by
  simp only [Instr.findKey, Sem.run_bind, run_und ht, Result.andThen_ok, findNow_gm, Nat.zero_add, Sem.run_pure]

theorem getObj_run {P : Program} {w : World} {r : Nat} {o : Obj} (h : w.heap[r]? = some o) (hc : ∀ c t f, o ≠ .cells c t f) : (getObj r).run P w = .ok o w := by
  unfold getObj
  cases o <;> first | exact absurd rfl (hc _ _ _) | simp only [Sem.run, h]
theorem setObj_run {P : Program} {w : World} {r : Nat} {o o' : Obj} (h : w.heap[r]? = some o) (hc : ∀ c t f, o ≠ .cells c t f) : (setObj r o').run P w = .ok () (w.putObj r o') := by
  unfold setObj
  cases o <;> first | exact absurd rfl (hc _ _ _) | simp only [Sem.run, h, World.putObj]

theorem e_lookT {t kt et : TypeId} {x y : Operand} {r : Nat} {k : Int} {g : GM α} {v : α} (S : Sep w L F) (i : Nat) (hx : T.evR x = .map (some r)) (hy : T.evR y = .int .i64 k) (hL : L[i]? = some (r, g.obj enc))
    (ht : P.underlying t = some (.map kt et)) (hk : P.underlying kt = some (.int .i64)) (hg : g.get k = some v) (h : Evs P l N (updO T d (.tuple ⟨[enc v, .bool true]⟩)) w) : Evs P (.op (.raw d (.lookup t x y true) ty) :: l) N T w := by
  refine e_raw (w' := w) ?_ h
  have hb := S.at_ _ _ (Sep.mem hL)
  simp only [rawSem, execOp]
  refine pull ?_
  simp only [Instr.lookup, Sem.run_bind, run_und ht, Result.andThen_ok, hx, hy]
  rw [getObj_run hb (by intro c t f; simp [GM.obj])]
  simp only [GM.obj, Result.andThen_ok, Sem.run_bind, Sem.run_pure, checkKey_int hk, findKey_gm hk]
  have := find_idx k g.es
  unfold GM.get at hg
  rw [hg] at this
  cases hf : g.es.findIdx? (fun e => k = e.1) with
  | none => rw [hf] at this; simp at this
  | some j => simp [hg]

theorem e_lookF {t kt et : TypeId} {x y : Operand} {r : Nat} {k : Int} {g : GM α} {z : Value} (S : Sep w L F) (i : Nat) (hx : T.evR x = .map (some r)) (hy : T.evR y = .int .i64 k) (hL : L[i]? = some (r, g.obj enc))
    (ht : P.underlying t = some (.map kt et)) (hk : P.underlying kt = some (.int .i64)) (hz : (P.info? et).bind (·.zero) = some z) (hg : g.get k = none) (h : Evs P l N (updO T d (.tuple ⟨[z, .bool false]⟩)) w) : Evs P (.op (.raw d (.lookup t x y true) ty) :: l) N T w := by
  refine e_raw (w' := w) ?_ h
  have hb := S.at_ _ _ (Sep.mem hL)
  simp only [rawSem, execOp]
  refine pull ?_
  simp only [Instr.lookup, Sem.run_bind, run_und ht, Result.andThen_ok, hx, hy]
  rw [getObj_run hb (by intro c t f; simp [GM.obj])]
  simp only [GM.obj, Result.andThen_ok, Sem.run_bind, Sem.run_pure, checkKey_int hk, findKey_gm hk]
  have := find_idx k g.es
  unfold GM.get at hg
  rw [hg] at this
  cases hf : g.es.findIdx? (fun e => k = e.1) with
  | none => simp [run_zero hz]
  | some j => rw [hf] at this; simp at this

theorem upd_none {k : Int} {v : α} : ∀ {es : List (Int × α × Nat)}, es.findIdx? (fun e => k = e.1) = none → GM.upd k v es = none := by
  intro es
  induction es with
  | nil => intro _; rfl
  | cons e es ih =>
    intro h
    simp only [List.findIdx?_cons] at h
    by_cases hk : k = e.1
    · simp [hk] at h
    · simp only [hk, decide_false, Bool.false_eq_true, if_false, Option.map_eq_none_iff] at h
      simp [GM.upd, hk, ih h]
theorem upd_some {k : Int} {v : α} : ∀ {es : List (Int × α × Nat)} {j : Nat}, es.findIdx? (fun e => k = e.1) = some j →
    ∃ es', GM.upd k v es = some es' ∧ (⟨es.map (GM.entry enc)⟩ : Array MapEntry).modify j (fun e => { e with key := .int .i64 k, val := enc v }) = ⟨es'.map (GM.entry enc)⟩ ∧ ((es.map (GM.entry enc))[j]?).map (·.key) = some (.int .i64 k) := by
  intro es
  induction es with
  | nil => intro j h; simp at h
  | cons e es ih =>
    intro j h
    simp only [List.findIdx?_cons] at h
    by_cases hk : k = e.1
    · simp only [hk, decide_true, if_true, Option.some.injEq] at h
      subst h
      refine ⟨_, by simp [GM.upd, hk]; rfl, ?_, by simp [GM.entry, hk]⟩
      apply Array.ext'
      simp [GM.entry, hk]
    · simp only [hk, decide_false, Bool.false_eq_true, if_false, Option.map_eq_some_iff] at h
      obtain ⟨j', hj', rfl⟩ := h
      obtain ⟨es', h1, h2, h3⟩ := ih hj'
      refine ⟨e :: es', by simp [GM.upd, hk, h1], ?_, by simpa using h3⟩
      have h2' := congrArg Array.toList h2
      apply Array.ext'
      simp at h2' ⊢
      exact h2'

theorem e_mapup {t kt et : TypeId} {x y z : Operand} {r : Nat} {k : Int} {g : GM α} {v : α} (S : Sep w L F) (i : Nat) (hx : T.evR x = .map (some r)) (hy : T.evR y = .int .i64 k) (hL : L[i]? = some (r, g.obj enc)) (hz : T.evR z = enc v)
    (ht : P.underlying t = some (.map kt et)) (hk : P.underlying kt = some (.int .i64)) (h : ∀ w', Sep w' (L.set i (r, (g.set k v).obj enc)) F → Evs P l N (updO T d undef) w') : Evs P (.op (.raw d (.mapUpdate t x y z) ty) :: l) N T w := by
  refine e_rawS ?_ (h _ (S.put i hL _))
  have hb := S.at_ _ _ (Sep.mem hL)
  simp only [rawSem, execOp]
  have key : (Instr.mapUpdate t (T.evR x) (T.evR y) (T.evR z)).run P w = .ok () (w.putObj r ((g.set k v).obj enc)) := by
    simp only [Instr.mapUpdate, Sem.run_bind, run_und ht, Result.andThen_ok, hx, hy, hz]
    rw [getObj_run hb (by intro c t f; simp [GM.obj])]
    simp only [GM.obj, Result.andThen_ok, Sem.run_bind, Sem.run_pure, checkKey_int hk, findKey_gm hk]
    cases hf : g.es.findIdx? (fun e => k = e.1) with
    | none =>
      simp only [GM.set, upd_none hf]
      rw [setObj_run hb (by intro c t f; simp [GM.obj])]
      congr 2
      simp [GM.entry]
    | some j =>
      obtain ⟨es', h1, h2, h3⟩ := upd_some (enc := enc) (v := v) hf
      simp only [GM.set, h1]
      have hkt : (Instr.keyThatStays (.int .i64 k) (.int .i64 k)).run P w = .ok (.int .i64 k) w := by
        simp [Instr.keyThatStays, Instr.sameBits]
      have e3 : (((⟨g.es.map (GM.entry enc)⟩ : Array MapEntry)[j]?).map (·.key)).getD (.int .i64 k) = .int .i64 k := by
        have : (⟨g.es.map (GM.entry enc)⟩ : Array MapEntry)[j]? = (g.es.map (GM.entry enc))[j]? := by simp
        rw [this, h3]; rfl
      simp only [e3, Sem.run_bind, hkt, Result.andThen_ok, h2]
      rw [setObj_run hb (by intro c t f; simp [GM.obj])]
  simp only [Sem.run_bind, key, Result.andThen_ok, Sem.run_pure]

theorem del_none {k : Int} : ∀ {es : List (Int × α × Nat)}, es.findIdx? (fun e => k = e.1) = none → GM.del1 k es = es := by
  intro es
  induction es with
  | nil => intro _; rfl
  | cons e es ih =>
    intro h
    simp only [List.findIdx?_cons] at h
    by_cases hk : k = e.1
    · simp [hk] at h
    · simp only [hk, decide_false, Bool.false_eq_true, if_false, Option.map_eq_none_iff] at h
      simp [GM.del1, hk, ih h]
theorem del_some {k : Int} : ∀ {es : List (Int × α × Nat)} {j : Nat}, es.findIdx? (fun e => k = e.1) = some j → (es.map (GM.entry enc)).eraseIdx j = (GM.del1 k es).map (GM.entry enc) := by
  intro es
  induction es with
  | nil => intro j h; simp at h
  | cons e es ih =>
    intro j h
    simp only [List.findIdx?_cons] at h
    by_cases hk : k = e.1
    · simp only [hk, decide_true, if_true, Option.some.injEq] at h
      subst h
      simp [GM.del1, hk]
    · simp only [hk, decide_false, Bool.false_eq_true, if_false, Option.map_eq_some_iff] at h
      obtain ⟨j', hj', rfl⟩ := h
      simp [GM.del1, hk, ih hj']

theorem e_delete {t kt et : TypeId} {x y : Operand} {ts : Array TypeId} {r : Nat} {k : Int} {g : GM α} (S : Sep w L F) (i : Nat) (hx : T.evR x = .map (some r)) (hy : T.evR y = .int .i64 k) (hL : L[i]? = some (r, g.obj enc)) (hts : ts[0]? = some t)
    (ht : P.underlying t = some (.map kt et)) (hk : P.underlying kt = some (.int .i64)) (h : ∀ w', Sep w' (L.set i (r, (g.del k).obj enc)) F → Evs P l N (updO T d (.tuple #[])) w') : Evs P (.op (.raw d (.call (.mk (.builtin .delete) #[x, y] ts)) ty) :: l) N T w := by
  refine e_raw ?_ (h _ (S.put i hL _))
  have hb := S.at_ _ _ (Sep.mem hL)
  have key : (Builtin.delete_ ts ty #[T.evR x, T.evR y]).run P w = .ok (.tuple #[]) (w.putObj r ((g.del k).obj enc)) := by
    simp only [Builtin.delete_, hts, List.getElem?_toArray, List.getElem?_cons_zero, List.getElem?_cons_succ, Sem.run_bind, run_und ht, Result.andThen_ok, hx, hy]
    rw [getObj_run hb (by intro c t f; simp [GM.obj])]
    simp only [GM.obj, Result.andThen_ok, Sem.run_bind, Sem.run_pure, checkKey_int hk, findKey_gm hk]
    cases hf : g.es.findIdx? (fun e => k = e.1) with
    | none =>
      simp only [GM.del, del_none hf, Sem.run_bind]
      rw [setObj_run hb (by intro c t f; simp [GM.obj])]
      rfl
    | some j =>
      simp only [GM.del, Sem.run_bind]
      rw [setObj_run hb (by intro c t f; simp [GM.obj])]
      have : (⟨g.es.map (GM.entry enc)⟩ : Array MapEntry).eraseIdxIfInBounds j = ⟨(GM.del1 k g.es).map (GM.entry enc)⟩ := by
        rw [← del_some (enc := enc) hf]
        apply Array.ext'
        simp
      simp only [this, Result.andThen_ok, Sem.run_pure]
  simp only [rawSem, execOp, resolve, Sem.run_bind, Sem.run_pure, Result.andThen_ok, invoke, builtin, List.map_toArray, List.map_cons, List.map_nil, key]

theorem e_clearM {t kt et : TypeId} {x : Operand} {ts : Array TypeId} {r : Nat} {g : GM α} (S : Sep w L F) (i : Nat) (hx : T.evR x = .map (some r)) (hL : L[i]? = some (r, g.obj enc)) (hts : ts[0]? = some t)
    (ht : P.underlying t = some (.map kt et)) (h : ∀ w', Sep w' (L.set i (r, (g.clear).obj enc)) F → Evs P l N (updO T d (.tuple #[])) w') : Evs P (.op (.raw d (.call (.mk (.builtin .clear) #[x] ts)) ty) :: l) N T w := by
  refine e_raw ?_ (h _ (S.put i hL _))
  have hb := S.at_ _ _ (Sep.mem hL)
  have key : (Builtin.clear_ ts ty #[T.evR x]).run P w = .ok (.tuple #[]) (w.putObj r ((g.clear).obj enc)) := by
    simp only [Builtin.clear_, hts, List.getElem?_toArray, List.getElem?_cons_zero, Sem.run_bind, run_und ht, Result.andThen_ok, hx]
    rw [getObj_run hb (by intro c t f; simp [GM.obj])]
    simp only [GM.obj, Result.andThen_ok, Sem.run_bind, Sem.run_pure]
    rw [setObj_run hb (by intro c t f; simp [GM.obj])]
    rfl
  simp only [rawSem, execOp, resolve, Sem.run_bind, Sem.run_pure, Result.andThen_ok, invoke, builtin, List.map_toArray, List.map_cons, List.map_nil, key]

theorem e_mkmap {t : TypeId} (enc : α → Value) (S : Sep w L F) (h : ∀ b w', Sep w' ((b, (GM.obj enc (⟨[], 0⟩ : GM α))) :: L) F → Evs P l N (updO T d (.map (some b))) w') : Evs P (.op (.raw d (.makeMap t none) ty) :: l) N T w := by
  refine e_raw (w' := w.alloc (.map #[] 0)) ?_ (h w.heap.size _ (S.alloc _))
  simp only [rawSem, execOp]
  refine pull ?_
  simp [Instr.makeMap]

end Dn

/-
  Rules for arithmetic, indexes and parts of strings and slices.
-/
namespace Dn
open Go

theorem wrap_id {n : Int} (h1 : -9223372036854775808 ≤ n) (h2 : n < 9223372036854775808) : IntKind.i64.wrap n = n := by
  simp [IntKind.wrap, IntKind.signed, IntKind.bits]
  omega
theorem wrap_u8 (n : Int) : IntKind.u8.wrap n = n % 256 := by simp [IntKind.wrap, IntKind.signed, IntKind.bits]
theorem wrap_u16 (n : Int) : IntKind.u16.wrap n = n % 65536 := by simp [IntKind.wrap, IntKind.signed, IntKind.bits]
theorem wrap_u32 (n : Int) : IntKind.u32.wrap n = n % 4294967296 := by simp [IntKind.wrap, IntKind.signed, IntKind.bits]
theorem wrap_u64 (n : Int) : IntKind.u64.wrap n = n % 18446744073709551616 := by simp [IntKind.wrap, IntKind.signed, IntKind.bits]

variable {P : Program} {w : World} {L L1 L2 : List (Nat × Obj)} {F : Fr} {T : Rg} {N : Rg → World → Prop} {l : List Ins} {d : Option Nat} {x y : X}

theorem e_add {a b : Int} (hx : T.ev x = .int .i64 a) (hy : T.ev y = .int .i64 b) (h1 : -9223372036854775808 ≤ a + b) (h2 : a + b < 9223372036854775808) (h : Evs P l N (updO T d (.int .i64 (a + b))) w) : Evs P (.op (.ar d .add x y) :: l) N T w :=
  e_ar (by rw [hx, hy]; simp [arV, kEq, wrap_id h1 h2]) h
theorem e_sub {a b : Int} (hx : T.ev x = .int .i64 a) (hy : T.ev y = .int .i64 b) (h1 : -9223372036854775808 ≤ a - b) (h2 : a - b < 9223372036854775808) (h : Evs P l N (updO T d (.int .i64 (a - b))) w) : Evs P (.op (.ar d .sub x y) :: l) N T w :=
  e_ar (by rw [hx, hy]; simp [arV, kEq, wrap_id h1 h2]) h
theorem e_mul {a b : Int} (hx : T.ev x = .int .i64 a) (hy : T.ev y = .int .i64 b) (h1 : -9223372036854775808 ≤ a * b) (h2 : a * b < 9223372036854775808) (h : Evs P l N (updO T d (.int .i64 (a * b))) w) : Evs P (.op (.ar d .mul x y) :: l) N T w :=
  e_ar (by rw [hx, hy]; simp [arV, kEq, wrap_id h1 h2]) h
/-- Arithmetic, its value told. -/
theorem e_arv {op : BinOp} {u v : Value} {r : Value} (hx : T.ev x = u) (hy : T.ev y = v) (hr : arV op u v = some r) (h : Evs P l N (updO T d r) w) : Evs P (.op (.ar d op x y) :: l) N T w :=
  e_ar (by rw [hx, hy]; exact hr) h
theorem e_cat {a b : ByteArray} (hx : T.ev x = .string a) (hy : T.ev y = .string b) (hl : a.size + b.size < 9223372036854775808) (h : Evs P l N (updO T d (.string (a ++ b))) w) : Evs P (.op (.ar d .add x y) :: l) N T w := by
  refine e_ar ?_ h
  rw [hx, hy]
  simp only [arV]
  have : ¬ (((a.size + b.size : Nat) : Int) > IntKind.i64.max) := by
    have : IntKind.i64.max = 9223372036854775807 := by decide
    rw [this]; omega
  rw [if_neg this]

theorem e_s2a {n ln cap : Nat} {a : Option Addr} (hx : T.ev x = .slice a ln cap) (hn : n ≤ ln) (h : Evs P l N (updO T d (.pointer a)) w) : Evs P (.op (.p d (.s2a n x)) :: l) N T w :=
  e_p (by simp only [PE.ev, hx, if_pos hn]) h
theorem e_ixa {n b o ln cap : Nat} {k : IntKind} {j : Int} (hx : T.ev x = .slice (some ⟨b, o, none⟩) ln cap) (hy : T.ev y = .int k j) (h0 : 0 ≤ j) (h1 : j < (ln : Int)) (h : Evs P l N (updO T d (.pointer (some ⟨b, o + j.toNat * n, none⟩))) w) : Evs P (.op (.p d (.ixa n x y)) :: l) N T w :=
  e_p (by simp only [PE.ev, hx, hy, if_pos (And.intro h0 h1)]) h
theorem e_ixp {ln n b o : Nat} {k : IntKind} {j : Int} (hx : T.ev x = .pointer (some ⟨b, o, none⟩)) (hy : T.ev y = .int k j) (h0 : 0 ≤ j) (h1 : j < (ln : Int)) (h : Evs P l N (updO T d (.pointer (some ⟨b, o + j.toNat * n, none⟩))) w) : Evs P (.op (.p d (.ixp ln n x y)) :: l) N T w :=
  e_p (by simp only [PE.ev, hx, hy, if_pos (And.intro h0 h1)]) h
theorem e_ixv {ln : Nat} {k : IntKind} {j : Int} {cs : List Value} {v : Value} (hx : T.ev x = .agg ⟨cs⟩) (hy : T.ev y = .int k j) (h0 : 0 ≤ j) (h1 : j < (ln : Int)) (hv : cs[j.toNat]? = some v) (h : Evs P l N (updO T d v) w) : Evs P (.op (.p d (.ixv ln none x y)) :: l) N T w :=
  e_p (by simp only [PE.ev, hx, hy, if_pos (And.intro h0 h1), hv]) h
theorem e_ixs {s : ByteArray} {k : IntKind} {j : Int} {u : UInt8} (hx : T.ev x = .string s) (hy : T.ev y = .int k j) (h0 : 0 ≤ j) (h1 : j < (s.size : Int)) (hu : s.data.toList.getD j.toNat 0 = u) (h : Evs P l N (updO T d (.int .u8 (u.toNat : Int))) w) : Evs P (.op (.p d (.ixs x y)) :: l) N T w :=
  e_p (by simp only [PE.ev, hx, hy, if_pos (And.intro h0 h1), hu]) h
theorem e_sls {s : ByteArray} {lo hi : Option X} {a b : Nat} (hx : T.ev x = .string s) (hb : bndV T hi s.size s.size = some b) (ha : bndV T lo 0 b = some a) (h : Evs P l N (updO T d (.string (s.extract a b))) w) : Evs P (.op (.p d (.sls x lo hi)) :: l) N T w :=
  e_p (by simp only [PE.ev, hx, hb, ha]) h
theorem e_sll {n ln cap : Nat} {ad : Option Addr} {lo hi : Option X} {a b : Nat} (hx : T.ev x = .slice ad ln cap) (hb : bndV T hi ln cap = some b) (ha : bndV T lo 0 b = some a) (h : Evs P l N (updO T d (.slice (if cap = a then ad else ad.map (·.add (a * n))) (b - a) (cap - a))) w) : Evs P (.op (.p d (.sll n x lo hi)) :: l) N T w :=
  e_p (by simp only [PE.ev, hx, hb, ha]) h
theorem e_slp {ln n : Nat} {ad : Addr} {lo hi : Option X} {a b : Nat} (hx : T.ev x = .pointer (some ad)) (hb : bndV T hi ln ln = some b) (ha : bndV T lo 0 b = some a) (h : Evs P l N (updO T d (.slice (some (if ln = a then ad else ad.add (a * n))) (b - a) (ln - a))) w) : Evs P (.op (.p d (.slp ln n x lo hi)) :: l) N T w :=
  e_p (by simp only [PE.ev, hx, hb, ha]) h
theorem bnd_n (T : Rg) (a b : Nat) : bndV T none a b = some a := rfl
theorem bnd_s {k : IntKind} {i : Int} {n b a : Nat} (hx : T.ev x = .int k i) (hi : i = (n : Int)) (hn : n ≤ b) : bndV T (some x) a b = some n := by
  subst hi
  simp only [bndV, hx]
  rw [if_pos ⟨by omega, by omega⟩]; rfl

theorem bytesOf_bv (l : List UInt8) : bytesOf (l.map fun b => .int .u8 (b.toNat : Int)) = some l := by
  induction l with
  | nil => rfl
  | cons b l ih => simp [bytesOf, ih]

theorem rowOf_sep (S : Sep w L F) (i : Nat) {b off ty n : Nat} {cs vs : List Value} {fr : Nat × Nat} (h : L[i]? = some (b, .cells ⟨cs⟩ ty fr)) (hn : off + n ≤ cs.length) (hv : (cs.drop off).take n = vs) : rowOf w ⟨b, off, none⟩ n = some vs := by
  have := S.at_ _ _ (Sep.mem h)
  simp [rowOf, this, hn, hv]

/-- string(bytes) -/
theorem Sep.str (S : Sep w L F) (i : Nat) {b off ty n cap : Nat} {cs : List Value} {fr : Nat × Nat} {s : List UInt8} (h : L[i]? = some (b, .cells ⟨cs⟩ ty fr)) (hn : off + n ≤ cs.length) (hv : (cs.drop off).take n = s.map fun b => .int .u8 (b.toNat : Int)) :
    b2sV (.slice (some ⟨b, off, none⟩) n cap) w = some (.string ⟨⟨s⟩⟩) := by
  simp only [b2sV, rowOf_sep S i h hn hv, bytesOf_bv]

theorem e_nwE {t : TypeId} {cs cs' : List Value} (S : Sep w L F) (e : cs = cs') (h : ∀ b w', Sep w' ((b, .cells ⟨cs'⟩ t) :: L) F → Evs P l N (updO T d (.pointer (some ⟨b, 0, none⟩))) w') : Evs P (.op (.nw d t cs) :: l) N T w := by
  subst e; exact e_nw S h
theorem putAt_all {cs vs : List Value} (h : vs.length = cs.length) : putAt cs 0 vs = vs := by
  simp [putAt, h]

end Dn

/-
  Loops; slices that grow: append, make, composite slices.
-/
namespace Dn
open Go

variable {P : Program} {m : Nat} {w : World} {L L1 L2 Lb : List (Nat × Obj)} {F : Fr} {T : Rg} {N : Rg → World → Prop} {l : List Ins} {d : Option Nat} {ty : TypeId} {K : Ex → Rg → World → Prop} {a : Cd}

/-! ### loops -/
def setL (T : Rg) : List (Nat × Value) → Rg
  | [] => T
  | p :: l => upd (setL T l) p.1 p.2
def pins (T : Rg) : List (Nat × Value) → Prop
  | [] => True
  | p :: l => T.f p.1 = p.2 ∧ pins T l
theorem setL_pins {T : Rg} : ∀ {l : List (Nat × Value)}, pins T l → setL T l = T := by
  intro l
  induction l with
  | nil => intro _; rfl
  | cons p l ih =>
    intro h
    simp only [setL, ih h.2]
    rw [← h.1, upd_same]

theorem Ev_mono {K K' : Ex → Rg → World → Prop} (hK : ∀ e T w, K e T w → K' e T w) : ∀ (a : Cd) {T : Rg} {w : World}, Ev P m a K T w → Ev P m a K' T w := by
  intro a
  induction a generalizing K K' with
  | skip => intro T w h; exact hK _ _ _ h
  | ops l draw => intro T w h; exact evs_mono (fun T w h => hK _ _ _ h) l _ _ h
  | dr t => intro T w h; exact evT_mono (fun T w h => hK _ _ _ h) t _ _ h
  | seq a b iha ihb =>
    intro T w h
    refine iha (K := thenK (Ev P m b K) K) (fun e T w h => ?_) h
    cases e with
    | n => exact ihb hK h
    | x id => exact hK _ _ _ h
    | r => exact hK _ _ _ h
  | ite c a b iha ihb => intro T w ⟨t, hc, h1, h2⟩; exact ⟨t, hc, fun e => iha hK (h1 e), fun e => ihb hK (h2 e)⟩
  | blk id a iha =>
    intro T w h
    refine iha (K := blkK id K) (fun e T w h => ?_) h
    cases e with
    | n => exact hK _ _ _ h
    | x i =>
      simp only [blkK] at h ⊢
      cases hb : Nat.beq i id <;> rw [hb] at h <;> exact hK _ _ _ h
    | r => exact hK _ _ _ h
  | loop a iha =>
    intro T w ⟨I, μ, h0, hs⟩
    refine ⟨I, μ, h0, fun T' w' hi => iha (K := thenK (fun T'' w'' => I T'' w'' ∧ μ T'' w'' < μ T' w') K) (fun e T w h => ?_) (hs T' w' hi)⟩
    cases e with
    | n => exact h
    | x id => exact hK _ _ _ h
    | r => exact hK _ _ _ h
  | exit id => intro T w h; exact hK _ _ _ h
  | ret => intro T w h; exact hK _ _ _ h
  | rf g ps assign body ca cb =>
    intro T w ⟨gf, fs, cs, hg, hc, h⟩
    refine ⟨gf, fs, cs, hg, hc, fun fn tmps h1 h2 => (h fn tmps h1 h2).mono ?_⟩
    rintro v w' ⟨e, st, k1, k2, k3⟩
    exact ⟨e, st, k1, k2, hK _ _ _ k3⟩
  | bad => intro T w h; exact h.elim

theorem least (p : Nat → Prop) : ∀ n, p n → ∃ n, p n ∧ ∀ k, p k → n ≤ k := by
  intro n
  induction n using Nat.strongRecOn with
  | ind n ih =>
    intro hn
    by_cases h : ∃ k, k < n ∧ p k
    · obtain ⟨k, h1, h2⟩ := h; exact ih k h1 h2
    · exact ⟨n, hn, fun k hk => Nat.le_of_not_lt fun hlt => h ⟨k, hlt, hk⟩⟩

/-- A loop: what is carried stands in named registers; of the others nothing is known in the next round. -/
theorem s_loop {σ : Type} (vals : σ → List (Nat × Value)) (inv : σ → World → Prop) (μ : σ → Nat) (s0 : σ) (hT : pins T (vals s0)) (hd : T.ds = []) (h0 : inv s0 w)
    (hs : ∀ (g : Nat → Value) (s : σ) w', inv s w' → Ev P m a (thenK (fun T'' w'' => T''.ds = [] ∧ ∃ s', pins T'' (vals s') ∧ inv s' w'' ∧ μ s' < μ s) K) (setL ⟨g, []⟩ (vals s)) w') : Ev P m (.loop a) K T w := by
  have key : ∀ T : Rg, T.ds = [] → T = ⟨T.f, []⟩ := by rintro ⟨f, ds⟩ h; simp only at h; subst h; rfl
  have mm : ∀ (T' : Rg) (w' : World), ∃ k, (∃ s, pins T' (vals s) ∧ inv s w') → (∃ s, pins T' (vals s) ∧ inv s w' ∧ μ s = k) ∧ ∀ s, pins T' (vals s) → inv s w' → k ≤ μ s := by
    intro T' w'
    by_cases h : ∃ s, pins T' (vals s) ∧ inv s w'
    · obtain ⟨s, h1, h2⟩ := h
      obtain ⟨k, h3, h4⟩ := least (fun k => ∃ s, pins T' (vals s) ∧ inv s w' ∧ μ s = k) (μ s) ⟨s, h1, h2, rfl⟩
      exact ⟨k, fun _ => ⟨h3, fun s k1 k2 => h4 _ ⟨s, k1, k2, rfl⟩⟩⟩
    · exact ⟨0, fun h' => absurd h' h⟩
  refine ⟨fun T' w' => T'.ds = [] ∧ ∃ s, pins T' (vals s) ∧ inv s w', fun T' w' => Classical.choose (mm T' w'), ⟨hd, s0, hT, h0⟩, ?_⟩
  rintro T' w' ⟨hd', hex⟩
  obtain ⟨⟨s, hp, hi, hmu⟩, -⟩ := Classical.choose_spec (mm T' w') hex
  have e : T' = setL ⟨T'.f, []⟩ (vals s) := by
    have hp' : pins (⟨T'.f, []⟩ : Rg) (vals s) := by rw [← key T' hd']; exact hp
    rw [setL_pins hp', ← key T' hd']
  have h := hs T'.f s w' hi
  rw [← e] at h
  refine Ev_mono ?_ _ h
  rintro ex T'' w'' hk
  cases ex with
  | n =>
    obtain ⟨hd'', s', h1, h2, h3⟩ := hk
    have hex'' : ∃ s, pins T'' (vals s) ∧ inv s w'' := ⟨s', h1, h2⟩
    refine ⟨⟨hd'', hex''⟩, ?_⟩
    rw [hmu] at h3
    exact Nat.lt_of_le_of_lt ((Classical.choose_spec (mm T'' w'') hex'').2 s' h1 h2) h3
  | x id => exact hk
  | r => exact hk

/-! ### slices that grow -/

/-- A slice that is held whole: address, length, capacity, the cells of its elements, its block (none: nil). -/
structure OwnS (e : TypeId) (size : Nat) (ad : Option Addr) (n cap : Nat) (xs : List Value) (Lb : List (Nat × Obj)) : Prop where
  len : xs.length = n * size
  le : n ≤ cap
  own : (ad = none ∧ cap = 0 ∧ Lb = []) ∨ ∃ b sp lo hi, ad = some ⟨b, 0, none⟩ ∧ sp.length = (cap - n) * size ∧ (hi ≤ lo ∨ cap * size ≤ lo) ∧ Lb = [(b, .cells ⟨xs ++ sp⟩ e (lo, hi))]

theorem OwnS.nil {e : TypeId} {size : Nat} : OwnS e size none 0 0 [] [] := ⟨by simp, Nat.le_refl _, .inl ⟨rfl, rfl, rfl⟩⟩
theorem OwnS.row {e : TypeId} {size b n : Nat} {xs : List Value} (h : xs.length = n * size) : OwnS e size (some ⟨b, 0, none⟩) n n xs [(b, .cells ⟨xs⟩ e)] :=
  ⟨h, Nat.le_refl _, .inr ⟨b, [], 0, 0, rfl, by simp, .inl (Nat.le_refl _), by simp⟩⟩

theorem flat_one {v : Value} (h : Value.flat v = true) : v.oneCell' = true := by cases v <;> simp_all [Value.flat, Value.oneCell']
theorem one_flat {v : Value} (h : v.oneCell' = true) : Value.flat v = true := by cases v <;> simp_all [Value.flat, Value.oneCell']

/-- What lies behind a slice's address. -/
theorem src_row {size m cap : Nat} {tx e' : TypeId} {a : Addr} {ys : List Value} (ht : P.underlying tx = some (.slice e')) (hr : rowOf w a (m * size) = some ys) (hf : ∀ v ∈ ys, Value.flat v = true) : Src P size tx (.slice (some a) m cap) m ys w := by
  have hl : ys.length = m * size := by
    unfold rowOf at hr
    split at hr
    · split at hr
      · rename_i h; injection hr with hr; subst hr; simp; omega
      · simp at hr
    · simp at hr
  have hd : rowOf w.drew a (m * size) = some ys := hr
  exact ⟨.inl ⟨e', ht⟩, fun _ => rfl, by simp only [Builtin.firstCells]; exact rowOf_run hr, by simp only [Builtin.firstCells]; exact rowOf_run hd, hl, fun u hu => flat_one (hf u hu)⟩

theorem OwnS.rowOf {e : TypeId} {size : Nat} {a : Addr} {n cap : Nat} {xs : List Value} (hO : OwnS e size (some a) n cap xs Lb) (S : Sep w (L ++ Lb) F) : Dn.rowOf w a (n * size) = some xs := by
  rcases hO.own with ⟨h, _⟩ | ⟨b, sp, lo, hi, h, hs, hf, hL⟩
  · simp at h
  · injection h with h; subst h
    have hb := S.at_ b (.cells ⟨xs ++ sp⟩ e (lo, hi)) (by rw [hL]; simp)
    simp only [Dn.rowOf, hb]
    rw [if_pos ⟨trivial, by simp [hO.len]⟩]
    simp [← hO.len]

theorem e_app {t tx e : TypeId} {i : TypeInfo} {z : Value} {size k n cap : Nat} {ad : Option Addr} {xs ys : List Value} {x y : Operand} (S : Sep w (L ++ Lb) F) (hO : OwnS e size ad n cap xs Lb)
    (hx : T.evR x = .slice ad n cap) (hs : Src P size tx (T.evR y) k ys w) (ht : P.underlying t = some (.slice e)) (hi : P.info? e = some i) (hz : i.zero = some z) (hsz : i.size = size) (hzs : z.cells.size = size)
    (hfit : (n + k) * i.bytes ≤ 140737488355328) (h63 : n + k ≤ 140737488355328)
    (h : ∀ ad' cap' Lb' w', OwnS e size ad' (n + k) cap' (xs ++ ys) Lb' → Sep w' (L ++ Lb') F → Evs P l N (updO T d (.slice ad' (n + k) cap')) w') :
    Evs P (.op (.raw d (.call (.mk (.builtin .append) #[x, y] #[t, tx])) ty) :: l) N T w := by
  have hraw : ∀ {v w'}, (Builtin.append_ #[t, tx] ty #[T.evR x, T.evR y]).run P w = .ok v w' → (rawSem T (.call (.mk (.builtin .append) #[x, y] #[t, tx])) ty).run P w = .ok (.value v) w' := by
    intro v w' hr
    simp only [rawSem, execOp, resolve, Sem.run_bind, Sem.run_pure, Result.andThen_ok, invoke, builtin, List.map_toArray, List.map_cons, List.map_nil, hr]
  subst hsz
  have hlen : (xs ++ ys).length = (n + k) * i.size := by rw [List.length_append, hO.len, hs.newsLen, Nat.add_mul]
  by_cases hroom : n + k ≤ cap
  · -- there is room
    rcases hO.own with ⟨rfl, rfl, rfl⟩ | ⟨b, sp, lo, hi', rfl, hsp, hfr, rfl⟩
    · have hn : n = 0 := by omega
      have hk : k = 0 := by omega
      subst hn; subst hk
      have hys : ys = [] := List.eq_nil_of_length_eq_zero (by rw [hs.newsLen]; omega)
      subst hys
      refine e_raw (w' := w) (v := .slice none 0 0) (hraw ?_) (by have := h none 0 [] w ⟨by simpa using hlen, by omega, .inl ⟨rfl, rfl, rfl⟩⟩ S; simpa using this)
      rw [hx]
      rcases hs.kind with ⟨e', hk⟩ | hk <;> simp [Builtin.append_, run_underlying ht, run_underlying hk, Go.sizeOf, typeInfo, hi, hs.len, hs.cells]
    · have hb := S.at_ b _ (by simp : (b, Obj.cells ⟨xs ++ sp⟩ e (lo, hi')) ∈ L ++ [(b, Obj.cells ⟨xs ++ sp⟩ e (lo, hi'))])
      have hsplit : (cap - n) * i.size = k * i.size + (cap - (n + k)) * i.size := by rw [← Nat.add_mul]; congr 1; omega
      have hcap : cap * i.size = n * i.size + (cap - n) * i.size := by rw [← Nat.add_mul]; congr 1; omega
      have hst := storeCells_run (P := P) (a := ⟨b, n * i.size, none⟩) (ty := e) (lo := lo) (hi := hi') rfl ys 0 w (xs ++ sp) hb (fun v hv => one_flat (hs.one v hv)) (by simp [hO.len, hsp, hs.newsLen]; omega) (by
        intro j h1 h2 hh
        have := hs.newsLen
        simp only [Nat.add_zero] at h1 h2
        rcases hfr with hfr | hfr <;> omega)
      simp only [Nat.add_zero] at hst
      have hput : putAt (xs ++ sp) (n * i.size) ys = (xs ++ ys) ++ sp.drop (k * i.size) := by
        unfold putAt
        rw [← hO.len, List.take_left, List.append_assoc, hs.newsLen]
        congr 2
        rw [← List.drop_drop, List.drop_left]
      have hS : ∀ w', Sep w' (L ++ [(b, .cells ⟨xs ++ ys ++ sp.drop (k * i.size)⟩ e (lo, hi'))]) F → Evs P l N (updO T d (.slice (some ⟨b, 0, none⟩) (n + k) cap)) w' := fun w' S' =>
        h _ _ _ w' ⟨hlen, hroom, .inr ⟨b, sp.drop (k * i.size), lo, hi', rfl, by rw [List.length_drop, hsp]; omega, hfr, rfl⟩⟩ S'
      have hadd : (Addr.add ⟨b, 0, none⟩ (n * i.size)) = ⟨b, n * i.size, none⟩ := by rw [addr_add]; simp
      by_cases hy0 : ys = []
      · subst hy0
        refine e_raw (w' := w) (v := .slice (some ⟨b, 0, none⟩) (n + k) cap) (hraw ?_) (hS w ?_)
        · rw [hx]
          rcases hs.kind with ⟨e', hk⟩ | hk <;> simp [Builtin.append_, run_underlying ht, run_underlying hk, Go.sizeOf, typeInfo, hi, hs.len, hroom, hs.cells, storeCells]
        · have : k * i.size = 0 := by rw [← hs.newsLen]; rfl
          rw [this]; simpa using S
      · rw [if_neg hy0, hput] at hst
        refine e_raw (v := .slice (some ⟨b, 0, none⟩) (n + k) cap) (hraw ?_) (hS _ (by
          have := S.put L.length (b := b) (o := .cells ⟨xs ++ sp⟩ e (lo, hi')) (by simp) (.cells ⟨xs ++ ys ++ sp.drop (k * i.size)⟩ e (lo, hi'))
          simpa using this))
        rw [hx]
        rcases hs.kind with ⟨e', hk⟩ | hk <;> simp [Builtin.append_, run_underlying ht, run_underlying hk, Go.sizeOf, typeInfo, hi, hs.len, hroom, hs.cells, hadd, hst]
  · have hg : cap < n + k := by omega
    have hold : (Builtin.firstCells i.size n (.slice ad n cap)).run P w.drew = .ok xs.toArray w.drew := by
      cases ad with
      | none =>
        rcases hO.own with ⟨_, hc, hL⟩ | ⟨b, sp, lo, hi', h', _⟩
        · have hn : n = 0 := by have := hO.le; omega
          have : xs = [] := List.eq_nil_of_length_eq_zero (by rw [hO.len, hn]; omega)
          subst this
          exact run_firstCells_none w.drew i.size n n cap
        · simp at h'
      | some a =>
        simp only [Builtin.firstCells]
        exact rowOf_run (hO.rowOf S.drew)
    have hr := run_append_grow_src w t tx ty e i z ht hi hz ad n cap xs hold (T.evR y) k ys hs hg (by omega) (growslice_fits hg hfit)
    rw [← hx] at hr
    refine e_raw (hraw hr) ?_
    have hge := grownCap_ge w (n + k) cap e
    refine h _ _ [(w.heap.size, .cells ⟨xs ++ ys ++ (Builtin.zeroCells z.cells (grownCap w (n + k) cap e - (n + k))).toList⟩ e)] _ ⟨hlen, hge, .inr ⟨_, _, 0, 0, rfl, ?_, .inl (Nat.le_refl _), rfl⟩⟩ ?_
    · simp [Builtin.zeroCells, hzs]
    · have S2 := (S.drew.alloc (.cells ((xs ++ ys).toArray ++ Builtin.zeroCells z.cells (grownCap w (n + k) cap e - (n + k))) e)).perm (L1 := L ++ ((w.heap.size, .cells ((xs ++ ys).toArray ++ Builtin.zeroCells z.cells (grownCap w (n + k) cap e - (n + k))) e) :: Lb)) List.perm_middle.symm
      have : ((xs ++ ys).toArray ++ Builtin.zeroCells z.cells (grownCap w (n + k) cap e - (n + k)) : Array Value) = ⟨xs ++ ys ++ (Builtin.zeroCells z.cells (grownCap w (n + k) cap e - (n + k))).toList⟩ := by
        apply Array.ext'; simp
      rw [this] at S2 ⊢
      rcases hO.own with ⟨_, _, hL⟩ | ⟨b, sp, lo, hi', _, _, _, hL⟩
      · rw [hL] at S2; exact S2
      · rw [hL] at S2
        refine Sep.drop (L2 := [(b, .cells ⟨xs ++ sp⟩ e (lo, hi'))]) (S2.perm ?_)
        rw [show ∀ (p q : Nat × Obj), L ++ [p, q] = (L ++ [p]) ++ [q] by intros; simp]
        exact List.perm_append_singleton _ _

/-- make([]e, n): the zero's cells are all alike. -/
theorem e_mksl {t e : TypeId} {i : TypeInfo} {u : Value} {size n : Nat} {x y : Operand} (S : Sep w L F) (hx : T.evR x = .int .i64 (n : Int)) (hy : T.evR y = .int .i64 (n : Int)) (ht : P.underlying t = some (.slice e)) (hi : P.info? e = some i) (hsz : i.size = size)
    (hz : ∃ z, i.zero = some z ∧ z.cells = ⟨List.replicate size u⟩) (hn : n ≤ 1000000) (hb : i.bytes ≤ 1000000)
    (h : ∀ b w', Sep w' (L ++ [(b, .cells ⟨List.replicate (n * size) u⟩ e)]) F → Evs P l N (updO T d (.slice (some ⟨b, 0, none⟩) n n)) w') : Evs P (.op (.raw d (.makeSlice t x y) ty) :: l) N T w := by
  obtain ⟨z, hz, hzc⟩ := hz
  subst hsz
  have hrun : (Instr.makeSlice t (T.evR x) (T.evR y)).run P w = .ok (.slice (some ⟨w.heap.size, 0, none⟩) n n) (w.alloc (.cells ⟨List.replicate (n * i.size) u⟩ e)) := by
    have hw : IntKind.i64.wrap (n : Int) = n := wrap_id (by omega) (by omega)
    have hmul : ((i.bytes * n : Nat) : Int) ≤ 2 ^ 48 := by
      have := Nat.mul_le_mul hb hn
      omega
    have hm : ¬ ((i.bytes : Int) * (n : Int) > 2 ^ 48) := by rw [← Int.natCast_mul]; omega
    have hm2 : ¬ ((2 : Int) ^ 48 < (i.bytes : Int) * (n : Int)) := hm
    have hcells : (if n * i.size = 0 then (#[] : Array Value) else z.cells) = (if n * i.size = 0 then (#[] : Array Value) else ⟨List.replicate i.size u⟩) := by rw [hzc]
    have hrow : ∀ zc : Array Value, (n * i.size ≠ 0 → zc = ⟨List.replicate i.size u⟩) → ((Array.range (n * i.size)).map (zc[· % zc.size]!)) = ⟨List.replicate (n * i.size) u⟩ := by
      intro zc hzz
      apply Array.ext'
      simp only [Array.toList_map, Array.toList_range]
      by_cases h0 : n * i.size = 0
      · simp [h0]
      · have := hzz h0; subst this
        have hp : 0 < i.size := Nat.pos_of_ne_zero fun h => h0 (by rw [h]; simp)
        apply List.ext_getElem
        · simp
        · intro j h1 h2
          simp only [List.getElem_map, List.getElem_range, List.size_toArray, List.length_replicate, List.getElem_replicate]
          rw [getElem!_pos _ _ (by simpa using Nat.mod_lt _ hp)]
          simp
    have hw0 : ¬ ((n : Int) < 0) := by omega
    rw [hx, hy]
    have hai : (asInt (.int .i64 (n : Int))).run P w = .ok (n : Int) w := by simp [asInt, asIntOf]
    simp only [Instr.makeSlice, Sem.run_bind, run_und ht, Result.andThen_ok, run_tinfo hi, hai, hw]
    rw [if_neg (by simp [hw0]; omega)]
    have hn' : ((n : Int)).toNat = n := by omega
    simp only [Sem.run_bind, run_askRoom, Result.andThen_ok, run_sz hi, hn']
    have hnew : ∀ c : Array Value, (newRow e c).run P w = .ok ⟨w.heap.size, 0, none⟩ (w.alloc (.cells c e)) := fun c => by simp [newRow]
    have hzr : (P.info? e).bind (·.zero) = some z := by rw [hi]; exact hz
    by_cases h0 : n * i.size = 0
    · have hr := hrow #[] (fun h => absurd h0 h)
      rw [if_pos h0]
      simp only [Sem.run_pure, Sem.run_bind, Result.andThen_ok, hnew, hr]
    · have hr := hrow z.cells (fun _ => hzc)
      rw [if_neg h0]
      simp only [Sem.run_bind, Sem.run_pure, Result.andThen_ok, run_zero hzr, hnew, hr]
  refine e_raw (by simp only [rawSem, execOp]; exact pull hrun) (h w.heap.size _ ?_)
  exact (S.alloc _).perm (List.perm_append_singleton _ _).symm

theorem parts_run {size : Nat} : ∀ (ps : List (Nat × Operand)), cParts (fun j => some (j * size, size)) ps = some (ps.map fun p => (p.1 * size, size, cX p.2)) := by
  intro ps
  induction ps with
  | nil => rfl
  | cons p ps ih => obtain ⟨i, x⟩ := p; simp [cParts, ih]

/-- A composite slice. -/
theorem e_bsl {t e : TypeId} {i : TypeInfo} {size n : Nat} {ps : List (Nat × Operand)} {xs : List Value} (S : Sep w L F) (ht : P.underlying t = some (.slice e)) (hi : P.info? e = some i) (hsz : i.size = size) (hz : ∃ z, i.zero = some z)
    (hn : 0 < n * size) (hn2 : n * size ≤ 16777216) (hf : ∀ zs : List Value, zs.length = n * size → fillL zs (partsV T (ps.map fun p => (p.1 * size, size, cX p.2))) = some xs)
    (h : ∀ b w', Sep w' (L ++ [(b, .cells ⟨xs⟩ e)]) F → Evs P l N (updO T d (.slice (some ⟨b, 0, none⟩) n n)) w') : Evs P (.op (.raw d (.buildSlice t n ⟨ps⟩) ty) :: l) N T w := by
  obtain ⟨z, hz⟩ := hz
  subst hsz
  have hfill := fillL_eq ps (fun j => some (j * i.size, i.size)) T ((List.range (n * i.size)).map (z.cells[· % z.cells.size]!)) _ xs (parts_run ps) (hf _ (by simp))
  have e1 : (Array.range (n * i.size)).map (z.cells[· % z.cells.size]!) = ⟨(List.range (n * i.size)).map (z.cells[· % z.cells.size]!)⟩ := by apply Array.ext'; simp
  have e2 : ((⟨ps⟩ : Array (Nat × Operand)).map fun (i, x) => (i, T.evR x)).toList = ps.map fun (i, x) => (i, T.evR x) := by simp
  have hrun : (Instr.buildSlice t n ((⟨ps⟩ : Array (Nat × Operand)).map fun (i, x) => (i, T.evR x))).run P w = .ok (.slice (some ⟨w.heap.size, 0, none⟩) n n) (w.alloc (.cells ⟨xs⟩ e)) := by
    simp only [Instr.buildSlice, Sem.run_bind, run_und ht, Result.andThen_ok, run_sz hi]
    rw [if_neg (by omega), if_neg (by omega)]
    have hzr : (P.info? e).bind (·.zero) = some z := by rw [hi]; exact hz
    simp only [Sem.run_bind, Sem.run_pure, Result.andThen_ok, run_zero hzr, e1, e2, hfill]
    simp [newRow]
  refine e_raw (by simp only [rawSem, execOp]; exact pull hrun) (h w.heap.size _ ?_)
  exact (S.alloc _).perm (List.perm_append_singleton _ _).symm

end Dn

/-
  Open orders line by line; calls that touch no block; 32-bit words.
-/
namespace Dn
open Go

variable {P : Program} {m : Nat} {w : World} {L L1 L2 Lb : List (Nat × Obj)} {F : Fr} {T : Rg} {N : Rg → World → Prop} {l : List Ins} {d : Option Nat} {ty : TypeId} {K : Ex → Rg → World → Prop} {a : Cd}

theorem s_dr {t : DT} (h : EvT P (K .n) t T w.drew) : Ev P m (.dr t) K T w := h
theorem t_alt {a b : DT} (h1 : EvT P N a T w) (h2 : EvT P N b T w) : EvT P N (.alt a b) T w := ⟨h1, h2⟩
theorem t_done (h : N T w) : EvT P N .done T w := h
/-- One step of a tree, by a rule for lines. -/
theorem t_ins {i : Ins} {t : DT} (h : Evs P [i] (EvT P N t) T w) : EvT P N (.step i t) T w := h

/-- A function that touches no block it is given. -/
def PSpec (P : Program) (f : FuncId) (args : List Value) (v : Value) : Prop := DSpec P f args [] fun u L => u = v ∧ L = []
theorem e_callP {f : FuncId} {args : List X} {vs : List Value} {v : Value} (ha : T.evs args = vs) (hf : PSpec P f vs v) (S : Sep w L F) (h : ∀ w', Sep w' L F → Evs P l N (updO T d v) w') : Evs P (.op (.call d f args) :: l) N T w := by
  refine e_call (L1 := []) (L2 := L) ha hf (by simpa using S) ?_
  rintro _ _ w' ⟨rfl, rfl⟩ S'
  exact h w' (by simpa using S')
theorem e_cfP {x : X} {args : List X} {f : FuncId} {fs cs vs : List Value} {v : Value} (hx : T.ev x = .func (.func f) ⟨fs⟩ ⟨cs⟩) (hc : callable P f = true) (ha : fs ++ T.evs args ++ cs = vs) (hf : PSpec P f vs v) (S : Sep w L F)
    (h : ∀ w', Sep w' L F → Evs P l N (updO T d v) w') : Evs P (.op (.cf d x args) :: l) N T w := by
  refine e_cf (L1 := []) (L2 := L) hx hc ha hf (by simpa using S) ?_
  rintro _ _ w' ⟨rfl, rfl⟩ S'
  exact h w' (by simpa using S')
theorem pspec_of {f : FuncId} {fn : Func} {Fn : Fun} {mm : Nat} {body : Cd} {res : List RV} {args : List Value} {v : Value} (hmix : P.follows .mixedOrders = true) (hf : P.funcs[f]? = some fn) (hc : cF P fn = some Fn) (hF : Fn = ⟨mm, body, res⟩) (hn : Nat.ble args.length mm = true)
    (h : ∀ w F (Q : Value → World → Prop), Sep w [] F → (∀ u w' L', u = v → Sep w' L' F → Q u w') → Ev P mm body (finK res Q) (T0 args) w) : PSpec P f args v :=
  spec_of hmix hf hc hF hn fun w F Q S hQ => h w F Q S fun u w' L' hu S' => hQ u w' [] ⟨hu, rfl⟩ (Sep.drop (L2 := L') (by simpa using S'))

/-! ### words of 32 bits -/
abbrev u32 (x : BitVec 32) : Value := .int .u32 (x.toNat : Int)
theorem ofInt_u (x : BitVec 32) : BitVec.ofInt 32 (x.toNat : Int) = x := by apply BitVec.eq_of_toNat_eq; simp [BitVec.toNat_ofInt]
theorem wrap_u32n (n : Nat) (h : n < 4294967296) : IntKind.u32.wrap (n : Int) = n := by rw [wrap_u32]; omega
theorem ar_xor32 (a b : BitVec 32) : arV .xor (u32 a) (u32 b) = some (u32 (a ^^^ b)) := by
  simp only [arV, kEq, cond_true]
  show some (Value.int .u32 (IntKind.u32.wrap ((BitVec.ofInt 32 (a.toNat : Int) ^^^ BitVec.ofInt 32 (b.toNat : Int)).toNat : Int))) = _
  rw [ofInt_u, ofInt_u, wrap_u32n _ (a ^^^ b).isLt]
theorem ar_and32 (a b : BitVec 32) : arV .and (u32 a) (u32 b) = some (u32 (a &&& b)) := by
  simp only [arV, kEq, cond_true]
  show some (Value.int .u32 (IntKind.u32.wrap ((BitVec.ofInt 32 (a.toNat : Int) &&& BitVec.ofInt 32 (b.toNat : Int)).toNat : Int))) = _
  rw [ofInt_u, ofInt_u, wrap_u32n _ (a &&& b).isLt]
theorem un_not32 {T : Rg} {x : X} {a : BitVec 32} (h : T.ev x = u32 a) : (PE.un .xor x).ev T = some (u32 (~~~ a)) := by
  simp only [PE.ev, h]
  show some (Value.int .u32 (IntKind.u32.wrap ((BitVec.ofInt 32 (4294967295 : Int) ^^^ BitVec.ofInt 32 (a.toNat : Int)).toNat : Int))) = _
  rw [ofInt_u, wrap_u32n _ (BitVec.isLt _)]
  congr 3
theorem un_neg32 {T : Rg} {x : X} {a : BitVec 32} (h : T.ev x = u32 a) : (PE.un .neg x).ev T = some (u32 (- a)) := by
  simp only [PE.ev, h]
  congr 2
  rw [wrap_u32, BitVec.toNat_neg]
  have := a.isLt
  omega
theorem ar_shr32 (a : BitVec 32) (k : Nat) (hk : k ≤ 32) : arV .shr (u32 a) (.int .u64 (k : Int)) = some (u32 (a >>> k)) := by
  simp only [arV]
  rw [if_neg (by omega)]
  congr 2
  have e : min ((k : Int)).toNat (IntKind.u32).bits = k := by show min k 32 = k; omega
  rw [e, BitVec.toNat_ushiftRight, Nat.shiftRight_eq_div_pow]
  rw [show ((2 : Int) ^ k) = ((2 ^ k : Nat) : Int) from by simp]
  rw [Int.fdiv_eq_ediv_of_nonneg _ (Int.natCast_nonneg _)]
  rfl

/-! the rules under short names -/
variable {b : Cd}
theorem Ja (h : Ev P m a (thenK (Ev P m b K) K) T w) : Ev P m (.seq a b) K T w := s_seq h
theorem Jb (h : Evs P l (K .n) T w) : Ev P m (.ops l false) K T w := s_ops h
theorem Jc (h : N T w) : Evs P [] N T w := e_nil h
theorem Jd (h : Ev P m b K T w) : thenK (Ev P m b K) K .n T w := k_then h
theorem Je (h : K .n T w) : Ev P m .skip K T w := s_skip h
theorem Jf {id : Nat} (h : Ev P m a (blkK id K) T w) : Ev P m (.blk id a) K T w := s_blk h
theorem Jg {id : Nat} (h : K .n T w) : blkK id K .n T w := k_bln h
theorem Jh {id : Nat} (h : K (.x id) T w) : Ev P m (.exit id) K T w := s_exit h
theorem Ji {id : Nat} (h : K (.x id) T w) : thenK N K (.x id) T w := k_thx h
theorem Jj {id : Nat} (h : K .n T w) : blkK id K (.x id) T w := k_blx h
theorem Jk {i id : Nat} (e : Nat.beq i id = false) (h : K (.x i) T w) : blkK id K (.x i) T w := k_bly e h
theorem Jl (h : K .r T w) : Ev P m .ret K T w := s_ret h
theorem Jm (h : K .r T w) : thenK N K .r T w := k_thr h
theorem Jn {id : Nat} (h : K .r T w) : blkK id K .r T w := k_blr h
theorem Jo {t : DT} (h : EvT P (K .n) t T w.drew) : Ev P m (.dr t) K T w := s_dr h
theorem Jp {i : Ins} {t : DT} (h : Evs P [i] (EvT P N t) T w) : EvT P N (.step i t) T w := t_ins h
theorem Jq (h : N T w) : EvT P N .done T w := t_done h
theorem JA {x : X} {k : IntKind} {n : Int} (hv : T.ev x = .int k n) (h : Evs P l N (updO T d (.int k n)) w) : Evs P (.op (.p d (.mov x)) :: l) N T w := e_mvI hv h
theorem JB {x : X} {a : Option Addr} (hv : T.ev x = .pointer a) (h : Evs P l N (updO T d (.pointer a)) w) : Evs P (.op (.p d (.mov x)) :: l) N T w := e_mvP hv h
theorem JC {x : X} {b : Bool} (hv : T.ev x = .bool b) (h : Evs P l N (updO T d (.bool b)) w) : Evs P (.op (.p d (.mov x)) :: l) N T w := e_mvB hv h
theorem JD {x : X} {a : Option Addr} {n c : Nat} (hv : T.ev x = .slice a n c) (h : Evs P l N (updO T d (.slice a n c)) w) : Evs P (.op (.p d (.mov x)) :: l) N T w := e_mvL hv h
theorem JE {x : X} {c : Array Value} (hv : T.ev x = .agg c) (h : Evs P l N (updO T d (.agg c)) w) : Evs P (.op (.p d (.mov x)) :: l) N T w := e_mvA hv h
theorem JF {x : X} {s : ByteArray} (hv : T.ev x = .string s) (h : Evs P l N (updO T d (.string s)) w) : Evs P (.op (.p d (.mov x)) :: l) N T w := e_mvS hv h
theorem JG {x : X} {c : Array Value} (hv : T.ev x = .tuple c) (h : Evs P l N (updO T d (.tuple c)) w) : Evs P (.op (.p d (.mov x)) :: l) N T w := e_mvT hv h
theorem JH {x : X} {r : Option Nat} (hv : T.ev x = .map r) (h : Evs P l N (updO T d (.map r)) w) : Evs P (.op (.p d (.mov x)) :: l) N T w := e_mvM hv h
theorem JI {x : X} {f : Fn} {a b : Array Value} (hv : T.ev x = .func f a b) (h : Evs P l N (updO T d (.func f a b)) w) : Evs P (.op (.p d (.mov x)) :: l) N T w := e_mvF hv h
theorem J2 {z : List Value} {ps : List (Nat × Nat × X)} {a b : Value} (hv : (PE.bld z ps).ev T = some (.agg ⟨[a, b]⟩)) (h : Evs P l N (updO T d (.agg ⟨[a, b]⟩)) w) : Evs P (.op (.p d (.bld z ps)) :: l) N T w := e_bl2 hv h
theorem J3 {z : List Value} {ps : List (Nat × Nat × X)} {a b c : Value} (hv : (PE.bld z ps).ev T = some (.agg ⟨[a, b, c]⟩)) (h : Evs P l N (updO T d (.agg ⟨[a, b, c]⟩)) w) : Evs P (.op (.p d (.bld z ps)) :: l) N T w := e_bl3 hv h
theorem J4 {z : List Value} {ps : List (Nat × Nat × X)} {a b c e : Value} (hv : (PE.bld z ps).ev T = some (.agg ⟨[a, b, c, e]⟩)) (h : Evs P l N (updO T d (.agg ⟨[a, b, c, e]⟩)) w) : Evs P (.op (.p d (.bld z ps)) :: l) N T w := e_bl4 hv h
theorem J1 {z : List Value} {ps : List (Nat × Nat × X)} {a : Value} (hv : (PE.bld z ps).ev T = some (.agg ⟨[a]⟩)) (h : Evs P l N (updO T d (.agg ⟨[a]⟩)) w) : Evs P (.op (.p d (.bld z ps)) :: l) N T w := e_bl1 hv h
theorem J6 {z : List Value} {ps : List (Nat × Nat × X)} {a b c e f g : Value} (hv : (PE.bld z ps).ev T = some (.agg ⟨[a, b, c, e, f, g]⟩)) (h : Evs P l N (updO T d (.agg ⟨[a, b, c, e, f, g]⟩)) w) : Evs P (.op (.p d (.bld z ps)) :: l) N T w := e_bl6 hv h
theorem J7 {z : List Value} {ps : List (Nat × Nat × X)} {a b c e f g i : Value} (hv : (PE.bld z ps).ev T = some (.agg ⟨[a, b, c, e, f, g, i]⟩)) (h : Evs P l N (updO T d (.agg ⟨[a, b, c, e, f, g, i]⟩)) w) : Evs P (.op (.p d (.bld z ps)) :: l) N T w := e_bl7 hv h
theorem JJ {r : Nat} {t : Bool} {o : Bop} (hc : T.f r = .bool t) (h : Evs P (.op o :: l) N T w) : Evs P (.gd r t d o :: l) N T w := e_gdT hc h
theorem JK {r : Nat} {t : Bool} {o : Bop} (hc : T.f r = .bool (!t)) (h : Evs P l N (updO T d undef) w) : Evs P (.gd r t d o :: l) N T w := e_gdF hc h
theorem JQ {r : Nat} {t : Bool} {o : Bop} (hc : T.f r = undef) (h : Evs P l N (updO T d undef) w) : Evs P (.gd r t d o :: l) N T w := e_gdU hc h
theorem JL {c x y : X} {b : Bool} (hc : T.ev c = .bool true) (hv : T.ev x = .bool b) (h : Evs P l N (updO T d (.bool b)) w) : Evs P (.op (.pk d c x y) :: l) N T w := e_pkTB hc hv h
theorem JM {c x y : X} {b : Bool} (hc : T.ev c = .bool false) (hv : T.ev y = .bool b) (h : Evs P l N (updO T d (.bool b)) w) : Evs P (.op (.pk d c x y) :: l) N T w := e_pkFB hc hv h
theorem JN {c : X} (hc : T.ev c = .bool true) (h : Ev P m a K T w) : Ev P m (.ite c a b) K T w := s_iteT hc h
theorem JO {c : X} (hc : T.ev c = .bool false) (h : Ev P m b K T w) : Ev P m (.ite c a b) K T w := s_iteF hc h
theorem JP {e : PE} {v : Value} (hv : e.ev T = some v) (h : Evs P l N (updO T d v) w) : Evs P (.op (.p d e) :: l) N T w := e_p hv h

end Dn

/-
  append of zeros, copy, a string over a row; bytes.
-/
namespace Dn
open Go

variable {P : Program} {m : Nat} {w : World} {L L1 L2 Lb : List (Nat × Obj)} {F : Fr} {T : Rg} {N : Rg → World → Prop} {l : List Ins} {d : Option Nat} {ty : TypeId} {K : Ex → Rg → World → Prop} {a : Cd}

theorem raw_builtin {b : Go.Builtin} {x y : Operand} {ts : Array TypeId} {v : Value} {w' : World} {s : Sem Value} (hb : ∀ cs, builtin b ts ty cs #[T.evR x, T.evR y] = (do pure (.value (← s)))) (hr : s.run P w = .ok v w') :
    (rawSem T (.call (.mk (.builtin b) #[x, y] ts)) ty).run P w = .ok (.value v) w' := by
  simp only [rawSem, execOp, resolve, Sem.run_bind, Sem.run_pure, Result.andThen_ok, invoke, List.map_toArray, List.map_cons, List.map_nil, hb, hr]

/-- append(v, make([]T, k)...), the zero one cell. -/
theorem e_appz {t ti e : TypeId} {i : TypeInfo} {u : Value} {k n cap : Nat} {kd : IntKind} {ad : Option Addr} {xs : List Value} {x y : Operand} (S : Sep w (L ++ Lb) F) (hO : OwnS e 1 ad n cap xs Lb)
    (hx : T.evR x = .slice ad n cap) (hy : T.evR y = .int .i64 (k : Int)) (ht : P.underlying t = some (.slice e)) (hti : P.underlying ti = some (.int kd)) (hi : P.info? e = some i) (hz : i.zero = some u) (hsz : i.size = 1) (hzs : u.cells = #[u]) (hfl : Value.flat u = true)
    (hby : i.bytes = 1) (hfit : n + k ≤ 1000000)
    (h : ∀ ad' cap' Lb' w', OwnS e 1 ad' (n + k) cap' (xs ++ List.replicate k u) Lb' → Sep w' (L ++ Lb') F → Evs P l N (updO T d (.slice ad' (n + k) cap')) w') :
    Evs P (.op (.raw d (.call (.mk (.builtin .append) #[x, y] #[t, ti])) ty) :: l) N T w := by
  have hw : IntKind.i64.wrap (k : Int) = k := wrap_id (by omega) (by omega)
  have hai : (asInt (.int .i64 (k : Int))).run P w = .ok (k : Int) w := by simp [asInt, asIntOf]
  have hzr : (P.info? e).bind (·.zero) = some u := by rw [hi]; exact hz
  have hzc : ∀ j, Builtin.zeroCells u.cells j = (List.replicate j u).toArray := by
    intro j
    rw [hzs]
    apply Array.ext'
    simp only [Builtin.zeroCells, List.size_toArray, Array.toList_map, Array.toList_range, List.length_cons, List.length_nil, Nat.mul_one]
    apply List.ext_getElem
    · simp
    · intro q h1 h2
      simp [Nat.mod_one]
  have hk0 : ¬ ((k : Int) < 0) := by omega
  have hk1 : ¬ (281474976710656 < (k : Int) * 1) := by omega
  have hkn : ((k : Int)).toNat = k := by omega
  have hlen : (xs ++ List.replicate k u).length = (n + k) * 1 := by rw [List.length_append, hO.len]; simp
  -- the number
  by_cases hroom : n + k ≤ cap
  · rcases hO.own with ⟨rfl, rfl, rfl⟩ | ⟨b, sp, lo, hi', rfl, hsp, hfr, rfl⟩
    · have hn : n = 0 := by omega
      have hk : k = 0 := by omega
      subst hn; subst hk
      refine e_raw (w' := w) (v := .slice none 0 0) (raw_builtin (s := Builtin.append_ #[t, ti] ty #[T.evR x, T.evR y]) (fun cs => rfl) ?_) (by have := h none 0 [] w ⟨by simpa using hlen, by omega, .inl ⟨rfl, rfl, by simp⟩⟩ S; simpa using this)
      rw [hx, hy]
      simp only [Int.ofNat_zero, Int.natCast_zero] at hw hai
      simp [Builtin.append_, run_underlying ht, run_underlying hti, Go.sizeOf, typeInfo, hi, hai, hw]
    · have hb := S.at_ b _ (by simp : (b, Obj.cells ⟨xs ++ sp⟩ e (lo, hi')) ∈ L ++ [(b, Obj.cells ⟨xs ++ sp⟩ e (lo, hi'))])
      have hcs : xs.length = n := by rw [hO.len]; simp
      have hsp' : sp.length = cap - n := by rw [hsp]; simp
      have hst := storeCells_run (P := P) (a := ⟨b, n, none⟩) (ty := e) (lo := lo) (hi := hi') rfl (List.replicate k u) 0 w (xs ++ sp) hb (fun v hv => by rw [List.eq_of_mem_replicate hv]; exact hfl) (by simp [hcs, hsp']; omega) (by
        intro j h1 h2 hh
        simp only [Nat.add_zero, List.length_replicate] at h1 h2
        rcases hfr with hfr | hfr <;> omega)
      simp only [Nat.add_zero] at hst
      have hput : putAt (xs ++ sp) n (List.replicate k u) = (xs ++ List.replicate k u) ++ sp.drop k := by
        unfold putAt
        rw [List.take_append_of_le_length (by omega), List.take_of_length_le (by omega), List.append_assoc]
        congr 2
        rw [List.drop_append, List.drop_eq_nil_of_le (by simp; omega), List.nil_append]
        congr 1; simp; omega
      have hS : ∀ w', Sep w' (L ++ [(b, .cells ⟨xs ++ List.replicate k u ++ sp.drop k⟩ e (lo, hi'))]) F → Evs P l N (updO T d (.slice (some ⟨b, 0, none⟩) (n + k) cap)) w' := fun w' S' =>
        h _ _ _ w' ⟨hlen, hroom, .inr ⟨b, sp.drop k, lo, hi', rfl, by rw [List.length_drop, hsp']; omega, hfr, rfl⟩⟩ S'
      have hadd : (Addr.add ⟨b, 0, none⟩ (n * 1)) = ⟨b, n, none⟩ := by rw [addr_add]; simp
      by_cases hk : k = 0
      · subst hk
        refine e_raw (w' := w) (v := .slice (some ⟨b, 0, none⟩) (n + 0) cap) (raw_builtin (s := Builtin.append_ #[t, ti] ty #[T.evR x, T.evR y]) (fun cs => rfl) ?_) (hS w (by simpa using S))
        rw [hx, hy]
        simp only [Int.ofNat_zero, Int.natCast_zero] at hw hai
        simp only [Nat.add_zero] at hroom
        simp [Builtin.append_, run_underlying ht, run_underlying hti, Go.sizeOf, typeInfo, hi, hai, hw, hroom, storeCells]
      · have hne : ¬ (List.replicate k u = []) := by simpa using hk
        rw [if_neg hne, hput] at hst
        refine e_raw (v := .slice (some ⟨b, 0, none⟩) (n + k) cap) (raw_builtin (s := Builtin.append_ #[t, ti] ty #[T.evR x, T.evR y]) (fun cs => rfl) ?_) (hS _ (by
          have := S.put L.length (b := b) (o := .cells ⟨xs ++ sp⟩ e (lo, hi')) (by simp) (.cells ⟨xs ++ List.replicate k u ++ sp.drop k⟩ e (lo, hi'))
          simpa using this))
        rw [hx, hy]
        have hk1' : ¬ (281474976710656 < (k : Int)) := by omega
        have hadd' : (Addr.add ⟨b, 0, none⟩ n) = ⟨b, n, none⟩ := by rw [addr_add]; simp
        simp [Builtin.append_, run_underlying ht, run_underlying hti, Go.sizeOf, typeInfo, zeroValue, hi, hz, hai, hw, hsz, hby, hk, hk0, hk1', hroom, hzc, hadd', hst]
  · have hg : cap < n + k := by omega
    have hold : (Builtin.firstCells 1 n (.slice ad n cap)).run P w.drew = .ok xs.toArray w.drew := by
      cases ad with
      | none =>
        rcases hO.own with ⟨_, hc, hL⟩ | ⟨b, sp, lo, hi', h', _⟩
        · have hn : n = 0 := by have := hO.le; omega
          have : xs = [] := List.eq_nil_of_length_eq_zero (by rw [hO.len, hn])
          subst this
          exact run_firstCells_none w.drew 1 n n cap
        · simp at h'
      | some a =>
        simp only [Builtin.firstCells]
        exact rowOf_run (hO.rowOf S.drew)
    have hr : (Builtin.append_ #[t, ti] ty #[T.evR x, T.evR y]).run P w = .ok (.slice (some ⟨w.heap.size, 0, none⟩) (n + k) (grownCap w (n + k) cap e)) (w.drew.alloc (.cells ⟨xs ++ List.replicate k u ++ List.replicate (grownCap w (n + k) cap e - (n + k)) u⟩ e)) := by
      have h48 : Builtin.nextslicecap (n + k) cap * 1 ≤ 281474976710656 := growslice_fits (by omega) (by omega)
      have h48' : ¬ (281474976710656 < Builtin.nextslicecap (n + k) cap) := by omega
      have h63 : ¬ (9223372036854775807 < ((n : Int) + (k : Int))) := by omega
      rw [hx, hy]
      have hk : k = 0 ∨ k ≠ 0 := by omega
      have hn : ¬ (n + k ≤ cap) := by omega
      rcases hk with rfl | hk
      · simp only [Nat.add_zero] at hn h48' ⊢
        simp only [Int.natCast_zero, Int.add_zero] at hw hai h63
        have := hO.le
        omega
      · simp [Builtin.append_, run_underlying ht, run_underlying hti, Go.sizeOf, typeInfo, zeroValue, hi, hz, hai, hw, hsz, hby, hk, hk0, hn, h48', h63, Question.forced, hold, newRow, grownCap, hzc]
        have hk1' : ¬ (281474976710656 < (k : Int)) := by omega
        simp [hk1', hn, h63, h48', Question.forced, hold, newRow, hzc]
        congr 2
        apply Array.ext'
        simp
    refine e_raw (raw_builtin (s := Builtin.append_ #[t, ti] ty #[T.evR x, T.evR y]) (fun cs => rfl) hr) ?_
    have hge := grownCap_ge w (n + k) cap e
    refine h _ _ [(w.heap.size, .cells ⟨xs ++ List.replicate k u ++ List.replicate (grownCap w (n + k) cap e - (n + k)) u⟩ e)] _ ⟨hlen, hge, .inr ⟨_, _, 0, 0, rfl, by simp, .inl (Nat.le_refl _), rfl⟩⟩ ?_
    have S2 := (S.drew.alloc (.cells ⟨xs ++ List.replicate k u ++ List.replicate (grownCap w (n + k) cap e - (n + k)) u⟩ e)).perm (L1 := L ++ ((w.heap.size, .cells ⟨xs ++ List.replicate k u ++ List.replicate (grownCap w (n + k) cap e - (n + k)) u⟩ e) :: Lb)) List.perm_middle.symm
    rcases hO.own with ⟨_, _, hL⟩ | ⟨b, sp, lo, hi', _, _, _, hL⟩
    · rw [hL] at S2; exact S2
    · rw [hL] at S2
      refine Sep.drop (L2 := [(b, .cells ⟨xs ++ sp⟩ e (lo, hi'))]) (S2.perm ?_)
      rw [show ∀ (p q : Nat × Obj), L ++ [p, q] = (L ++ [p]) ++ [q] by intros; simp]
      exact List.perm_append_singleton _ _

end Dn

/-
  copy, a string over a row; bytes and numbers.
-/
namespace Dn
open Go

variable {P : Program} {m : Nat} {w : World} {L L1 L2 Lb : List (Nat × Obj)} {F : Fr} {T : Rg} {N : Rg → World → Prop} {l : List Ins} {d : Option Nat} {ty : TypeId} {K : Ex → Rg → World → Prop} {a : Cd}

/-- copy(dst, src), all of the source going in. -/
theorem e_copy {t tx e ty' : TypeId} {i : TypeInfo} {b off dn dc k : Nat} {cs ys : List Value} {x y : Operand} (S : Sep w L F) (j : Nat) (hx : T.evR x = .slice (some ⟨b, off, none⟩) dn dc) (hL : L[j]? = some (b, .cells ⟨cs⟩ ty')) (hs : Src P i.size tx (T.evR y) k ys w) (hk : k ≤ dn)
    (ht : P.underlying t = some (.slice e)) (hi : P.info? e = some i) (hfit : off + ys.length ≤ cs.length)
    (h : ∀ w', Sep w' (L.set j (b, .cells ⟨putAt cs off ys⟩ ty')) F → Evs P l N (updO T d (.int .i64 (k : Int))) w') :
    Evs P (.op (.raw d (.call (.mk (.builtin .copy) #[x, y] #[t, tx])) ty) :: l) N T w := by
  have hb := S.at_ _ _ (Sep.mem hL)
  have hst := storeCells_run (P := P) (a := ⟨b, off, none⟩) (ty := ty') (lo := 0) (hi := 0) rfl ys 0 w cs hb (fun v hv => one_flat (hs.one v hv)) (by simpa using hfit) (by intro j h1 h2; omega)
  simp only [Nat.add_zero] at hst
  have hmin : Nat.min k dn = k := Nat.min_eq_left hk
  have hr : (Builtin.copy_ #[t, tx] ty #[T.evR x, T.evR y]).run P w = .ok (.int .i64 (k : Int)) (if ys = [] then w else w.putObj b (.cells ⟨putAt cs off ys⟩ ty')) := by
    rw [hx]
    simp [Builtin.copy_, run_underlying ht, hs.len, hmin, Go.sizeOf, typeInfo, hi, hs.cells, hst, goInt]
  refine e_raw (raw_builtin (s := Builtin.copy_ #[t, tx] ty #[T.evR x, T.evR y]) (fun _ => rfl) hr) ?_
  by_cases hy : ys = []
  · rw [if_pos hy]
    refine h w ?_
    subst hy
    have : L.set j (b, .cells ⟨putAt cs off []⟩ ty') = L := by
      have e : putAt cs off [] = cs := by simp [putAt]
      rw [e]
      apply List.ext_getElem?
      intro q
      rw [List.getElem?_set]
      split
      · rename_i hq; subst hq
        split
        · exact hL.symm
        · rename_i hh; rw [List.getElem?_eq_none (by simpa using hh)] at hL; simp at hL
      · rfl
    rw [this]; exact S
  · rw [if_neg hy]
    exact h _ (S.put j hL _)

/-- a string over a row of bytes, of which no more is wanted. -/
theorem e_ustr {pt it e : TypeId} {b cap : Nat} {s : List UInt8} {x y : Operand} {fr : Nat × Nat} (S : Sep w ((b, .cells ⟨s.map fun b => .int .u8 (b.toNat : Int)⟩ e fr) :: L) F) (hx : T.evR x = .pointer (some ⟨b, 0, none⟩)) (hy : T.evR y = .int .i64 (s.length : Int))
    (hp : P.underlying pt = some (.pointer e)) (hc : P.cellsOf e = 1) (h0 : s ≠ []) (hn : s.length ≤ 1000000)
    (h : ∀ w', Sep w' L F → Evs P l N (updO T d (.string ⟨⟨s⟩⟩)) w') : Evs P (.op (.raw d (.call (.mk (.builtin .unsafeString) #[x, y] #[pt, it])) ty) :: l) N T w := by
  have hb := S.at_ b _ (List.mem_cons_self ..)
  have hr := Go.Lib.run_unsafeString_row (P := P) w pt it ty e hp hc b s.length (by unfold World.shape?; simp [hb]) s h0 (Nat.le_refl _) (by omega) (by
    intro j x hj
    rw [addr_add]
    simp only [World.cell?, hb, Nat.zero_add]
    simp [hj])
  refine e_raw (raw_builtin (s := Builtin.unsafeString_ #[pt, it] ty #[T.evR x, T.evR y]) (fun _ => rfl) (by rw [hx, hy]; exact hr)) (h _ ?_)
  have key : ∃ o', w.freeze ⟨b, 0, none⟩ s.length = w.putObj b o' := by
    have hlt' : b < w.heap.size := (Array.getElem?_eq_some_iff.1 hb).1
    have hb' : w.heap[b] = Obj.cells ⟨s.map fun b => .int .u8 (b.toNat : Int)⟩ e fr := by rw [Array.getElem?_eq_getElem hlt'] at hb; exact Option.some.inj hb
    have hs0 : ¬ (s.length = 0) := by simpa using h0
    obtain ⟨lo, hi⟩ := fr
    refine ⟨.cells ⟨s.map fun b => .int .u8 (b.toNat : Int)⟩ e (if lo == hi then (0, 0 + s.length) else (min lo 0, max hi (0 + s.length))), ?_⟩
    unfold World.freeze World.putObj
    rw [if_neg hs0]
    congr 1
    apply Array.ext_getElem?
    intro j
    rw [Array.getElem?_modify, Array.getElem?_setIfInBounds]
    by_cases hj : b = j
    · subst hj
      simp only [if_true, hlt']
      rw [Array.getElem?_eq_getElem hlt', hb']
      rfl
    · simp [hj]
  obtain ⟨o', e⟩ := key
  rw [e]
  exact Sep.drop (L2 := [_]) (S.put 0 rfl o')

theorem ar_xor8 (a b : Nat) (ha : a < 256) (hb : b < 256) : arV .xor (.int .u8 (a : Int)) (.int .u8 (b : Int)) = some (.int .u8 ((a ^^^ b : Nat) : Int)) := by
  simp only [arV, kEq, cond_true]
  show some (Value.int .u8 (IntKind.u8.wrap ((BitVec.ofInt 8 (a : Int) ^^^ BitVec.ofInt 8 (b : Int)).toNat : Int))) = _
  have h : a ^^^ b < 256 := Nat.xor_lt_two_pow (n := 8) ha hb
  have e : (BitVec.ofInt 8 (a : Int) ^^^ BitVec.ofInt 8 (b : Int)).toNat = a ^^^ b := by
    rw [BitVec.toNat_xor, BitVec.toNat_ofInt, BitVec.toNat_ofInt]
    have e1 : ((a : Int) % ((2 ^ 8 : Nat) : Int)).toNat = a := by omega
    have e2 : ((b : Int) % ((2 ^ 8 : Nat) : Int)).toNat = b := by omega
    rw [e1, e2]
  rw [e, wrap_u8]
  congr 2; omega

end Dn

/-
  CRC-32C: what the program's table and register make.
-/
namespace Dn
open Go

def crcBit (r : BitVec 32) : BitVec 32 := (r >>> 1) ^^^ (2197175160#32 &&& -(r &&& 1#32))
def crcIt : Nat → BitVec 32 → BitVec 32
  | 0, r => r
  | k + 1, r => crcBit (crcIt k r)
def crcT (i : Nat) : BitVec 32 := crcIt 8 (BitVec.ofNat 32 i)
def crcStep (r : BitVec 32) (b : UInt8) : BitVec 32 := (r >>> 8) ^^^ crcT ((r.toNat % 256) ^^^ b.toNat)
def crcReg (r : BitVec 32) (l : List UInt8) : BitVec 32 := l.foldl crcStep r
def crcOf (l : List UInt8) : BitVec 32 := ~~~ (crcReg (~~~ 0#32) l)

def tabTo (n : Nat) : List Value := (List.range n).map fun i => u32 (crcT i)
theorem tabTo_len (n : Nat) : (tabTo n).length = n := by simp [tabTo]

end Dn

/-
  A disk's memory, and what its methods make of it.
-/
namespace Dn
open Go

abbrev Sec := List UInt8
def bv (b : UInt8) : Value := .int .u8 (b.toNat : Int)
def bcells (s : Sec) : List Value := s.map bv
def encS (s : Sec) : Value := .agg ⟨bcells s⟩
def encI (n : Int) : Value := .int .i64 n

@[simp] theorem bcells_len (s : Sec) : (bcells s).length = s.length := by simp [bcells]
theorem bcells_flat (s : Sec) : ∀ v ∈ bcells s, Value.flat v = true := by
  intro v hv
  obtain ⟨b, _, rfl⟩ := List.mem_map.1 hv
  rfl
def zsec : Sec := List.replicate 64 0
@[simp] theorem zsec_len : zsec.length = 64 := rfl

structure Dk where
  q : Nat
  b : Nat
  c : Nat
  a : Nat
  dur : List Sec
  cache : GM Sec
  armed : GM Int

def Dk.hd (d : Dk) : List Value := [.slice (some ⟨d.b, 0, none⟩) d.dur.length d.dur.length, .map (some d.c), .map (some d.a)]
def Dk.L (d : Dk) : List (Nat × Obj) :=
  [(d.q, .cells ⟨d.hd⟩ 119), (d.b, .cells ⟨d.dur.flatMap bcells⟩ 114), (d.c, d.cache.obj Dn.encS), (d.a, d.armed.obj Dn.encI)]
def Dk.v (d : Dk) : Value := .pointer (some ⟨d.q, 0, none⟩)

def Dk.has (d : Dk) (i : Int) : Bool := decide (0 ≤ i) && decide (i < (d.dur.length : Int))
def Dk.write (d : Dk) (i : Int) (s : Sec) : Dk :=
  let to := (d.armed.get i).getD i
  if to = -1 then { d with armed := d.armed.del i } else { d with armed := d.armed.del i, cache := d.cache.set to s }
theorem Dk.write_to {d : Dk} {i to : Int} {s : Sec} (h : (d.armed.get i).getD i = to) (hn : ¬ to = -1) : d.write i s = { d with armed := d.armed.del i, cache := d.cache.set to s } := by
  unfold Dk.write; rw [h]; simp only [if_neg hn]
theorem Dk.write_lost {d : Dk} {i : Int} {s : Sec} (h : (d.armed.get i).getD i = -1) : d.write i s = { d with armed := d.armed.del i } := by
  unfold Dk.write; rw [h]; rfl
def Dk.sec (d : Dk) (i : Nat) : Sec := d.dur.getD i []
def Dk.read (d : Dk) (i : Nat) : Sec := (d.cache.get i).getD (d.sec i)

/-- All sectors have 64 bytes. -/
def Dk.ok (d : Dk) : Prop := (∀ s ∈ d.dur, s.length = 64) ∧ (∀ e ∈ d.cache.es, e.2.1.length = 64)

theorem GM.find_mem {α : Type} {k : Int} : ∀ {l : List (Int × α × Nat)} {v : α}, GM.find k l = some v → ∃ b, (k, v, b) ∈ l := by
  intro l
  induction l with
  | nil => intro v h; simp [GM.find] at h
  | cons e l ih =>
    intro v h
    simp only [GM.find] at h
    split at h
    · rename_i hk
      injection h with h
      exact ⟨e.2.2, by subst hk; subst h; simp⟩
    · obtain ⟨b, hb⟩ := ih h
      exact ⟨b, List.mem_cons_of_mem _ hb⟩
theorem Dk.ok_get {d : Dk} (h : d.ok) {i : Int} {s : Sec} (hg : d.cache.get i = some s) : s.length = 64 := by
  obtain ⟨b, hb⟩ := GM.find_mem hg
  exact h.2 _ hb

theorem flat_drop {dur : List Sec} (h : ∀ s ∈ dur, s.length = 64) {i : Nat} (hi : i < dur.length) : ((dur.flatMap bcells).drop (i * 64)).take 64 = bcells dur[i] := by
  induction dur generalizing i with
  | nil => simp at hi
  | cons s dur ih =>
    have hs := h s (by simp)
    have hl : (bcells s).length = 64 := by simp [bcells, hs]
    cases i with
    | zero => simp [List.flatMap_cons, List.take_append, hl]
    | succ i =>
      have : (i + 1) * 64 = (bcells s).length + i * 64 := by rw [hl]; omega
      rw [List.flatMap_cons, this, ← List.drop_drop, List.drop_left]
      simpa using ih (fun s hs => h s (by simp [hs])) (by simpa using hi)

theorem flat_len {dur : List Sec} (h : ∀ s ∈ dur, s.length = 64) : (dur.flatMap bcells).length = dur.length * 64 := by
  induction dur with
  | nil => rfl
  | cons s dur ih =>
    have hs := h s (by simp)
    rw [List.flatMap_cons, List.length_append, ih (fun s hs => h s (by simp [hs]))]
    simp [bcells, hs]; omega

end Dn

/-
  Numbers as bytes; places, generations, sectors: the plain side.
-/
namespace Dn
open Go

def leB : Nat → Nat → Sec
  | 0, _ => []
  | k + 1, n => UInt8.ofNat n :: leB k (n / 256)
@[simp] theorem leB_len : ∀ (k n : Nat), (leB k n).length = k
  | 0, _ => rfl
  | k + 1, n => by simp [leB, leB_len k]
theorem leB_succ : ∀ (k n : Nat), leB (k + 1) n = leB k n ++ [UInt8.ofNat (n / 256 ^ k)]
  | 0, n => by simp [leB]
  | k + 1, n => by
    rw [leB, leB_succ k (n / 256)]
    simp only [leB, List.cons_append]
    rw [Nat.div_div_eq_div_mul, Nat.pow_succ, Nat.mul_comm 256]
def leN : Sec → Nat
  | [] => 0
  | b :: l => b.toNat + 256 * leN l
theorem leN_lt : ∀ (l : Sec), leN l < 256 ^ l.length
  | [] => by simp [leN]
  | b :: l => by
    have := leN_lt l
    have hb := UInt8.toNat_lt b
    simp only [leN, List.length_cons, Nat.pow_succ]
    omega
theorem leN_leB : ∀ (k n : Nat), n < 256 ^ k → leN (leB k n) = n
  | 0, n, h => by simp at h; subst h; rfl
  | k + 1, n, h => by
    rw [Nat.pow_succ] at h
    simp only [leB, leN]
    rw [leN_leB k (n / 256) (by rw [Nat.div_lt_iff_lt_mul (by omega)]; exact h)]
    simp only [UInt8.toNat_ofNat']
    omega
theorem leB_leN : ∀ (l : Sec), leB l.length (leN l) = l
  | [] => rfl
  | b :: l => by
    have hb := UInt8.toNat_lt b
    simp only [List.length_cons, leB, leN]
    have e1 : (b.toNat + 256 * leN l) / 256 = leN l := by omega
    rw [e1, leB_leN l]
    congr 1
    apply UInt8.toNat.inj
    simp only [UInt8.toNat_ofNat']
    omega
theorem leN_app : ∀ (a b : Sec), leN (a ++ b) = leN a + 256 ^ a.length * leN b
  | [], b => by simp [leN]
  | x :: a, b => by
    simp only [List.cons_append, leN, leN_app a b, List.length_cons, Nat.pow_succ, Nat.mul_add]
    rw [show 256 * (256 ^ a.length * leN b) = 256 ^ a.length * 256 * leN b by rw [← Nat.mul_assoc, Nat.mul_comm 256]]
    omega

/-- a place: disk, area, index -/
structure Pl where
  disk : Int
  area : Int
  index : Int
deriving DecidableEq
structure Gn where
  epoch : Int
  count : Int
deriving DecidableEq
def Pl.v (p : Pl) : List Value := [.int .i64 p.disk, .int .i64 p.area, .int .i64 p.index]
def Gn.v (g : Gn) : List Value := [.int .i64 g.epoch, .int .i64 g.count]
def Pl.ok (p : Pl) : Prop := 0 ≤ p.disk ∧ p.disk < 64 ∧ 1 ≤ p.area ∧ p.area ≤ 4 ∧ 0 ≤ p.index ∧ p.index < 65536
@[irreducible] instance Pl.okD (p : Pl) : Decidable p.ok := by unfold Pl.ok; infer_instance
def Gn.ok0 (g : Gn) : Prop := 0 ≤ g.epoch ∧ 0 ≤ g.count ∧ g.epoch < 4294967296 ∧ g.count < 4294967296
@[irreducible] instance Gn.ok0D (g : Gn) : Decidable g.ok0 := by unfold Gn.ok0; infer_instance
def Gn.ok (g : Gn) : Prop := g.ok0 ∧ ¬ (g.epoch = 0 ∧ g.count = 0)
@[irreducible] instance Gn.okD (g : Gn) : Decidable g.ok := by unfold Gn.ok; infer_instance
def Gn.newer (a b : Gn) : Prop := b.epoch < a.epoch ∨ (a.epoch = b.epoch ∧ b.count < a.count)
@[irreducible] instance Gn.newerD (a b : Gn) : Decidable (a.newer b) := by unfold Gn.newer; infer_instance

/-- what the checksum stands before -/
def gnB (g : Gn) : Sec := leB 4 g.epoch.toNat ++ leB 4 g.count.toNat
def sealB (p : Pl) (g : Gn) (s : Sec) : Sec :=
  [UInt8.ofNat p.area.toNat, UInt8.ofNat p.disk.toNat] ++ leB 2 p.index.toNat ++ gnB g ++ s ++ List.replicate (40 - s.length) 0 ++ gnB g
def sealS (p : Pl) (g : Gn) (s : Sec) : Sec := leB 4 (crcOf (sealB p g s)).toNat ++ sealB p g s
theorem gnB_len (g : Gn) : (gnB g).length = 8 := by simp [gnB]
theorem sealB_len {p : Pl} {g : Gn} {s : Sec} (h : s.length ≤ 40) : (sealB p g s).length = 60 := by simp [sealB, gnB_len]; omega
theorem sealS_len {p : Pl} {g : Gn} {s : Sec} (h : s.length ≤ 40) : (sealS p g s).length = 64 := by simp [sealS, sealB_len h]

/-- what a sector carries -/
def lblP (s : Sec) : Pl := ⟨((s.getD 5 0).toNat : Int), ((s.getD 4 0).toNat : Int), (leN ((s.drop 6).take 2) : Int)⟩
def lblG (s : Sec) : Gn := ⟨(leN ((s.drop 8).take 4) : Int), (leN ((s.drop 12).take 4) : Int)⟩
def lblOK (s : Sec) : Prop := (leN (s.take 4) : Nat) = (crcOf (s.drop 4)).toNat ∧ (lblP s).ok ∧ (lblG s).ok ∧ (s.drop 8).take 8 = s.drop 56
@[irreducible] instance lblOKD (s : Sec) : Decidable (lblOK s) := by unfold lblOK; infer_instance
/-- the error with which a sector is opened at a place, else its generation and payload -/
def opened (p : Pl) (s : Sec) : Option (Gn × Sec) :=
  if lblOK s ∧ lblP s = p then some (lblG s, (s.drop 16).take 40) else none

end Dn

/-
  A cut between two pieces of code; parts of strings.
-/
namespace Dn
open Go

variable {P : Program} {m : Nat} {w : World} {L L1 L2 Lb : List (Nat × Obj)} {F : Fr} {T : Rg} {N : Rg → World → Prop} {l : List Ins} {d : Option Nat} {ty : TypeId} {K : Ex → Rg → World → Prop} {a b : Cd}

/-- Between two pieces of code only named registers are kept in mind. -/
theorem s_cut {σ : Type} (vals : σ → List (Nat × Value)) (inv : σ → World → Prop) (h1 : Ev P m a (thenK (fun T' w' => T'.ds = [] ∧ ∃ s, pins T' (vals s) ∧ inv s w') K) T w)
    (h2 : ∀ (g : Nat → Value) (s : σ) w', inv s w' → Ev P m b K (setL ⟨g, []⟩ (vals s)) w') : Ev P m (.seq a b) K T w := by
  refine s_seq (Ev_mono ?_ _ h1)
  rintro ex T' w' hk
  cases ex with
  | n =>
    obtain ⟨hd, s, hp, hi⟩ := hk
    obtain ⟨f, ds⟩ := T'
    simp only at hd; subst hd
    have := h2 f s w' hi
    rw [setL_pins hp] at this
    exact this
  | x id => exact hk
  | r => exact hk

theorem extract_list (s : List UInt8) (i j : Nat) (hj : j ≤ s.length) : (⟨⟨s⟩⟩ : ByteArray).extract i j = ⟨⟨(s.drop i).take (j - i)⟩⟩ := by
  apply ByteArray.ext
  rw [ByteArray.data_extract]
  apply Array.ext'
  simp [List.take_drop, List.extract_eq_take_drop]
theorem e_slsL {x : X} {s : List UInt8} {lo hi : Option X} {i j : Nat} (hx : T.ev x = .string ⟨⟨s⟩⟩) (hb : bndV T hi s.length s.length = some j) (ha : bndV T lo 0 j = some i) (hj : j ≤ s.length) (h : Evs P l N (updO T d (.string ⟨⟨(s.drop i).take (j - i)⟩⟩)) w) : Evs P (.op (.p d (.sls x lo hi)) :: l) N T w := by
  refine e_sls hx (b := j) (a := i) hb ha ?_
  rw [extract_list s i j hj]; exact h
theorem cvi_i64u8 {T : Rg} {x : X} {u : UInt8} (h : T.ev x = .int .u8 (u.toNat : Int)) : (PE.cvi .i64 x).ev T = some (.int .i64 (u.toNat : Int)) := by
  have := UInt8.toNat_lt u
  simp only [PE.ev, h]; rw [wrap_id (by omega) (by omega)]
theorem cvi_i64u32 {T : Rg} {x : X} {u : BitVec 32} (h : T.ev x = u32 u) : (PE.cvi .i64 x).ev T = some (.int .i64 (u.toNat : Int)) := by
  have := u.isLt
  simp only [PE.ev, h]; rw [wrap_id (by omega) (by omega)]
theorem cmpS_neq {T : Rg} {x y : X} {a b : List UInt8} (hx : T.ev x = .string ⟨⟨a⟩⟩) (hy : T.ev y = .string ⟨⟨b⟩⟩) : (PE.cmp .neq x y).ev T = some (.bool (!decide (a = b))) := by
  simp only [PE.ev, hx, hy, cmpS]
  congr 3
  have : ∀ l : List UInt8, (⟨⟨l⟩⟩ : ByteArray).toList = l := by
    intro l
    simp [ByteArray.toList_eq]
  rw [this, this]
  by_cases h : a = b <;> simp [h]
theorem cmp_neqD {T : Rg} {x y : X} {a b : Int} (hx : T.ev x = .int .i64 a) (hy : T.ev y = .int .i64 b) : (PE.cmp .neq x y).ev T = some (.bool (!decide (a = b))) := by
  simp only [PE.ev, hx, hy, kEq, cond_true, cmpI]
  by_cases h : a = b <;> simp [h]
theorem cmp_eqlD {T : Rg} {x y : X} {a b : Int} (hx : T.ev x = .int .i64 a) (hy : T.ev y = .int .i64 b) : (PE.cmp .eql x y).ev T = some (.bool (decide (a = b))) := by
  simp only [PE.ev, hx, hy, kEq, cond_true, cmpI]
  by_cases h : a = b <;> simp [h]
/-- A guard over a negation. -/
theorem e_brN {r : Nat} {t : Bool} {p : Prop} [Decidable p] {o : Bop} (hc : T.f r = .bool (!decide p)) (h1 : p → Evs P (.gd r t d o :: l) N (upd T r (.bool false)) w) (h2 : ¬ p → Evs P (.gd r t d o :: l) N (upd T r (.bool true)) w) : Evs P (.gd r t d o :: l) N T w := by
  have hs := upd_same T r
  by_cases e : p
  · have := h1 e
    rw [show Value.bool false = T.f r from by rw [hc, decide_eq_true e]; rfl, hs] at this
    exact this
  · have := h2 e
    rw [show Value.bool true = T.f r from by rw [hc, decide_eq_false e]; rfl, hs] at this
    exact this
theorem s_iteN {c : X} {p : Prop} [Decidable p] {a b : Cd} (hc : T.ev c = .bool (!decide p)) (h1 : ¬ p → Ev P m a K T w) (h2 : p → Ev P m b K T w) : Ev P m (.ite c a b) K T w := by
  by_cases e : p
  · exact s_iteF (by rw [hc, decide_eq_true e]; rfl) (h2 e)
  · exact s_iteT (by rw [hc, decide_eq_false e]; rfl) (h1 e)

/-- A call that is given no blocks. -/
theorem e_callN {f : FuncId} {args : List X} {vs : List Value} {post : Value → List (Nat × Obj) → Prop} (ha : T.evs args = vs) (hf : DSpec P f vs [] post) (S : Sep w L F)
    (h : ∀ v L' w', post v L' → Sep w' (L ++ L') F → Evs P l N (updO T d v) w') : Evs P (.op (.call d f args) :: l) N T w :=
  e_call (L1 := []) (L2 := L) ha hf (by simpa using S) h

end Dn

/-
  A shelf's memory.
-/
namespace Dn
open Go

structure Cfg where
  disks : Int
  racks : Int
  rows : Int
  spare : Int
  log : Int
  image : Int
deriving DecidableEq
def Cfg.v (c : Cfg) : List Value := [.int .i64 c.disks, .int .i64 c.racks, .int .i64 c.rows, .int .i64 c.spare, .int .i64 c.log, .int .i64 c.image]
/-- valid (design.Check) -/
def Cfg.ok (c : Cfg) : Prop :=
  (1 ≤ c.disks ∧ c.disks ≤ 64) ∧ (1 ≤ c.racks ∧ c.racks ≤ 8) ∧ (1 ≤ c.rows ∧ c.rows ≤ 4096) ∧ (0 ≤ c.spare ∧ c.spare ≤ c.disks - 1) ∧ (1 ≤ c.log ∧ c.log ≤ 65536) ∧ (1 ≤ c.image ∧ c.image ≤ 65536) ∧ c.disks.tmod c.racks = 0
@[irreducible] instance Cfg.okD (c : Cfg) : Decidable c.ok := by unfold Cfg.ok; infer_instance
def Cfg.szs (c : Cfg) : List Int := [c.log, c.image, c.image, c.rows]
def Cfg.total (c : Cfg) : Int := c.log + c.image + c.image + c.rows

structure Sh where
  q : Nat
  bb : Nat
  cap : Nat
  sp : List Value
  fr : Nat × Nat
  cfg : Cfg
  bays : List (Dk × Int)
  off : Bool
  fused : Bool
  left : Int

def bayV (b : Dk × Int) : List Value := [b.1.v, .int .i64 b.2]
def Sh.hd (s : Sh) : List Value := s.cfg.v ++ [.slice (some ⟨s.bb, 0, none⟩) s.bays.length s.cap, .slice none 0 0, .bool s.off, .bool s.fused, .int .i64 s.left]
def Sh.L (s : Sh) : List (Nat × Obj) :=
  (s.q, .cells ⟨s.hd⟩ 80) :: (s.bb, .cells ⟨s.bays.flatMap bayV ++ s.sp⟩ 83 s.fr) :: s.bays.flatMap (·.1.L)
def Sh.v (s : Sh) : Value := .pointer (some ⟨s.q, 0, none⟩)

theorem bay_at : ∀ (l : List (Dk × Int)) (d : Nat) (b : Dk × Int) (sp : List Value), l[d]? = some b → ((l.flatMap bayV ++ sp).drop (d * 2)).take 2 = bayV b ∧ (l.flatMap bayV ++ sp)[d * 2 + 1]? = some (.int .i64 b.2) ∧ (l.flatMap bayV ++ sp)[d * 2]? = some b.1.v ∧ d * 2 + 2 ≤ (l.flatMap bayV ++ sp).length := by
  intro l
  induction l with
  | nil => intro d b sp h; simp at h
  | cons x l ih =>
    intro d b sp h
    cases d with
    | zero =>
      simp only [List.getElem?_cons_zero, Option.some.injEq] at h
      subst h
      simp [List.flatMap_cons, bayV]
    | succ d =>
      obtain ⟨h1, h2, h3, h4⟩ := ih d b sp (by simpa using h)
      have e : (d + 1) * 2 = d * 2 + 2 := by omega
      rw [e]
      have hx : bayV x ++ l.flatMap bayV ++ sp = x.1.v :: .int .i64 x.2 :: (l.flatMap bayV ++ sp) := by simp [bayV]
      simp only [List.flatMap_cons, hx]
      exact ⟨by simpa using h1, by simpa using h2, by simpa using h3, by simpa using h4⟩

/-- All blocks but those of one disk. -/
def Sh.pre (s : Sh) (d : Nat) : List (Nat × Obj) :=
  (s.q, .cells ⟨s.hd⟩ 80) :: (s.bb, .cells ⟨s.bays.flatMap bayV ++ s.sp⟩ 83 s.fr) :: ((s.bays.take d).flatMap (·.1.L) ++ (s.bays.drop (d + 1)).flatMap (·.1.L))
def Sh.setD (s : Sh) (d : Nat) (D : Dk) : Sh := { s with bays := s.bays.set d (D, ((s.bays[d]?).getD (D, 0)).2) }

theorem split_at (l : List (Dk × Int)) (d : Nat) (b : Dk × Int) (h : l[d]? = some b) : l = l.take d ++ b :: l.drop (d + 1) := by
  have hlt : d < l.length := by rcases Nat.lt_or_ge d l.length with h' | h'
                                · exact h'
                                · rw [List.getElem?_eq_none h'] at h; simp at h
  have e : l[d] = b := by rw [List.getElem?_eq_getElem hlt] at h; exact Option.some.inj h
  rw [← e, List.getElem_cons_drop]
  simp
theorem Sh.out (s : Sh) (d : Nat) (D : Dk) (st : Int) (h : s.bays[d]? = some (D, st)) : s.L.Perm (s.pre d ++ D.L) := by
  unfold Sh.L Sh.pre
  refine List.Perm.cons _ (List.Perm.cons _ ?_)
  have := split_at s.bays d (D, st) h
  conv => lhs; rw [this]
  simp only [List.flatMap_append, List.flatMap_cons, List.append_assoc]
  show List.Perm _ (((s.bays.take d).flatMap (·.1.L) ++ (s.bays.drop (d + 1)).flatMap (·.1.L)) ++ D.L)
  rw [List.append_assoc]
  exact (List.Perm.refl _).append List.perm_append_comm
theorem flatMap_set {β : Type} (f : Dk × Int → List β) (l : List (Dk × Int)) (d : Nat) (b b' : Dk × Int) (h : l[d]? = some b) (he : f b' = f b) : (l.set d b').flatMap f = l.flatMap f := by
  have hlt : d < l.length := by rcases Nat.lt_or_ge d l.length with h' | h'
                                · exact h'
                                · rw [List.getElem?_eq_none h'] at h; simp at h
  rw [List.set_eq_take_append_cons_drop, if_pos hlt]
  conv => rhs; rw [split_at l d b h]
  simp [he]
theorem Sh.setD_bays (s : Sh) (d : Nat) (D D' : Dk) (st : Int) (h : s.bays[d]? = some (D, st)) : (s.setD d D').bays = s.bays.set d (D', st) := by simp [Sh.setD, h]
theorem Sh.back (s : Sh) (d : Nat) (D D' : Dk) (st : Int) (h : s.bays[d]? = some (D, st)) (hq : D'.q = D.q) : (s.pre d ++ D'.L).Perm (s.setD d D').L := by
  have hlt : d < s.bays.length := by rcases Nat.lt_or_ge d s.bays.length with h' | h'
                                     · exact h'
                                     · rw [List.getElem?_eq_none h'] at h; simp at h
  have hb : (s.setD d D').bays[d]? = some (D', st) := by rw [Sh.setD_bays s d D D' st h]; simp [hlt]
  refine List.Perm.trans ?_ (Sh.out (s.setD d D') d D' st hb).symm
  have e : (s.setD d D').pre d = s.pre d := by
    unfold Sh.pre
    have e1 : (s.setD d D').bays.flatMap bayV = s.bays.flatMap bayV := by
      rw [Sh.setD_bays s d D D' st h]
      exact flatMap_set bayV s.bays d (D, st) (D', st) h (by simp [bayV, Dk.v, hq])
    have e2 : (s.setD d D').hd = s.hd := by simp [Sh.setD, Sh.hd]
    have e3 : (s.setD d D').bays.take d = s.bays.take d := by
      rw [Sh.setD_bays s d D D' st h, List.take_set, List.set_eq_of_length_le (by simp; omega)]
    have e4 : (s.setD d D').bays.drop (d + 1) = s.bays.drop (d + 1) := by
      rw [Sh.setD_bays s d D D' st h, List.drop_set, if_pos (by omega)]
    rw [e1, e2, e3, e4]; rfl
  rw [e]

def Sh.state (s : Sh) (d : Int) : Int := if d < 0 ∨ d ≥ (s.bays.length : Int) then 0 else ((s.bays[d.toNat]?).map (·.2)).getD 0
/-- the number of the sector at a place, or -1 -/
def Sh.num (s : Sh) (p : Pl) : Int :=
  if s.state p.disk = 0 ∨ p.area < 1 ∨ p.area > 4 then -1
  else if p.index < 0 ∨ p.index ≥ s.cfg.szs.getD (p.area - 1).toNat 0 then -1
  else p.index + (s.cfg.szs.take (p.area - 1).toNat).sum
def Sh.acc (s : Sh) (d : Nat) : Int := if s.off then 14 else if (((s.bays[d]?).map (·.2)).getD 0) ≠ 1 then 15 else 0
/-- a step: the error, whether the power fails, whether it is executed -/
def Sh.stepE (s : Sh) (d : Nat) : Int := if s.acc d ≠ 0 then s.acc d else if s.fused = true ∧ s.left = 0 then 14 else 0
def Sh.stepS (s : Sh) (d : Nat) (D' : Dk) : Sh :=
  if s.acc d ≠ 0 then s else if s.fused = true then (if s.left = 0 then { s with off := true, fused := false } else { s.setD d D' with left := s.left - 1 }) else s.setD d D'

/-- what holds of every shelf -/
structure Sh.ok (s : Sh) : Prop where
  cfg : s.cfg.ok
  len : (s.bays.length : Int) = s.cfg.disks
  fuse : s.fused = true → 0 ≤ s.left ∧ s.left < 9223372036854775808
  dks : ∀ b ∈ s.bays, b.1.ok
  szs : ∀ b ∈ s.bays, (b.1.dur.length : Int) = s.cfg.total

def Sh.dk (s : Sh) (d : Nat) : Dk := ((s.bays[d]?).map (·.1)).getD ⟨0, 0, 0, 0, [], ⟨[], 0⟩, ⟨[], 0⟩⟩
/-- Write: the error, and what becomes of the shelf. -/
def Sh.wrE (s : Sh) (p : Pl) (t : Sec) : Int := if s.num p < 0 ∨ t.length ≠ 64 then 1 else s.stepE p.disk.toNat
def Sh.wrS (s : Sh) (p : Pl) (t : Sec) : Sh := if s.num p < 0 ∨ t.length ≠ 64 then s else s.stepS p.disk.toNat ((s.dk p.disk.toNat).write (s.num p) t)
/-- Read -/
def Sh.rdV (s : Sh) (p : Pl) : Value :=
  if s.num p < 0 then .tuple ⟨[.string ⟨#[]⟩, .int .i64 1]⟩ else if s.acc p.disk.toNat ≠ 0 then .tuple ⟨[.string ⟨#[]⟩, .int .i64 (s.acc p.disk.toNat)]⟩ else .tuple ⟨[.string ⟨⟨(s.dk p.disk.toNat).read (s.num p).toNat⟩⟩, .int .i64 0]⟩

end Dn

/- The compiled forms of functions of this seat, printed by a program of this claim's writer. -/
set_option maxRecDepth 100000
namespace Go.Proofs.Ytgendpinmmmfjaa
open Dn Go
/-- solvent/sector.Valid -/
def c54 : Fun := ⟨31, (.seq (.ops [(.op (.bx (some 1) 46 (.r 0))), (.op (.p (some 2) (.mov (.c (.bool false)))))] false) (.seq (.ops [(.op (.p (some 3) (.fad (.r 1) 0))), (.op (.ld (some 4) none (.r 3))), (.op (.p (some 5) (.cmp .geq (.r 4) (.c (.int .i64 0))))), (.op (.p (some 6) (.mov (.r 5)))), (.gd 6 true (some 7) (.p (some 7) (.fad (.r 1) 0))), (.gd 6 true (some 8) (.ld (some 8) none (.r 7))), (.gd 6 true (some 9) (.p (some 9) (.cmp .lss (.r 8) (.c (.int .i64 64))))), (.op (.pk (some 10) (.r 6) (.r 9) (.c (.bool false)))), (.op (.p (some 11) (.mov (.r 10)))), (.gd 11 true (some 12) (.p (some 12) (.fad (.r 1) 1))), (.gd 11 true (some 13) (.ld (some 13) none (.r 12))), (.gd 11 true (some 14) (.p (some 14) (.cmp .geq (.r 13) (.c (.int .i64 1))))), (.op (.pk (some 15) (.r 11) (.r 14) (.c (.bool false)))), (.op (.p (some 16) (.mov (.r 15)))), (.gd 16 true (some 17) (.p (some 17) (.fad (.r 1) 1))), (.gd 16 true (some 18) (.ld (some 18) none (.r 17))), (.gd 16 true (some 19) (.p (some 19) (.cmp .leq (.r 18) (.c (.int .i64 4))))), (.op (.pk (some 20) (.r 16) (.r 19) (.c (.bool false)))), (.op (.p (some 21) (.mov (.r 20)))), (.gd 21 true (some 22) (.p (some 22) (.fad (.r 1) 2))), (.gd 21 true (some 23) (.ld (some 23) none (.r 22))), (.gd 21 true (some 24) (.p (some 24) (.cmp .geq (.r 23) (.c (.int .i64 0))))), (.op (.pk (some 25) (.r 21) (.r 24) (.c (.bool false)))), (.op (.p (some 26) (.mov (.r 25)))), (.gd 26 true (some 27) (.p (some 27) (.fad (.r 1) 2))), (.gd 26 true (some 28) (.ld (some 28) none (.r 27))), (.gd 26 true (some 29) (.p (some 29) (.cmp .lss (.r 28) (.c (.int .i64 65536))))), (.op (.pk (some 30) (.r 26) (.r 29) (.c (.bool false)))), (.op (.p (some 2) (.mov (.r 30))))] false) .ret)), [(.t (.r 2))]⟩
theorem c54_eq : cF Try.prog Try.f54 = some c54 := by kernel_rfl
/-- solvent/sector.validGen -/
def c55 : Fun := ⟨22, (.seq (.ops [(.op (.bx (some 1) 29 (.r 0))), (.op (.p (some 2) (.mov (.c (.bool false)))))] false) (.seq (.ops [(.op (.p (some 3) (.fad (.r 1) 0))), (.op (.ld (some 4) none (.r 3))), (.op (.p (some 5) (.fad (.r 1) 1))), (.op (.ld (some 6) none (.r 5))), (.op (.p (some 7) (.mn (.r 4) [(.r 6)]))), (.op (.p (some 8) (.cmp .geq (.r 7) (.c (.int .i64 0))))), (.op (.p (some 9) (.mov (.r 8)))), (.gd 9 true (some 10) (.p (some 10) (.fad (.r 1) 0))), (.gd 9 true (some 11) (.ld (some 11) none (.r 10))), (.gd 9 true (some 12) (.p (some 12) (.fad (.r 1) 1))), (.gd 9 true (some 13) (.ld (some 13) none (.r 12))), (.gd 9 true (some 14) (.p (some 14) (.mx (.r 11) [(.r 13)]))), (.gd 9 true (some 15) (.p (some 15) (.cmp .lss (.r 14) (.c (.int .i64 4294967296))))), (.op (.pk (some 16) (.r 9) (.r 15) (.c (.bool false)))), (.op (.p (some 17) (.mov (.r 16)))), (.gd 17 true (some 18) (.ld (some 18) (some 2) (.r 1))), (.gd 17 true (some 19) (.p (some 19) (.bld [(.int .i64 0), (.int .i64 0)] []))), (.gd 17 true (some 20) (.p (some 20) (.eqc true 2 (.r 18) (.r 19)))), (.op (.pk (some 21) (.r 17) (.r 20) (.c (.bool false)))), (.op (.p (some 2) (.mov (.r 21))))] false) .ret)), [(.t (.r 2))]⟩
theorem c55_eq : cF Try.prog Try.f55 = some c55 := by kernel_rfl
/-- solvent/sector.put[uint16] -/
def c56 : Fun := ⟨19, (.seq (.ops [(.op (.p (some 4) (.mov (.c (.slice none 0 0)))))] false) (.seq (.seq (.ops [(.op (.call (some 5) 73 [])), (.op (.p (some 6) (.mov (.c (.int .i64 0)))))] false) (.blk 0 (.loop (.seq (.ops [(.op (.p (some 7) (.cmp .lss (.r 6) (.r 5))))] false) (.seq (.ite (.r 7) .skip (.exit 0)) (.seq (.blk 1 (.seq (.ops [(.op (.p (some 8) (.mov (.r 0)))), (.op (.p (some 9) (.mov (.r 1)))), (.op (.p (some 10) (.cvi .u8 (.r 9)))), (.op (.raw (some 11) (.buildSlice 95 1 #[(0, (.tmp 10))]) 95)), (.op (.raw (some 12) (.call (.mk (.builtin .append) #[(.tmp 8), (.tmp 11)] #[95, 95])) 95)), (.op (.p (some 0) (.mov (.r 12))))] false) (.ops [(.op (.p (some 13) (.mov (.r 1)))), (.op (.p (some 14) (.cvi .u64 (.r 13)))), (.op (.ar (some 15) .shr (.r 14) (.c (.int .u64 8)))), (.op (.p (some 16) (.cvi .u16 (.r 15)))), (.op (.p (some 1) (.mov (.r 16))))] false))) (.ops [(.op (.ar (some 17) .add (.r 6) (.c (.int .i64 1)))), (.op (.p (some 6) (.mov (.r 17))))] false))))))) (.seq (.ops [(.op (.p (some 18) (.mov (.r 0)))), (.op (.p (some 4) (.mov (.r 18))))] false) .ret))), [(.t (.r 4))]⟩
theorem c56_eq : cF Try.prog Try.f56 = some c56 := by kernel_rfl
/-- solvent/sector.put[uint32] -/
def c57 : Fun := ⟨19, (.seq (.ops [(.op (.p (some 4) (.mov (.c (.slice none 0 0)))))] false) (.seq (.seq (.ops [(.op (.call (some 5) 74 [])), (.op (.p (some 6) (.mov (.c (.int .i64 0)))))] false) (.blk 0 (.loop (.seq (.ops [(.op (.p (some 7) (.cmp .lss (.r 6) (.r 5))))] false) (.seq (.ite (.r 7) .skip (.exit 0)) (.seq (.blk 1 (.seq (.ops [(.op (.p (some 8) (.mov (.r 0)))), (.op (.p (some 9) (.mov (.r 1)))), (.op (.p (some 10) (.cvi .u8 (.r 9)))), (.op (.raw (some 11) (.buildSlice 95 1 #[(0, (.tmp 10))]) 95)), (.op (.raw (some 12) (.call (.mk (.builtin .append) #[(.tmp 8), (.tmp 11)] #[95, 95])) 95)), (.op (.p (some 0) (.mov (.r 12))))] false) (.ops [(.op (.p (some 13) (.mov (.r 1)))), (.op (.p (some 14) (.cvi .u64 (.r 13)))), (.op (.ar (some 15) .shr (.r 14) (.c (.int .u64 8)))), (.op (.p (some 16) (.cvi .u32 (.r 15)))), (.op (.p (some 1) (.mov (.r 16))))] false))) (.ops [(.op (.ar (some 17) .add (.r 6) (.c (.int .i64 1)))), (.op (.p (some 6) (.mov (.r 17))))] false))))))) (.seq (.ops [(.op (.p (some 18) (.mov (.r 0)))), (.op (.p (some 4) (.mov (.r 18))))] false) .ret))), [(.t (.r 4))]⟩
theorem c57_eq : cF Try.prog Try.f57 = some c57 := by kernel_rfl
/-- solvent/sector.sizeOf[uint16] -/
def c73 : Fun := ⟨13, (.seq (.ops [(.op (.p (some 0) (.mov (.c (.int .i64 0)))))] false) (.seq (.ops [(.op (.p (some 1) (.mov (.c (.int .i64 0)))))] false) (.seq (.seq (.ops [(.op (.p (some 3) (.cvi .u16 (.c (.int .i64 0))))), (.op (.p (some 4) (.un .xor (.r 3)))), (.op (.p (some 5) (.cvi .u64 (.r 4)))), (.op (.p (some 2) (.mov (.r 5))))] false) (.blk 0 (.loop (.seq (.seq (.ops [(.op (.p (some 6) (.mov (.r 2)))), (.op (.p (some 7) (.cmp .gtr (.r 6) (.c (.int .u64 0)))))] false) (.ite (.r 7) .skip (.exit 0))) (.seq (.blk 1 (.ops [(.op (.p (some 10) (.mov (.r 1)))), (.op (.ar (some 11) .add (.r 10) (.c (.int .i64 1)))), (.op (.p (some 1) (.mov (.r 11))))] false)) (.ops [(.op (.p (some 8) (.mov (.r 2)))), (.op (.ar (some 9) .shr (.r 8) (.c (.int .u64 8)))), (.op (.p (some 2) (.mov (.r 9))))] false)))))) (.seq (.ops [(.op (.p (some 12) (.mov (.r 1)))), (.op (.p (some 0) (.mov (.r 12))))] false) .ret)))), [(.t (.r 0))]⟩
theorem c73_eq : cF Try.prog Try.f73 = some c73 := by kernel_rfl
/-- solvent/sector.sizeOf[uint32] -/
def c74 : Fun := ⟨13, (.seq (.ops [(.op (.p (some 0) (.mov (.c (.int .i64 0)))))] false) (.seq (.ops [(.op (.p (some 1) (.mov (.c (.int .i64 0)))))] false) (.seq (.seq (.ops [(.op (.p (some 3) (.cvi .u32 (.c (.int .i64 0))))), (.op (.p (some 4) (.un .xor (.r 3)))), (.op (.p (some 5) (.cvi .u64 (.r 4)))), (.op (.p (some 2) (.mov (.r 5))))] false) (.blk 0 (.loop (.seq (.seq (.ops [(.op (.p (some 6) (.mov (.r 2)))), (.op (.p (some 7) (.cmp .gtr (.r 6) (.c (.int .u64 0)))))] false) (.ite (.r 7) .skip (.exit 0))) (.seq (.blk 1 (.ops [(.op (.p (some 10) (.mov (.r 1)))), (.op (.ar (some 11) .add (.r 10) (.c (.int .i64 1)))), (.op (.p (some 1) (.mov (.r 11))))] false)) (.ops [(.op (.p (some 8) (.mov (.r 2)))), (.op (.ar (some 9) .shr (.r 8) (.c (.int .u64 8)))), (.op (.p (some 2) (.mov (.r 9))))] false)))))) (.seq (.ops [(.op (.p (some 12) (.mov (.r 1)))), (.op (.p (some 0) (.mov (.r 12))))] false) .ret)))), [(.t (.r 0))]⟩
theorem c74_eq : cF Try.prog Try.f74 = some c74 := by kernel_rfl
/-- solvent/sector.get -/
def c79 : Fun := ⟨21, (.seq (.ops [(.op (.p (some 2) (.mov (.c (.int .i64 0)))))] false) (.seq (.ops [(.op (.p (some 3) (.mov (.c (.int .i64 0)))))] false) (.seq (.seq (.ops [(.op (.p (some 5) (.mov (.r 0)))), (.op (.p (some 6) (.lns (.r 5)))), (.op (.p (some 7) (.mov (.c (.int .i64 0)))))] false) (.blk 0 (.loop (.seq (.ops [(.op (.p (some 8) (.cmp .lss (.r 7) (.r 6))))] false) (.seq (.ite (.r 8) .skip (.exit 0)) (.seq (.blk 1 (.seq (.ops [(.op (.p (some 9) (.mov (.r 7)))), (.op (.p (some 4) (.mov (.r 9))))] false) (.ops [(.op (.p (some 10) (.mov (.r 3)))), (.op (.p (some 11) (.mov (.r 0)))), (.op (.p (some 12) (.mov (.r 4)))), (.op (.p (some 13) (.ixs (.r 11) (.r 12)))), (.op (.p (some 14) (.cvi .i64 (.r 13)))), (.op (.p (some 15) (.mov (.r 4)))), (.op (.ar (some 16) .mul (.c (.int .i64 8)) (.r 15))), (.op (.ar (some 17) .shl (.r 14) (.r 16))), (.op (.ar (some 18) .or (.r 10) (.r 17))), (.op (.p (some 3) (.mov (.r 18))))] false))) (.ops [(.op (.ar (some 19) .add (.r 7) (.c (.int .i64 1)))), (.op (.p (some 7) (.mov (.r 19))))] false))))))) (.seq (.ops [(.op (.p (some 20) (.mov (.r 3)))), (.op (.p (some 2) (.mov (.r 20))))] false) .ret)))), [(.t (.r 2))]⟩
theorem c79_eq : cF Try.prog Try.f79 = some c79 := by kernel_rfl
/-- solvent/sector.Seal -/
def c33 : Fun := ⟨65, (.seq (.ops [(.op (.bx (some 3) 46 (.r 0))), (.op (.bx (some 4) 29 (.r 1))), (.op (.p (some 6) (.mov (.c (.string ⟨#[]⟩))))), (.op (.p (some 7) (.mov (.c (.int .i64 0)))))] false) (.seq (.seq (.ops [(.op (.ld (some 9) (some 3) (.r 3))), (.op (.call (some 10) 54 [(.r 9)])), (.op (.p (some 11) (.un .not (.r 10)))), (.op (.p (some 12) (.mov (.r 11)))), (.gd 12 false (some 13) (.ld (some 13) (some 2) (.r 4))), (.gd 12 false (some 14) (.call (some 14) 55 [(.r 13)])), (.gd 12 false (some 15) (.p (some 15) (.un .not (.r 14)))), (.op (.pk (some 16) (.r 12) (.c (.bool true)) (.r 15))), (.op (.p (some 17) (.mov (.r 16)))), (.gd 17 false (some 18) (.p (some 18) (.mov (.r 2)))), (.gd 17 false (some 19) (.p (some 19) (.lns (.r 18)))), (.gd 17 false (some 20) (.p (some 20) (.cmp .gtr (.r 19) (.c (.int .i64 40))))), (.op (.pk (some 21) (.r 17) (.c (.bool true)) (.r 20)))] false) (.ite (.r 21) (.seq (.ops [(.op (.p (some 6) (.mov (.c (.string ⟨#[]⟩))))), (.op (.p (some 7) (.mov (.c (.int .i64 1)))))] false) .ret) .skip)) (.seq (.ops [(.op (.p (some 22) (.fad (.r 3) 1))), (.op (.ld (some 23) none (.r 22))), (.op (.p (some 24) (.cvi .u8 (.r 23)))), (.op (.p (some 25) (.fad (.r 3) 0))), (.op (.ld (some 26) none (.r 25))), (.op (.p (some 27) (.cvi .u8 (.r 26)))), (.op (.raw (some 28) (.buildSlice 95 2 #[(0, (.tmp 24)), (1, (.tmp 27))]) 95)), (.op (.p (some 29) (.fad (.r 3) 2))), (.op (.ld (some 30) none (.r 29))), (.op (.p (some 31) (.cvi .u16 (.r 30)))), (.op (.call (some 32) 56 [(.r 28), (.r 31)])), (.op (.p (some 8) (.mov (.r 32))))] false) (.seq (.dr (.step (.op (.p (some 33) (.mov (.r 8)))) (.step (.op (.p (some 34) (.fad (.r 4) 0))) (.step (.op (.ld (some 35) none (.r 34))) (.step (.op (.p (some 36) (.cvi .u32 (.r 35)))) (.step (.op (.p (some 38) (.fad (.r 4) 1))) (.alt (.step (.op (.call (some 37) 57 [(.r 33), (.r 36)])) (.step (.op (.ld (some 39) none (.r 38))) (.step (.op (.p (some 40) (.cvi .u32 (.r 39)))) (.step (.op (.call (some 41) 57 [(.r 37), (.r 40)])) (.step (.op (.p (some 8) (.mov (.r 41)))) .done))))) (.step (.op (.ld (some 39) none (.r 38))) (.step (.op (.call (some 37) 57 [(.r 33), (.r 36)])) (.step (.op (.p (some 40) (.cvi .u32 (.r 39)))) (.step (.op (.call (some 41) 57 [(.r 37), (.r 40)])) (.step (.op (.p (some 8) (.mov (.r 41)))) .done)))))))))))) (.seq (.ops [(.op (.p (some 42) (.mov (.r 8)))), (.op (.p (some 43) (.mov (.r 2)))), (.op (.raw (some 44) (.call (.mk (.builtin .append) #[(.tmp 42), (.tmp 43)] #[95, 9])) 95)), (.op (.p (some 8) (.mov (.r 44))))] false) (.seq (.ops [(.op (.p (some 45) (.mov (.r 8)))), (.op (.p (some 46) (.mov (.r 2)))), (.op (.p (some 47) (.lns (.r 46)))), (.op (.ar (some 48) .sub (.c (.int .i64 40)) (.r 47))), (.op (.raw (some 49) (.call (.mk (.builtin .append) #[(.tmp 45), (.tmp 48)] #[95, 3])) 95)), (.op (.p (some 8) (.mov (.r 49))))] false) (.seq (.dr (.step (.op (.p (some 50) (.mov (.r 8)))) (.step (.op (.p (some 51) (.fad (.r 4) 0))) (.step (.op (.ld (some 52) none (.r 51))) (.step (.op (.p (some 53) (.cvi .u32 (.r 52)))) (.step (.op (.p (some 55) (.fad (.r 4) 1))) (.alt (.step (.op (.call (some 54) 57 [(.r 50), (.r 53)])) (.step (.op (.ld (some 56) none (.r 55))) (.step (.op (.p (some 57) (.cvi .u32 (.r 56)))) (.step (.op (.call (some 58) 57 [(.r 54), (.r 57)])) (.step (.op (.p (some 8) (.mov (.r 58)))) .done))))) (.step (.op (.ld (some 56) none (.r 55))) (.step (.op (.call (some 54) 57 [(.r 50), (.r 53)])) (.step (.op (.p (some 57) (.cvi .u32 (.r 56)))) (.step (.op (.call (some 58) 57 [(.r 54), (.r 57)])) (.step (.op (.p (some 8) (.mov (.r 58)))) .done)))))))))))) (.seq (.ops [(.op (.p (some 59) (.mov (.r 8)))), (.op (.call (some 60) 58 [(.r 59)])), (.op (.call (some 61) 57 [(.c (.slice none 0 0)), (.r 60)])), (.op (.p (some 62) (.mov (.r 8)))), (.op (.raw (some 63) (.call (.mk (.builtin .append) #[(.tmp 61), (.tmp 62)] #[95, 95])) 95)), (.op (.b2s (some 64) (.r 63))), (.op (.p (some 6) (.mov (.r 64)))), (.op (.p (some 7) (.mov (.c (.int .i64 0)))))] false) .ret)))))))), [(.t (.r 6)), (.t (.r 7))]⟩
theorem c33_eq : cF Try.prog Try.f33 = some c33 := by kernel_rfl
/-- solvent/sector.Label -/
def c69 : Fun := ⟨61, (.seq (.ops [(.op (.nw (some 2) 46 [(.int .i64 0), (.int .i64 0), (.int .i64 0)])), (.op (.nw (some 3) 29 [(.int .i64 0), (.int .i64 0)])), (.op (.p (some 4) (.mov (.c (.int .i64 0)))))] false) (.seq (.seq (.ops [(.op (.p (some 8) (.mov (.r 0)))), (.op (.p (some 9) (.lns (.r 8)))), (.op (.p (some 10) (.cmp .neq (.r 9) (.c (.int .i64 64)))))] false) (.ite (.r 10) (.seq (.ops [(.op (.p (some 11) (.bld [(.int .i64 0), (.int .i64 0), (.int .i64 0)] []))), (.op (.p (some 12) (.bld [(.int .i64 0), (.int .i64 0)] []))), (.op (.st none 3 (.r 2) (.r 11))), (.op (.st none 2 (.r 3) (.r 12))), (.op (.p (some 4) (.mov (.c (.int .i64 1)))))] false) .ret) .skip)) (.seq (.dr (.step (.op (.p (some 13) (.mov (.r 0)))) (.step (.op (.p (some 14) (.ixs (.r 13) (.c (.int .i64 4))))) (.step (.op (.p (some 15) (.cvi .i64 (.r 14)))) (.step (.op (.p (some 16) (.mov (.r 0)))) (.step (.op (.p (some 17) (.ixs (.r 16) (.c (.int .i64 5))))) (.step (.op (.p (some 18) (.cvi .i64 (.r 17)))) (.step (.op (.p (some 19) (.mov (.r 0)))) (.step (.op (.p (some 20) (.sls (.r 19) (some (.c (.int .i64 6))) (some (.c (.int .i64 8)))))) (.alt (.step (.op (.call (some 21) 79 [(.r 20)])) (.step (.op (.p (some 22) (.bld [(.int .i64 0), (.int .i64 0), (.int .i64 0)] [(1, (1, (.r 15))), (0, (1, (.r 18))), (2, (1, (.r 21)))]))) (.step (.op (.nw (some 5) 46 [(.int .i64 0), (.int .i64 0), (.int .i64 0)])) (.step (.op (.st none 3 (.r 5) (.r 22))) .done)))) (.step (.op (.nw (some 5) 46 [(.int .i64 0), (.int .i64 0), (.int .i64 0)])) (.step (.op (.call (some 21) 79 [(.r 20)])) (.step (.op (.p (some 22) (.bld [(.int .i64 0), (.int .i64 0), (.int .i64 0)] [(1, (1, (.r 15))), (0, (1, (.r 18))), (2, (1, (.r 21)))]))) (.step (.op (.st none 3 (.r 5) (.r 22))) .done)))))))))))))) (.seq (.dr (.step (.op (.p (some 23) (.mov (.r 0)))) (.step (.op (.p (some 24) (.sls (.r 23) (some (.c (.int .i64 8))) (some (.c (.int .i64 12)))))) (.step (.op (.p (some 26) (.mov (.r 0)))) (.step (.op (.p (some 27) (.sls (.r 26) (some (.c (.int .i64 12))) (some (.c (.int .i64 16)))))) (.alt (.step (.op (.call (some 25) 79 [(.r 24)])) (.alt (.step (.op (.call (some 28) 79 [(.r 27)])) (.step (.op (.p (some 29) (.bld [(.int .i64 0), (.int .i64 0)] [(0, (1, (.r 25))), (1, (1, (.r 28)))]))) (.step (.op (.nw (some 6) 29 [(.int .i64 0), (.int .i64 0)])) (.step (.op (.st none 2 (.r 6) (.r 29))) .done)))) (.step (.op (.nw (some 6) 29 [(.int .i64 0), (.int .i64 0)])) (.step (.op (.call (some 28) 79 [(.r 27)])) (.step (.op (.p (some 29) (.bld [(.int .i64 0), (.int .i64 0)] [(0, (1, (.r 25))), (1, (1, (.r 28)))]))) (.step (.op (.st none 2 (.r 6) (.r 29))) .done)))))) (.step (.op (.nw (some 6) 29 [(.int .i64 0), (.int .i64 0)])) (.step (.op (.call (some 25) 79 [(.r 24)])) (.step (.op (.call (some 28) 79 [(.r 27)])) (.step (.op (.p (some 29) (.bld [(.int .i64 0), (.int .i64 0)] [(0, (1, (.r 25))), (1, (1, (.r 28)))]))) (.step (.op (.st none 2 (.r 6) (.r 29))) .done))))))))))) (.seq (.ops [(.op (.p (some 30) (.mov (.r 0)))), (.op (.p (some 31) (.sls (.r 30) (some (.c (.int .i64 8))) (some (.c (.int .i64 16)))))), (.op (.p (some 32) (.mov (.r 0)))), (.op (.p (some 33) (.sls (.r 32) (some (.c (.int .i64 56))) none))), (.op (.p (some 34) (.cmp .neq (.r 31) (.r 33)))), (.op (.p (some 7) (.mov (.r 34))))] true) (.seq (.seq (.dr (.step (.op (.p (some 35) (.mov (.r 0)))) (.step (.op (.p (some 36) (.sls (.r 35) none (some (.c (.int .i64 4)))))) (.step (.op (.p (some 38) (.mov (.r 0)))) (.step (.op (.p (some 39) (.sls (.r 38) (some (.c (.int .i64 4))) none))) (.alt (.step (.op (.call (some 37) 79 [(.r 36)])) (.step (.op (.s2b (some 40) 5 (.r 39))) (.step (.op (.call (some 41) 58 [(.r 40)])) (.step (.op (.p (some 42) (.cvi .i64 (.r 41)))) (.step (.op (.p (some 43) (.cmp .neq (.r 37) (.r 42)))) (.step (.op (.p (some 44) (.mov (.r 43)))) (.step (.gd 44 false (some 45) (.ld (some 45) (some 3) (.r 5))) (.step (.gd 44 false (some 46) (.call (some 46) 54 [(.r 45)])) (.step (.gd 44 false (some 47) (.p (some 47) (.un .not (.r 46)))) (.step (.op (.pk (some 48) (.r 44) (.c (.bool true)) (.r 47))) (.step (.op (.p (some 49) (.mov (.r 48)))) (.step (.gd 49 false (some 50) (.ld (some 50) (some 2) (.r 6))) (.step (.gd 49 false (some 51) (.call (some 51) 55 [(.r 50)])) (.step (.gd 49 false (some 52) (.p (some 52) (.un .not (.r 51)))) (.step (.op (.pk (some 53) (.r 49) (.c (.bool true)) (.r 52))) (.step (.op (.p (some 54) (.mov (.r 53)))) (.step (.gd 54 false (some 55) (.p (some 55) (.mov (.r 7)))) (.step (.op (.pk (some 56) (.r 54) (.c (.bool true)) (.r 55))) .done)))))))))))))))))) (.step (.op (.s2b (some 40) 5 (.r 39))) (.step (.op (.call (some 37) 79 [(.r 36)])) (.step (.op (.call (some 41) 58 [(.r 40)])) (.step (.op (.p (some 42) (.cvi .i64 (.r 41)))) (.step (.op (.p (some 43) (.cmp .neq (.r 37) (.r 42)))) (.step (.op (.p (some 44) (.mov (.r 43)))) (.step (.gd 44 false (some 45) (.ld (some 45) (some 3) (.r 5))) (.step (.gd 44 false (some 46) (.call (some 46) 54 [(.r 45)])) (.step (.gd 44 false (some 47) (.p (some 47) (.un .not (.r 46)))) (.step (.op (.pk (some 48) (.r 44) (.c (.bool true)) (.r 47))) (.step (.op (.p (some 49) (.mov (.r 48)))) (.step (.gd 49 false (some 50) (.ld (some 50) (some 2) (.r 6))) (.step (.gd 49 false (some 51) (.call (some 51) 55 [(.r 50)])) (.step (.gd 49 false (some 52) (.p (some 52) (.un .not (.r 51)))) (.step (.op (.pk (some 53) (.r 49) (.c (.bool true)) (.r 52))) (.step (.op (.p (some 54) (.mov (.r 53)))) (.step (.gd 54 false (some 55) (.p (some 55) (.mov (.r 7)))) (.step (.op (.pk (some 56) (.r 54) (.c (.bool true)) (.r 55))) .done)))))))))))))))))))))))) (.ite (.r 56) (.seq (.ops [(.op (.p (some 57) (.bld [(.int .i64 0), (.int .i64 0), (.int .i64 0)] []))), (.op (.p (some 58) (.bld [(.int .i64 0), (.int .i64 0)] []))), (.op (.st none 3 (.r 2) (.r 57))), (.op (.st none 2 (.r 3) (.r 58))), (.op (.p (some 4) (.mov (.c (.int .i64 7)))))] false) .ret) .skip)) (.seq (.dr (.step (.op (.ld (some 59) (some 3) (.r 5))) (.alt (.step (.op (.ld (some 60) (some 2) (.r 6))) (.step (.op (.st none 3 (.r 2) (.r 59))) (.step (.op (.st none 2 (.r 3) (.r 60))) (.step (.op (.p (some 4) (.mov (.c (.int .i64 0))))) .done)))) (.step (.op (.st none 3 (.r 2) (.r 59))) (.step (.op (.ld (some 60) (some 2) (.r 6))) (.step (.op (.st none 2 (.r 3) (.r 60))) (.step (.op (.p (some 4) (.mov (.c (.int .i64 0))))) .done))))))) .ret))))))), [(.cl (.r 2) (some 3)), (.cl (.r 3) (some 2)), (.t (.r 4))]⟩
theorem c69_eq : cF Try.prog Try.f69 = some c69 := by kernel_rfl
/-- solvent/sector.Open -/
def c48 : Fun := ⟨34, (.seq (.ops [(.op (.bx (some 2) 46 (.r 0))), (.op (.nw (some 4) 29 [(.int .i64 0), (.int .i64 0)])), (.op (.p (some 5) (.mov (.c (.string ⟨#[]⟩))))), (.op (.p (some 6) (.mov (.c (.int .i64 0)))))] false) (.seq (.seq (.ops [(.op (.ld (some 10) (some 3) (.r 2))), (.op (.call (some 11) 54 [(.r 10)])), (.op (.p (some 12) (.un .not (.r 11))))] false) (.ite (.r 12) (.seq (.ops [(.op (.p (some 13) (.bld [(.int .i64 0), (.int .i64 0)] []))), (.op (.st none 2 (.r 4) (.r 13))), (.op (.p (some 5) (.mov (.c (.string ⟨#[]⟩))))), (.op (.p (some 6) (.mov (.c (.int .i64 1)))))] false) .ret) .skip)) (.seq (.ops [(.op (.p (some 15) (.mov (.r 1)))), (.op (.call (some 16) 69 [(.r 15)])), (.op (.p (some 14) (.mov (.r 16)))), (.op (.p (some 17) (.ext (.r 14) 0))), (.op (.p (some 18) (.ext (.r 14) 1))), (.op (.p (some 19) (.ext (.r 14) 2))), (.op (.nw (some 7) 46 [(.int .i64 0), (.int .i64 0), (.int .i64 0)])), (.op (.nw (some 8) 29 [(.int .i64 0), (.int .i64 0)])), (.op (.st none 3 (.r 7) (.r 17))), (.op (.st none 2 (.r 8) (.r 18))), (.op (.p (some 9) (.mov (.r 19))))] false) (.seq (.blk 0 (.seq (.ops [(.op (.p (some 21) (.mov (.r 9)))), (.op (.p (some 22) (.cmp .neq (.r 21) (.c (.int .i64 0))))), (.op (.p (some 20) (.mov (.r 22))))] false) (.ite (.r 20) (.seq (.ops [(.op (.p (some 23) (.bld [(.int .i64 0), (.int .i64 0)] []))), (.op (.p (some 24) (.mov (.r 9)))), (.op (.st none 2 (.r 4) (.r 23))), (.op (.p (some 5) (.mov (.c (.string ⟨#[]⟩))))), (.op (.p (some 6) (.mov (.r 24))))] false) .ret) (.seq (.ops [(.op (.ld (some 26) (some 3) (.r 7))), (.op (.ld (some 27) (some 3) (.r 2))), (.op (.p (some 28) (.eqc true 3 (.r 26) (.r 27)))), (.op (.p (some 25) (.mov (.r 28))))] false) (.ite (.r 25) (.seq (.ops [(.op (.p (some 29) (.bld [(.int .i64 0), (.int .i64 0)] []))), (.op (.st none 2 (.r 4) (.r 29))), (.op (.p (some 5) (.mov (.c (.string ⟨#[]⟩))))), (.op (.p (some 6) (.mov (.c (.int .i64 8)))))] false) .ret) .skip))))) (.seq (.dr (.step (.op (.p (some 31) (.mov (.r 1)))) (.step (.op (.p (some 32) (.sls (.r 31) (some (.c (.int .i64 16))) (some (.c (.int .i64 56)))))) (.alt (.step (.op (.ld (some 30) (some 2) (.r 8))) (.step (.op (.call (some 33) 70 [(.r 32)])) (.step (.op (.st none 2 (.r 4) (.r 30))) (.step (.op (.p (some 5) (.mov (.r 33)))) (.step (.op (.p (some 6) (.mov (.c (.int .i64 0))))) .done))))) (.step (.op (.call (some 33) 70 [(.r 32)])) (.step (.op (.ld (some 30) (some 2) (.r 8))) (.step (.op (.st none 2 (.r 4) (.r 30))) (.step (.op (.p (some 5) (.mov (.r 33)))) (.step (.op (.p (some 6) (.mov (.c (.int .i64 0))))) .done))))))))) .ret))))), [(.cl (.r 4) (some 2)), (.t (.r 5)), (.t (.r 6))]⟩
theorem c48_eq : cF Try.prog Try.f48 = some c48 := by kernel_rfl
/-- solvent/sector.Newer -/
def c29 : Fun := ⟨18, (.seq (.ops [(.op (.bx (some 2) 29 (.r 0))), (.op (.bx (some 3) 29 (.r 1))), (.op (.p (some 4) (.mov (.c (.bool false)))))] false) (.seq (.dr (.step (.op (.p (some 5) (.fad (.r 2) 0))) (.step (.op (.ld (some 6) none (.r 5))) (.step (.op (.p (some 7) (.fad (.r 3) 0))) (.step (.op (.ld (some 8) none (.r 7))) (.step (.op (.p (some 10) (.fad (.r 2) 1))) (.step (.op (.p (some 12) (.fad (.r 3) 1))) (.alt (.step (.op (.call (some 9) 51 [(.r 6), (.r 8)])) (.step (.op (.ld (some 11) none (.r 10))) (.step (.op (.ld (some 13) none (.r 12))) (.step (.op (.call (some 14) 51 [(.r 11), (.r 13)])) (.step (.op (.raw (some 15) (.buildSlice 49 2 #[(0, (.tmp 9)), (1, (.tmp 14))]) 49)) (.step (.op (.call (some 16) 50 [(.r 15)])) (.step (.op (.p (some 17) (.cmp .gtr (.r 16) (.c (.int .i64 0))))) (.step (.op (.p (some 4) (.mov (.r 17)))) .done)))))))) (.alt (.step (.op (.ld (some 11) none (.r 10))) (.alt (.step (.op (.call (some 9) 51 [(.r 6), (.r 8)])) (.step (.op (.ld (some 13) none (.r 12))) (.step (.op (.call (some 14) 51 [(.r 11), (.r 13)])) (.step (.op (.raw (some 15) (.buildSlice 49 2 #[(0, (.tmp 9)), (1, (.tmp 14))]) 49)) (.step (.op (.call (some 16) 50 [(.r 15)])) (.step (.op (.p (some 17) (.cmp .gtr (.r 16) (.c (.int .i64 0))))) (.step (.op (.p (some 4) (.mov (.r 17)))) .done))))))) (.step (.op (.ld (some 13) none (.r 12))) (.step (.op (.call (some 9) 51 [(.r 6), (.r 8)])) (.step (.op (.call (some 14) 51 [(.r 11), (.r 13)])) (.step (.op (.raw (some 15) (.buildSlice 49 2 #[(0, (.tmp 9)), (1, (.tmp 14))]) 49)) (.step (.op (.call (some 16) 50 [(.r 15)])) (.step (.op (.p (some 17) (.cmp .gtr (.r 16) (.c (.int .i64 0))))) (.step (.op (.p (some 4) (.mov (.r 17)))) .done))))))))) (.step (.op (.ld (some 13) none (.r 12))) (.alt (.step (.op (.call (some 9) 51 [(.r 6), (.r 8)])) (.step (.op (.ld (some 11) none (.r 10))) (.step (.op (.call (some 14) 51 [(.r 11), (.r 13)])) (.step (.op (.raw (some 15) (.buildSlice 49 2 #[(0, (.tmp 9)), (1, (.tmp 14))]) 49)) (.step (.op (.call (some 16) 50 [(.r 15)])) (.step (.op (.p (some 17) (.cmp .gtr (.r 16) (.c (.int .i64 0))))) (.step (.op (.p (some 4) (.mov (.r 17)))) .done))))))) (.step (.op (.ld (some 11) none (.r 10))) (.step (.op (.call (some 9) 51 [(.r 6), (.r 8)])) (.step (.op (.call (some 14) 51 [(.r 11), (.r 13)])) (.step (.op (.raw (some 15) (.buildSlice 49 2 #[(0, (.tmp 9)), (1, (.tmp 14))]) 49)) (.step (.op (.call (some 16) 50 [(.r 15)])) (.step (.op (.p (some 17) (.cmp .gtr (.r 16) (.c (.int .i64 0))))) (.step (.op (.p (some 4) (.mov (.r 17)))) .done)))))))))))))))))) .ret)), [(.t (.r 4))]⟩
theorem c29_eq : cF Try.prog Try.f29 = some c29 := by kernel_rfl
/-- cmp.Or[int] -/
def c50 : Fun := ⟨18, (.seq (.ops [(.op (.p (some 2) (.mov (.c (.int .i64 0)))))] false) (.seq (.ops [(.op (.p (some 3) (.mov (.c (.int .i64 0)))))] false) (.seq (.seq (.ops [(.op (.p (some 6) (.mov (.r 0)))), (.op (.p (some 7) (.len (.r 6)))), (.op (.p (some 8) (.mov (.c (.int .i64 0)))))] false) (.blk 0 (.loop (.seq (.ops [(.op (.p (some 9) (.cmp .lss (.r 8) (.r 7))))] false) (.seq (.ite (.r 9) .skip (.exit 0)) (.seq (.blk 1 (.seq (.ops [(.op (.p (some 10) (.ixa 1 (.r 6) (.r 8)))), (.op (.ld (some 11) none (.r 10))), (.op (.p (some 5) (.mov (.r 11))))] false) (.seq (.ops [(.op (.p (some 12) (.mov (.r 5)))), (.op (.p (some 13) (.mov (.r 3)))), (.op (.p (some 14) (.cmp .neq (.r 12) (.r 13))))] false) (.ite (.r 14) (.seq (.ops [(.op (.p (some 15) (.mov (.r 5)))), (.op (.p (some 2) (.mov (.r 15))))] false) .ret) .skip)))) (.ops [(.op (.ar (some 16) .add (.r 8) (.c (.int .i64 1)))), (.op (.p (some 8) (.mov (.r 16))))] false))))))) (.seq (.ops [(.op (.p (some 17) (.mov (.r 3)))), (.op (.p (some 2) (.mov (.r 17))))] false) .ret)))), [(.t (.r 2))]⟩
theorem c50_eq : cF Try.prog Try.f50 = some c50 := by kernel_rfl
/-- cmp.Compare[int] -/
def c51 : Fun := ⟨20, (.seq (.ops [(.op (.p (some 4) (.mov (.c (.int .i64 0)))))] false) (.seq (.ops [(.op (.p (some 7) (.mov (.r 0)))), (.op (.call (some 8) 72 [(.r 7)])), (.op (.p (some 5) (.mov (.r 8))))] false) (.seq (.ops [(.op (.p (some 9) (.mov (.r 1)))), (.op (.call (some 10) 72 [(.r 9)])), (.op (.p (some 6) (.mov (.r 10))))] false) (.seq (.seq (.ops [(.op (.p (some 11) (.mov (.r 5))))] false) (.ite (.r 11) (.seq (.seq (.ops [(.op (.p (some 12) (.mov (.r 6))))] false) (.ite (.r 12) (.seq (.ops [(.op (.p (some 4) (.mov (.c (.int .i64 0)))))] false) .ret) .skip)) (.seq (.ops [(.op (.p (some 4) (.mov (.c (.int .i64 (-1))))))] false) .ret)) .skip)) (.seq (.seq (.ops [(.op (.p (some 13) (.mov (.r 6))))] false) (.ite (.r 13) (.seq (.ops [(.op (.p (some 4) (.mov (.c (.int .i64 1)))))] false) .ret) .skip)) (.seq (.seq (.ops [(.op (.p (some 14) (.mov (.r 0)))), (.op (.p (some 15) (.mov (.r 1)))), (.op (.p (some 16) (.cmp .lss (.r 14) (.r 15))))] false) (.ite (.r 16) (.seq (.ops [(.op (.p (some 4) (.mov (.c (.int .i64 (-1))))))] false) .ret) .skip)) (.seq (.seq (.ops [(.op (.p (some 17) (.mov (.r 0)))), (.op (.p (some 18) (.mov (.r 1)))), (.op (.p (some 19) (.cmp .gtr (.r 17) (.r 18))))] false) (.ite (.r 19) (.seq (.ops [(.op (.p (some 4) (.mov (.c (.int .i64 1)))))] false) .ret) .skip)) (.seq (.ops [(.op (.p (some 4) (.mov (.c (.int .i64 0)))))] false) .ret)))))))), [(.t (.r 4))]⟩
theorem c51_eq : cF Try.prog Try.f51 = some c51 := by kernel_rfl
/-- cmp.isNaN[int] -/
def c72 : Fun := ⟨6, (.seq (.ops [(.op (.p (some 2) (.mov (.c (.bool false)))))] false) (.seq (.ops [(.op (.p (some 3) (.mov (.r 0)))), (.op (.p (some 4) (.mov (.r 0)))), (.op (.p (some 5) (.cmp .neq (.r 3) (.r 4)))), (.op (.p (some 2) (.mov (.r 5))))] false) .ret)), [(.t (.r 2))]⟩
theorem c72_eq : cF Try.prog Try.f72 = some c72 := by kernel_rfl
/-- solvent/crc.table -/
def c81 : Fun := ⟨23, (.seq (.ops [(.op (.nw (some 0) 138 [(.int .u32 0), (.int .u32 0), (.int .u32 0), (.int .u32 0), (.int .u32 0), (.int .u32 0), (.int .u32 0), (.int .u32 0), (.int .u32 0), (.int .u32 0), (.int .u32 0), (.int .u32 0), (.int .u32 0), (.int .u32 0), (.int .u32 0), (.int .u32 0), (.int .u32 0), (.int .u32 0), (.int .u32 0), (.int .u32 0), (.int .u32 0), (.int .u32 0), (.int .u32 0), (.int .u32 0), (.int .u32 0), (.int .u32 0), (.int .u32 0), (.int .u32 0), (.int .u32 0), (.int .u32 0), (.int .u32 0), (.int .u32 0), (.int .u32 0), (.int .u32 0), (.int .u32 0), (.int .u32 0), (.int .u32 0), (.int .u32 0), (.int .u32 0), (.int .u32 0), (.int .u32 0), (.int .u32 0), (.int .u32 0), (.int .u32 0), (.int .u32 0), (.int .u32 0), (.int .u32 0), (.int .u32 0), (.int .u32 0), (.int .u32 0), (.int .u32 0), (.int .u32 0), (.int .u32 0), (.int .u32 0), (.int .u32 0), (.int .u32 0), (.int .u32 0), (.int .u32 0), (.int .u32 0), (.int .u32 0), (.int .u32 0), (.int .u32 0), (.int .u32 0), (.int .u32 0), (.int .u32 0), (.int .u32 0), (.int .u32 0), (.int .u32 0), (.int .u32 0), (.int .u32 0), (.int .u32 0), (.int .u32 0), (.int .u32 0), (.int .u32 0), (.int .u32 0), (.int .u32 0), (.int .u32 0), (.int .u32 0), (.int .u32 0), (.int .u32 0), (.int .u32 0), (.int .u32 0), (.int .u32 0), (.int .u32 0), (.int .u32 0), (.int .u32 0), (.int .u32 0), (.int .u32 0), (.int .u32 0), (.int .u32 0), (.int .u32 0), (.int .u32 0), (.int .u32 0), (.int .u32 0), (.int .u32 0), (.int .u32 0), (.int .u32 0), (.int .u32 0), (.int .u32 0), (.int .u32 0), (.int .u32 0), (.int .u32 0), (.int .u32 0), (.int .u32 0), (.int .u32 0), (.int .u32 0), (.int .u32 0), (.int .u32 0), (.int .u32 0), (.int .u32 0), (.int .u32 0), (.int .u32 0), (.int .u32 0), (.int .u32 0), (.int .u32 0), (.int .u32 0), (.int .u32 0), (.int .u32 0), (.int .u32 0), (.int .u32 0), (.int .u32 0), (.int .u32 0), (.int .u32 0), (.int .u32 0), (.int .u32 0), (.int .u32 0), (.int .u32 0), (.int .u32 0), (.int .u32 0), (.int .u32 0), (.int .u32 0), (.int .u32 0), (.int .u32 0), (.int .u32 0), (.int .u32 0), (.int .u32 0), (.int .u32 0), (.int .u32 0), (.int .u32 0), (.int .u32 0), (.int .u32 0), (.int .u32 0), (.int .u32 0), (.int .u32 0), (.int .u32 0), (.int .u32 0), (.int .u32 0), (.int .u32 0), (.int .u32 0), (.int .u32 0), (.int .u32 0), (.int .u32 0), (.int .u32 0), (.int .u32 0), (.int .u32 0), (.int .u32 0), (.int .u32 0), (.int .u32 0), (.int .u32 0), (.int .u32 0), (.int .u32 0), (.int .u32 0), (.int .u32 0), (.int .u32 0), (.int .u32 0), (.int .u32 0), (.int .u32 0), (.int .u32 0), (.int .u32 0), (.int .u32 0), (.int .u32 0), (.int .u32 0), (.int .u32 0), (.int .u32 0), (.int .u32 0), (.int .u32 0), (.int .u32 0), (.int .u32 0), (.int .u32 0), (.int .u32 0), (.int .u32 0), (.int .u32 0), (.int .u32 0), (.int .u32 0), (.int .u32 0), (.int .u32 0), (.int .u32 0), (.int .u32 0), (.int .u32 0), (.int .u32 0), (.int .u32 0), (.int .u32 0), (.int .u32 0), (.int .u32 0), (.int .u32 0), (.int .u32 0), (.int .u32 0), (.int .u32 0), (.int .u32 0), (.int .u32 0), (.int .u32 0), (.int .u32 0), (.int .u32 0), (.int .u32 0), (.int .u32 0), (.int .u32 0), (.int .u32 0), (.int .u32 0), (.int .u32 0), (.int .u32 0), (.int .u32 0), (.int .u32 0), (.int .u32 0), (.int .u32 0), (.int .u32 0), (.int .u32 0), (.int .u32 0), (.int .u32 0), (.int .u32 0), (.int .u32 0), (.int .u32 0), (.int .u32 0), (.int .u32 0), (.int .u32 0), (.int .u32 0), (.int .u32 0), (.int .u32 0), (.int .u32 0), (.int .u32 0), (.int .u32 0), (.int .u32 0), (.int .u32 0), (.int .u32 0), (.int .u32 0), (.int .u32 0), (.int .u32 0), (.int .u32 0), (.int .u32 0), (.int .u32 0), (.int .u32 0), (.int .u32 0), (.int .u32 0), (.int .u32 0), (.int .u32 0), (.int .u32 0), (.int .u32 0), (.int .u32 0), (.int .u32 0), (.int .u32 0), (.int .u32 0), (.int .u32 0), (.int .u32 0), (.int .u32 0), (.int .u32 0), (.int .u32 0), (.int .u32 0)]))] false) (.seq (.seq (.ops [(.op (.p (some 3) (.mov (.c (.int .i64 0)))))] false) (.blk 0 (.loop (.seq (.ops [(.op (.p (some 4) (.cmp .lss (.r 3) (.c (.int .i64 256)))))] false) (.seq (.ite (.r 4) .skip (.exit 0)) (.seq (.blk 1 (.seq (.ops [(.op (.p (some 5) (.mov (.r 3)))), (.op (.p (some 1) (.mov (.r 5))))] false) (.seq (.ops [(.op (.p (some 6) (.mov (.r 1)))), (.op (.p (some 7) (.cvi .u32 (.r 6)))), (.op (.p (some 2) (.mov (.r 7))))] false) (.seq (.seq (.ops [(.op (.p (some 8) (.mov (.c (.int .i64 0)))))] false) (.blk 2 (.loop (.seq (.ops [(.op (.p (some 9) (.cmp .lss (.r 8) (.c (.int .i64 8)))))] false) (.seq (.ite (.r 9) .skip (.exit 2)) (.seq (.blk 3 (.ops [(.op (.p (some 10) (.mov (.r 2)))), (.op (.ar (some 11) .shr (.r 10) (.c (.int .u64 1)))), (.op (.p (some 12) (.mov (.r 2)))), (.op (.ar (some 13) .and (.r 12) (.c (.int .u32 1)))), (.op (.p (some 14) (.un .neg (.r 13)))), (.op (.ar (some 15) .and (.c (.int .u32 2197175160)) (.r 14))), (.op (.ar (some 16) .xor (.r 11) (.r 15))), (.op (.p (some 2) (.mov (.r 16))))] false)) (.ops [(.op (.ar (some 17) .add (.r 8) (.c (.int .i64 1)))), (.op (.p (some 8) (.mov (.r 17))))] false))))))) (.ops [(.op (.p (some 18) (.mov (.r 1)))), (.op (.p (some 19) (.mov (.r 2)))), (.op (.p (some 20) (.ixp 256 1 (.r 0) (.r 18)))), (.op (.st none 1 (.r 20) (.r 19)))] false))))) (.ops [(.op (.ar (some 21) .add (.r 3) (.c (.int .i64 1)))), (.op (.p (some 3) (.mov (.r 21))))] false))))))) (.seq (.ops [(.op (.ld (some 22) (some 256) (.r 0))), (.op (.st none 256 (.r 0) (.r 22)))] false) .ret))), [(.cl (.r 0) (some 256))]⟩
theorem c81_eq : cF Try.prog Try.f81 = some c81 := by kernel_rfl
/-- solvent/crc.Extend -/
def c75 : Fun := ⟨30, (.seq (.ops [(.op (.p (some 4) (.mov (.c (.int .u32 0)))))] false) (.seq (.ops [(.op (.call (some 9) 81 [])), (.op (.nw (some 5) 138 [(.int .u32 0), (.int .u32 0), (.int .u32 0), (.int .u32 0), (.int .u32 0), (.int .u32 0), (.int .u32 0), (.int .u32 0), (.int .u32 0), (.int .u32 0), (.int .u32 0), (.int .u32 0), (.int .u32 0), (.int .u32 0), (.int .u32 0), (.int .u32 0), (.int .u32 0), (.int .u32 0), (.int .u32 0), (.int .u32 0), (.int .u32 0), (.int .u32 0), (.int .u32 0), (.int .u32 0), (.int .u32 0), (.int .u32 0), (.int .u32 0), (.int .u32 0), (.int .u32 0), (.int .u32 0), (.int .u32 0), (.int .u32 0), (.int .u32 0), (.int .u32 0), (.int .u32 0), (.int .u32 0), (.int .u32 0), (.int .u32 0), (.int .u32 0), (.int .u32 0), (.int .u32 0), (.int .u32 0), (.int .u32 0), (.int .u32 0), (.int .u32 0), (.int .u32 0), (.int .u32 0), (.int .u32 0), (.int .u32 0), (.int .u32 0), (.int .u32 0), (.int .u32 0), (.int .u32 0), (.int .u32 0), (.int .u32 0), (.int .u32 0), (.int .u32 0), (.int .u32 0), (.int .u32 0), (.int .u32 0), (.int .u32 0), (.int .u32 0), (.int .u32 0), (.int .u32 0), (.int .u32 0), (.int .u32 0), (.int .u32 0), (.int .u32 0), (.int .u32 0), (.int .u32 0), (.int .u32 0), (.int .u32 0), (.int .u32 0), (.int .u32 0), (.int .u32 0), (.int .u32 0), (.int .u32 0), (.int .u32 0), (.int .u32 0), (.int .u32 0), (.int .u32 0), (.int .u32 0), (.int .u32 0), (.int .u32 0), (.int .u32 0), (.int .u32 0), (.int .u32 0), (.int .u32 0), (.int .u32 0), (.int .u32 0), (.int .u32 0), (.int .u32 0), (.int .u32 0), (.int .u32 0), (.int .u32 0), (.int .u32 0), (.int .u32 0), (.int .u32 0), (.int .u32 0), (.int .u32 0), (.int .u32 0), (.int .u32 0), (.int .u32 0), (.int .u32 0), (.int .u32 0), (.int .u32 0), (.int .u32 0), (.int .u32 0), (.int .u32 0), (.int .u32 0), (.int .u32 0), (.int .u32 0), (.int .u32 0), (.int .u32 0), (.int .u32 0), (.int .u32 0), (.int .u32 0), (.int .u32 0), (.int .u32 0), (.int .u32 0), (.int .u32 0), (.int .u32 0), (.int .u32 0), (.int .u32 0), (.int .u32 0), (.int .u32 0), (.int .u32 0), (.int .u32 0), (.int .u32 0), (.int .u32 0), (.int .u32 0), (.int .u32 0), (.int .u32 0), (.int .u32 0), (.int .u32 0), (.int .u32 0), (.int .u32 0), (.int .u32 0), (.int .u32 0), (.int .u32 0), (.int .u32 0), (.int .u32 0), (.int .u32 0), (.int .u32 0), (.int .u32 0), (.int .u32 0), (.int .u32 0), (.int .u32 0), (.int .u32 0), (.int .u32 0), (.int .u32 0), (.int .u32 0), (.int .u32 0), (.int .u32 0), (.int .u32 0), (.int .u32 0), (.int .u32 0), (.int .u32 0), (.int .u32 0), (.int .u32 0), (.int .u32 0), (.int .u32 0), (.int .u32 0), (.int .u32 0), (.int .u32 0), (.int .u32 0), (.int .u32 0), (.int .u32 0), (.int .u32 0), (.int .u32 0), (.int .u32 0), (.int .u32 0), (.int .u32 0), (.int .u32 0), (.int .u32 0), (.int .u32 0), (.int .u32 0), (.int .u32 0), (.int .u32 0), (.int .u32 0), (.int .u32 0), (.int .u32 0), (.int .u32 0), (.int .u32 0), (.int .u32 0), (.int .u32 0), (.int .u32 0), (.int .u32 0), (.int .u32 0), (.int .u32 0), (.int .u32 0), (.int .u32 0), (.int .u32 0), (.int .u32 0), (.int .u32 0), (.int .u32 0), (.int .u32 0), (.int .u32 0), (.int .u32 0), (.int .u32 0), (.int .u32 0), (.int .u32 0), (.int .u32 0), (.int .u32 0), (.int .u32 0), (.int .u32 0), (.int .u32 0), (.int .u32 0), (.int .u32 0), (.int .u32 0), (.int .u32 0), (.int .u32 0), (.int .u32 0), (.int .u32 0), (.int .u32 0), (.int .u32 0), (.int .u32 0), (.int .u32 0), (.int .u32 0), (.int .u32 0), (.int .u32 0), (.int .u32 0), (.int .u32 0), (.int .u32 0), (.int .u32 0), (.int .u32 0), (.int .u32 0), (.int .u32 0), (.int .u32 0), (.int .u32 0), (.int .u32 0), (.int .u32 0), (.int .u32 0), (.int .u32 0), (.int .u32 0), (.int .u32 0), (.int .u32 0), (.int .u32 0), (.int .u32 0), (.int .u32 0), (.int .u32 0), (.int .u32 0), (.int .u32 0), (.int .u32 0), (.int .u32 0), (.int .u32 0), (.int .u32 0), (.int .u32 0), (.int .u32 0), (.int .u32 0), (.int .u32 0), (.int .u32 0), (.int .u32 0), (.int .u32 0), (.int .u32 0), (.int .u32 0)])), (.op (.st none 256 (.r 5) (.r 9)))] false) (.seq (.ops [(.op (.p (some 10) (.mov (.r 0)))), (.op (.p (some 11) (.un .xor (.r 10)))), (.op (.p (some 6) (.mov (.r 11))))] false) (.seq (.seq (.ops [(.op (.p (some 12) (.mov (.r 1)))), (.op (.p (some 13) (.len (.r 12)))), (.op (.p (some 14) (.mov (.c (.int .i64 0)))))] false) (.blk 0 (.loop (.seq (.ops [(.op (.p (some 15) (.cmp .lss (.r 14) (.r 13))))] false) (.seq (.ite (.r 15) .skip (.exit 0)) (.seq (.blk 1 (.seq (.ops [(.op (.p (some 16) (.ixa 1 (.r 12) (.r 14)))), (.op (.ld (some 17) none (.r 16))), (.op (.p (some 8) (.mov (.r 17))))] false) (.ops [(.op (.p (some 18) (.mov (.r 6)))), (.op (.ar (some 19) .shr (.r 18) (.c (.int .u64 8)))), (.op (.p (some 20) (.mov (.r 6)))), (.op (.p (some 21) (.cvi .u8 (.r 20)))), (.op (.p (some 22) (.mov (.r 8)))), (.op (.ar (some 23) .xor (.r 21) (.r 22))), (.op (.p (some 24) (.ixp 256 1 (.r 5) (.r 23)))), (.op (.ld (some 25) none (.r 24))), (.op (.ar (some 26) .xor (.r 19) (.r 25))), (.op (.p (some 6) (.mov (.r 26))))] false))) (.ops [(.op (.ar (some 27) .add (.r 14) (.c (.int .i64 1)))), (.op (.p (some 14) (.mov (.r 27))))] false))))))) (.seq (.ops [(.op (.p (some 28) (.mov (.r 6)))), (.op (.p (some 29) (.un .xor (.r 28)))), (.op (.p (some 4) (.mov (.r 29))))] false) .ret))))), [(.t (.r 4))]⟩
theorem c75_eq : cF Try.prog Try.f75 = some c75 := by kernel_rfl
/-- solvent/crc.Of -/
def c58 : Fun := ⟨5, (.seq (.ops [(.op (.p (some 2) (.mov (.c (.int .u32 0)))))] false) (.seq (.ops [(.op (.p (some 3) (.mov (.r 0)))), (.op (.call (some 4) 75 [(.c (.int .u32 0)), (.r 3)])), (.op (.p (some 2) (.mov (.r 4))))] false) .ret)), [(.t (.r 2))]⟩
theorem c58_eq : cF Try.prog Try.f58 = some c58 := by kernel_rfl
/-- strings.Clone -/
def c70 : Fun := ⟨5, (.seq (.ops [(.op (.p (some 2) (.mov (.c (.string ⟨#[]⟩)))))] false) (.seq (.ops [(.op (.p (some 3) (.mov (.r 0)))), (.op (.call (some 4) 80 [(.r 3)])), (.op (.p (some 2) (.mov (.r 4))))] false) .ret)), [(.t (.r 2))]⟩
theorem c70_eq : cF Try.prog Try.f70 = some c70 := by kernel_rfl
/-- internal/stringslite.Clone -/
def c80 : Fun := ⟨18, (.seq (.ops [(.op (.p (some 2) (.mov (.c (.string ⟨#[]⟩)))))] false) (.seq (.seq (.ops [(.op (.p (some 4) (.mov (.r 0)))), (.op (.p (some 5) (.lns (.r 4)))), (.op (.p (some 6) (.cmp .eql (.r 5) (.c (.int .i64 0)))))] false) (.ite (.r 6) (.seq (.ops [(.op (.p (some 2) (.mov (.c (.string ⟨#[]⟩)))))] false) .ret) .skip)) (.seq (.ops [(.op (.p (some 7) (.mov (.r 0)))), (.op (.p (some 8) (.lns (.r 7)))), (.op (.raw (some 9) (.makeSlice 95 (.tmp 8) (.tmp 8)) 95)), (.op (.p (some 3) (.mov (.r 9))))] false) (.seq (.ops [(.op (.p (some 10) (.mov (.r 3)))), (.op (.p (some 11) (.mov (.r 0)))), (.op (.raw (some 12) (.call (.mk (.builtin .copy) #[(.tmp 10), (.tmp 11)] #[95, 9])) 3))] false) (.seq (.ops [(.op (.p (some 13) (.mov (.r 3)))), (.op (.p (some 14) (.ixa 1 (.r 13) (.c (.int .i64 0))))), (.op (.p (some 15) (.mov (.r 3)))), (.op (.p (some 16) (.len (.r 15)))), (.op (.raw (some 17) (.call (.mk (.builtin .unsafeString) #[(.tmp 14), (.tmp 16)] #[143, 3])) 9)), (.op (.p (some 2) (.mov (.r 17))))] false) .ret))))), [(.t (.r 2))]⟩
theorem c80_eq : cF Try.prog Try.f80 = some c80 := by kernel_rfl
end Go.Proofs.Ytgendpinmmmfjaa

/-
  The walks of crc.table, crc.Extend, crc.Of.
-/
namespace Go.Proofs.Ytgendpinmmmfjaa
open Dn
attribute [local irreducible] Evs Ev EvT DSpec PSpec CallTo
set_option maxRecDepth 10000

theorem mix : Try.prog.follows .mixedOrders = true := by kernel_rfl

theorem crc_table : PSpec Try.prog 81 [] (.agg ⟨tabTo 256⟩) := by
  refine pspec_of mix Try.func81 c81_eq rfl rfl fun w F Q S hQ => ?_
  (repeat (first|(with_reducible first|refine Ja ?_|refine Jb ?_|refine Jc ?_|refine Jd ?_|refine Je ?_|refine Jf ?_|refine Jg ?_|refine Jh ?_|refine Ji ?_|refine Jj ?_|refine Jk rfl ?_|refine Jl ?_|refine Jm ?_|refine Jn ?_|refine Jo ?_|refine Jp ?_|refine Jq ?_)|refine JA rfl ?_|refine JB rfl ?_|refine JC rfl ?_|refine JD rfl ?_|refine JE rfl ?_|refine JF rfl ?_|refine JG rfl ?_|refine JH rfl ?_|refine JI rfl ?_|refine J2 rfl ?_|refine J3 rfl ?_|refine J4 rfl ?_|refine J1 rfl ?_|refine J6 rfl ?_|refine J7 rfl ?_|refine JJ rfl ?_|refine JK rfl ?_|refine JQ rfl ?_|refine JL rfl rfl ?_|refine JM rfl rfl ?_|refine JN rfl ?_|refine JO rfl ?_|refine JP rfl ?_))
  refine e_nwE S (cs' := List.replicate 256 (u32 0)) rfl fun b w S => ?_
  (repeat (first|(with_reducible first|refine Ja ?_|refine Jb ?_|refine Jc ?_|refine Jd ?_|refine Je ?_|refine Jf ?_|refine Jg ?_|refine Jh ?_|refine Ji ?_|refine Jj ?_|refine Jk rfl ?_|refine Jl ?_|refine Jm ?_|refine Jn ?_|refine Jo ?_|refine Jp ?_|refine Jq ?_)|refine JA rfl ?_|refine JB rfl ?_|refine JC rfl ?_|refine JD rfl ?_|refine JE rfl ?_|refine JF rfl ?_|refine JG rfl ?_|refine JH rfl ?_|refine JI rfl ?_|refine J2 rfl ?_|refine J3 rfl ?_|refine J4 rfl ?_|refine J1 rfl ?_|refine J6 rfl ?_|refine J7 rfl ?_|refine JJ rfl ?_|refine JK rfl ?_|refine JQ rfl ?_|refine JL rfl rfl ?_|refine JM rfl rfl ?_|refine JN rfl ?_|refine JO rfl ?_|refine JP rfl ?_))
  refine s_loop (σ := Nat) (fun i => [(3, .int .i64 (i : Int)), (0, .pointer (some ⟨b, 0, none⟩))]) (fun i w => i ≤ 256 ∧ Sep w [(b, .cells ⟨tabTo i ++ List.replicate (256 - i) (u32 0)⟩ 138)] F) (fun i => 256 - i) 0 ⟨rfl, rfl, trivial⟩ rfl ⟨by omega, S⟩ ?_
  rintro g i w ⟨hi, S⟩
  simp only [setL]
  (repeat (first|(with_reducible first|refine Ja ?_|refine Jb ?_|refine Jc ?_|refine Jd ?_|refine Je ?_|refine Jf ?_|refine Jg ?_|refine Jh ?_|refine Ji ?_|refine Jj ?_|refine Jk rfl ?_|refine Jl ?_|refine Jm ?_|refine Jn ?_|refine Jo ?_|refine Jp ?_|refine Jq ?_)|refine JA rfl ?_|refine JB rfl ?_|refine JC rfl ?_|refine JD rfl ?_|refine JE rfl ?_|refine JF rfl ?_|refine JG rfl ?_|refine JH rfl ?_|refine JI rfl ?_|refine J2 rfl ?_|refine J3 rfl ?_|refine J4 rfl ?_|refine J1 rfl ?_|refine J6 rfl ?_|refine J7 rfl ?_|refine JJ rfl ?_|refine JK rfl ?_|refine JQ rfl ?_|refine JL rfl rfl ?_|refine JM rfl rfl ?_|refine JN rfl ?_|refine JO rfl ?_|refine JP rfl ?_))
  refine s_iteD rfl (fun h => ?_) (fun h => ?_)
  · have hi' : i < 256 := by omega
    (repeat (first|(with_reducible first|refine Ja ?_|refine Jb ?_|refine Jc ?_|refine Jd ?_|refine Je ?_|refine Jf ?_|refine Jg ?_|refine Jh ?_|refine Ji ?_|refine Jj ?_|refine Jk rfl ?_|refine Jl ?_|refine Jm ?_|refine Jn ?_|refine Jo ?_|refine Jp ?_|refine Jq ?_)|refine JA rfl ?_|refine JB rfl ?_|refine JC rfl ?_|refine JD rfl ?_|refine JE rfl ?_|refine JF rfl ?_|refine JG rfl ?_|refine JH rfl ?_|refine JI rfl ?_|refine J2 rfl ?_|refine J3 rfl ?_|refine J4 rfl ?_|refine J1 rfl ?_|refine J6 rfl ?_|refine J7 rfl ?_|refine JJ rfl ?_|refine JK rfl ?_|refine JQ rfl ?_|refine JL rfl rfl ?_|refine JM rfl rfl ?_|refine JN rfl ?_|refine JO rfl ?_|refine JP rfl ?_))
    refine s_loop (σ := Nat) (fun k => [(8, .int .i64 (k : Int)), (2, u32 (crcIt k (BitVec.ofNat 32 i))), (1, .int .i64 (i : Int)), (3, .int .i64 (i : Int)), (0, .pointer (some ⟨b, 0, none⟩))])
      (fun k w => k ≤ 8 ∧ Sep w [(b, .cells ⟨tabTo i ++ List.replicate (256 - i) (u32 0)⟩ 138)] F) (fun k => 8 - k) 0 ⟨rfl, ?_, rfl, rfl, rfl, trivial⟩ rfl ⟨by omega, S⟩ ?_
    · show Value.int .u32 (IntKind.u32.wrap (i : Int)) = u32 (BitVec.ofNat 32 i)
      rw [wrap_u32n _ (by omega)]
      simp [u32, BitVec.toNat_ofNat]; omega
    rintro g k w ⟨hk, S⟩
    simp only [setL]
    (repeat (first|(with_reducible first|refine Ja ?_|refine Jb ?_|refine Jc ?_|refine Jd ?_|refine Je ?_|refine Jf ?_|refine Jg ?_|refine Jh ?_|refine Ji ?_|refine Jj ?_|refine Jk rfl ?_|refine Jl ?_|refine Jm ?_|refine Jn ?_|refine Jo ?_|refine Jp ?_|refine Jq ?_)|refine JA rfl ?_|refine JB rfl ?_|refine JC rfl ?_|refine JD rfl ?_|refine JE rfl ?_|refine JF rfl ?_|refine JG rfl ?_|refine JH rfl ?_|refine JI rfl ?_|refine J2 rfl ?_|refine J3 rfl ?_|refine J4 rfl ?_|refine J1 rfl ?_|refine J6 rfl ?_|refine J7 rfl ?_|refine JJ rfl ?_|refine JK rfl ?_|refine JQ rfl ?_|refine JL rfl rfl ?_|refine JM rfl rfl ?_|refine JN rfl ?_|refine JO rfl ?_|refine JP rfl ?_))
    refine s_iteD rfl (fun h => ?_) (fun h => ?_)
    · (repeat (first|(with_reducible first|refine Ja ?_|refine Jb ?_|refine Jc ?_|refine Jd ?_|refine Je ?_|refine Jf ?_|refine Jg ?_|refine Jh ?_|refine Ji ?_|refine Jj ?_|refine Jk rfl ?_|refine Jl ?_|refine Jm ?_|refine Jn ?_|refine Jo ?_|refine Jp ?_|refine Jq ?_)|refine JA rfl ?_|refine JB rfl ?_|refine JC rfl ?_|refine JD rfl ?_|refine JE rfl ?_|refine JF rfl ?_|refine JG rfl ?_|refine JH rfl ?_|refine JI rfl ?_|refine J2 rfl ?_|refine J3 rfl ?_|refine J4 rfl ?_|refine J1 rfl ?_|refine J6 rfl ?_|refine J7 rfl ?_|refine JJ rfl ?_|refine JK rfl ?_|refine JQ rfl ?_|refine JL rfl rfl ?_|refine JM rfl rfl ?_|refine JN rfl ?_|refine JO rfl ?_|refine JP rfl ?_))
      refine e_arv rfl rfl (ar_shr32 _ 1 (by omega)) ?_
      (repeat (first|(with_reducible first|refine Ja ?_|refine Jb ?_|refine Jc ?_|refine Jd ?_|refine Je ?_|refine Jf ?_|refine Jg ?_|refine Jh ?_|refine Ji ?_|refine Jj ?_|refine Jk rfl ?_|refine Jl ?_|refine Jm ?_|refine Jn ?_|refine Jo ?_|refine Jp ?_|refine Jq ?_)|refine JA rfl ?_|refine JB rfl ?_|refine JC rfl ?_|refine JD rfl ?_|refine JE rfl ?_|refine JF rfl ?_|refine JG rfl ?_|refine JH rfl ?_|refine JI rfl ?_|refine J2 rfl ?_|refine J3 rfl ?_|refine J4 rfl ?_|refine J1 rfl ?_|refine J6 rfl ?_|refine J7 rfl ?_|refine JJ rfl ?_|refine JK rfl ?_|refine JQ rfl ?_|refine JL rfl rfl ?_|refine JM rfl rfl ?_|refine JN rfl ?_|refine JO rfl ?_|refine JP rfl ?_))
      refine e_arv (v := u32 1#32) rfl rfl (ar_and32 _ _) ?_
      refine e_p (un_neg32 rfl) ?_
      refine e_arv (u := u32 2197175160#32) rfl rfl (ar_and32 _ _) ?_
      refine e_arv rfl rfl (ar_xor32 _ _) ?_
      (repeat (first|(with_reducible first|refine Ja ?_|refine Jb ?_|refine Jc ?_|refine Jd ?_|refine Je ?_|refine Jf ?_|refine Jg ?_|refine Jh ?_|refine Ji ?_|refine Jj ?_|refine Jk rfl ?_|refine Jl ?_|refine Jm ?_|refine Jn ?_|refine Jo ?_|refine Jp ?_|refine Jq ?_)|refine JA rfl ?_|refine JB rfl ?_|refine JC rfl ?_|refine JD rfl ?_|refine JE rfl ?_|refine JF rfl ?_|refine JG rfl ?_|refine JH rfl ?_|refine JI rfl ?_|refine J2 rfl ?_|refine J3 rfl ?_|refine J4 rfl ?_|refine J1 rfl ?_|refine J6 rfl ?_|refine J7 rfl ?_|refine JJ rfl ?_|refine JK rfl ?_|refine JQ rfl ?_|refine JL rfl rfl ?_|refine JM rfl rfl ?_|refine JN rfl ?_|refine JO rfl ?_|refine JP rfl ?_))
      refine e_add rfl rfl (by omega) (by omega) ?_
      (repeat (first|(with_reducible first|refine Ja ?_|refine Jb ?_|refine Jc ?_|refine Jd ?_|refine Je ?_|refine Jf ?_|refine Jg ?_|refine Jh ?_|refine Ji ?_|refine Jj ?_|refine Jk rfl ?_|refine Jl ?_|refine Jm ?_|refine Jn ?_|refine Jo ?_|refine Jp ?_|refine Jq ?_)|refine JA rfl ?_|refine JB rfl ?_|refine JC rfl ?_|refine JD rfl ?_|refine JE rfl ?_|refine JF rfl ?_|refine JG rfl ?_|refine JH rfl ?_|refine JI rfl ?_|refine J2 rfl ?_|refine J3 rfl ?_|refine J4 rfl ?_|refine J1 rfl ?_|refine J6 rfl ?_|refine J7 rfl ?_|refine JJ rfl ?_|refine JK rfl ?_|refine JQ rfl ?_|refine JL rfl rfl ?_|refine JM rfl rfl ?_|refine JN rfl ?_|refine JO rfl ?_|refine JP rfl ?_))
      exact ⟨rfl, k + 1, ⟨rfl, rfl, rfl, rfl, rfl, trivial⟩, ⟨by omega, S⟩, by omega⟩
    · have hk8 : k = 8 := by omega
      subst hk8
      (repeat (first|(with_reducible first|refine Ja ?_|refine Jb ?_|refine Jc ?_|refine Jd ?_|refine Je ?_|refine Jf ?_|refine Jg ?_|refine Jh ?_|refine Ji ?_|refine Jj ?_|refine Jk rfl ?_|refine Jl ?_|refine Jm ?_|refine Jn ?_|refine Jo ?_|refine Jp ?_|refine Jq ?_)|refine JA rfl ?_|refine JB rfl ?_|refine JC rfl ?_|refine JD rfl ?_|refine JE rfl ?_|refine JF rfl ?_|refine JG rfl ?_|refine JH rfl ?_|refine JI rfl ?_|refine J2 rfl ?_|refine J3 rfl ?_|refine J4 rfl ?_|refine J1 rfl ?_|refine J6 rfl ?_|refine J7 rfl ?_|refine JJ rfl ?_|refine JK rfl ?_|refine JQ rfl ?_|refine JL rfl rfl ?_|refine JM rfl rfl ?_|refine JN rfl ?_|refine JO rfl ?_|refine JP rfl ?_))
      refine e_ixp rfl rfl (by omega) (by omega) ?_
      refine e_st (cs := tabTo i ++ List.replicate (256 - i) (u32 0)) (vs := [u32 (crcT i)]) S 0 rfl rfl rfl rfl (by simp [Value.flat]) (by simp [tabTo_len]; omega) fun w S => ?_
      (repeat (first|(with_reducible first|refine Ja ?_|refine Jb ?_|refine Jc ?_|refine Jd ?_|refine Je ?_|refine Jf ?_|refine Jg ?_|refine Jh ?_|refine Ji ?_|refine Jj ?_|refine Jk rfl ?_|refine Jl ?_|refine Jm ?_|refine Jn ?_|refine Jo ?_|refine Jp ?_|refine Jq ?_)|refine JA rfl ?_|refine JB rfl ?_|refine JC rfl ?_|refine JD rfl ?_|refine JE rfl ?_|refine JF rfl ?_|refine JG rfl ?_|refine JH rfl ?_|refine JI rfl ?_|refine J2 rfl ?_|refine J3 rfl ?_|refine J4 rfl ?_|refine J1 rfl ?_|refine J6 rfl ?_|refine J7 rfl ?_|refine JJ rfl ?_|refine JK rfl ?_|refine JQ rfl ?_|refine JL rfl rfl ?_|refine JM rfl rfl ?_|refine JN rfl ?_|refine JO rfl ?_|refine JP rfl ?_))
      refine e_add rfl rfl (by omega) (by omega) ?_
      (repeat (first|(with_reducible first|refine Ja ?_|refine Jb ?_|refine Jc ?_|refine Jd ?_|refine Je ?_|refine Jf ?_|refine Jg ?_|refine Jh ?_|refine Ji ?_|refine Jj ?_|refine Jk rfl ?_|refine Jl ?_|refine Jm ?_|refine Jn ?_|refine Jo ?_|refine Jp ?_|refine Jq ?_)|refine JA rfl ?_|refine JB rfl ?_|refine JC rfl ?_|refine JD rfl ?_|refine JE rfl ?_|refine JF rfl ?_|refine JG rfl ?_|refine JH rfl ?_|refine JI rfl ?_|refine J2 rfl ?_|refine J3 rfl ?_|refine J4 rfl ?_|refine J1 rfl ?_|refine J6 rfl ?_|refine J7 rfl ?_|refine JJ rfl ?_|refine JK rfl ?_|refine JQ rfl ?_|refine JL rfl rfl ?_|refine JM rfl rfl ?_|refine JN rfl ?_|refine JO rfl ?_|refine JP rfl ?_))
      refine ⟨rfl, i + 1, ⟨rfl, rfl, trivial⟩, ⟨by omega, ?_⟩, by omega⟩
      have : putAt (tabTo i ++ List.replicate (256 - i) (u32 0)) (0 + (i : Int).toNat * 1) [u32 (crcT i)] = tabTo (i + 1) ++ List.replicate (256 - (i + 1)) (u32 0) := by
        have e : 0 + (i : Int).toNat * 1 = (tabTo i).length := by rw [tabTo_len]; omega
        unfold putAt
        rw [e, List.take_left, ← List.drop_drop, List.drop_left, List.drop_replicate]
        simp only [tabTo, List.range_succ, List.map_append, List.map_cons, List.map_nil, List.append_assoc, List.length_cons, List.length_nil]
        congr 3
      rw [this] at S
      exact S
  · have hi' : i = 256 := by omega
    subst hi'
    have e : tabTo 256 ++ List.replicate (256 - 256) (u32 0) = tabTo 256 := by simp
    rw [e] at S
    (repeat (first|(with_reducible first|refine Ja ?_|refine Jb ?_|refine Jc ?_|refine Jd ?_|refine Je ?_|refine Jf ?_|refine Jg ?_|refine Jh ?_|refine Ji ?_|refine Jj ?_|refine Jk rfl ?_|refine Jl ?_|refine Jm ?_|refine Jn ?_|refine Jo ?_|refine Jp ?_|refine Jq ?_)|refine JA rfl ?_|refine JB rfl ?_|refine JC rfl ?_|refine JD rfl ?_|refine JE rfl ?_|refine JF rfl ?_|refine JG rfl ?_|refine JH rfl ?_|refine JI rfl ?_|refine J2 rfl ?_|refine J3 rfl ?_|refine J4 rfl ?_|refine J1 rfl ?_|refine J6 rfl ?_|refine J7 rfl ?_|refine JJ rfl ?_|refine JK rfl ?_|refine JQ rfl ?_|refine JL rfl rfl ?_|refine JM rfl rfl ?_|refine JN rfl ?_|refine JO rfl ?_|refine JP rfl ?_))
    refine e_ld (v := .agg ⟨tabTo 256⟩) (S.row 0 rfl (by simp [tabTo_len]) (by rw [List.drop_zero, List.take_of_length_le (by simp [tabTo_len])])) ?_
    refine e_st S 0 rfl rfl rfl (by simp [tabTo_len]) (by simp [tabTo, Value.flat]) (by simp [tabTo_len]) fun w S => ?_
    rw [putAt_all rfl] at S
    (repeat (first|(with_reducible first|refine Ja ?_|refine Jb ?_|refine Jc ?_|refine Jd ?_|refine Je ?_|refine Jf ?_|refine Jg ?_|refine Jh ?_|refine Ji ?_|refine Jj ?_|refine Jk rfl ?_|refine Jl ?_|refine Jm ?_|refine Jn ?_|refine Jo ?_|refine Jp ?_|refine Jq ?_)|refine JA rfl ?_|refine JB rfl ?_|refine JC rfl ?_|refine JD rfl ?_|refine JE rfl ?_|refine JF rfl ?_|refine JG rfl ?_|refine JH rfl ?_|refine JI rfl ?_|refine J2 rfl ?_|refine J3 rfl ?_|refine J4 rfl ?_|refine J1 rfl ?_|refine J6 rfl ?_|refine J7 rfl ?_|refine JJ rfl ?_|refine JK rfl ?_|refine JQ rfl ?_|refine JL rfl rfl ?_|refine JM rfl rfl ?_|refine JN rfl ?_|refine JO rfl ?_|refine JP rfl ?_))
    refine f_ret (vs := [.agg ⟨tabTo 256⟩]) rfl ?_ (hQ _ _ _ rfl S)
    simp only [rvsV, rvV]
    rw [show Rg.ev _ _ = Value.pointer (some ⟨b, 0, none⟩) from rfl, S.row 0 rfl (by simp [tabTo_len]) (by rw [List.drop_zero, List.take_of_length_le (by simp [tabTo_len])])]

end Go.Proofs.Ytgendpinmmmfjaa

/-
  The walks of crc.Extend, crc.Of and of the sector's numbers.
-/
namespace Go.Proofs.Ytgendpinmmmfjaa
open Dn
attribute [local irreducible] Evs Ev EvT DSpec PSpec CallTo
set_option maxRecDepth 10000

theorem crc_extend (c : BitVec 32) (b cap : Nat) (l : Sec) (sp : List Value) (ty : Nat) (fr : Nat × Nat) (hl : l.length ≤ 1000000) :
    DSpec Try.prog 75 [u32 c, .slice (some ⟨b, 0, none⟩) l.length cap] [(b, .cells ⟨bcells l ++ sp⟩ ty fr)] fun v L => v = u32 (~~~ (crcReg (~~~ c) l)) ∧ L = [(b, .cells ⟨bcells l ++ sp⟩ ty fr)] := by
  refine spec_of mix Try.func75 c75_eq rfl rfl fun w F Q S hQ => ?_
  (repeat (first|(with_reducible first|refine Ja ?_|refine Jb ?_|refine Jc ?_|refine Jd ?_|refine Je ?_|refine Jf ?_|refine Jg ?_|refine Jh ?_|refine Ji ?_|refine Jj ?_|refine Jk rfl ?_|refine Jl ?_|refine Jm ?_|refine Jn ?_|refine Jo ?_|refine Jp ?_|refine Jq ?_)|refine JA rfl ?_|refine JB rfl ?_|refine JC rfl ?_|refine JD rfl ?_|refine JE rfl ?_|refine JF rfl ?_|refine JG rfl ?_|refine JH rfl ?_|refine JI rfl ?_|refine J2 rfl ?_|refine J3 rfl ?_|refine J4 rfl ?_|refine J1 rfl ?_|refine J6 rfl ?_|refine J7 rfl ?_|refine JJ rfl ?_|refine JK rfl ?_|refine JQ rfl ?_|refine JL rfl rfl ?_|refine JM rfl rfl ?_|refine JN rfl ?_|refine JO rfl ?_|refine JP rfl ?_))
  refine e_callP rfl crc_table S fun w S => ?_
  refine e_nwE S (cs' := List.replicate 256 (u32 0)) rfl fun t w S => ?_
  refine e_st S 0 rfl rfl rfl (by simp [tabTo_len]) (by simp [tabTo, Value.flat]) (by simp) fun w S => ?_
  rw [putAt_all (by simp [tabTo_len])] at S
  (repeat (with_reducible first|refine Ja ?_|refine Jb ?_|refine Jc ?_|refine Jd ?_|refine Je ?_|refine Jf ?_|refine Jg ?_|refine Jh ?_|refine Ji ?_|refine Jj ?_|refine Jk rfl ?_|refine Jl ?_|refine Jm ?_|refine Jn ?_|refine Jo ?_|refine Jp ?_|refine Jq ?_))
  refine e_mvI rfl ?_
  refine e_p (un_not32 rfl) ?_
  (repeat (first|(with_reducible first|refine Ja ?_|refine Jb ?_|refine Jc ?_|refine Jd ?_|refine Je ?_|refine Jf ?_|refine Jg ?_|refine Jh ?_|refine Ji ?_|refine Jj ?_|refine Jk rfl ?_|refine Jl ?_|refine Jm ?_|refine Jn ?_|refine Jo ?_|refine Jp ?_|refine Jq ?_)|refine JA rfl ?_|refine JB rfl ?_|refine JC rfl ?_|refine JD rfl ?_|refine JE rfl ?_|refine JF rfl ?_|refine JG rfl ?_|refine JH rfl ?_|refine JI rfl ?_|refine J2 rfl ?_|refine J3 rfl ?_|refine J4 rfl ?_|refine J1 rfl ?_|refine J6 rfl ?_|refine J7 rfl ?_|refine JJ rfl ?_|refine JK rfl ?_|refine JQ rfl ?_|refine JL rfl rfl ?_|refine JM rfl rfl ?_|refine JN rfl ?_|refine JO rfl ?_|refine JP rfl ?_))
  refine s_loop (σ := Nat) (fun i => [(14, .int .i64 (i : Int)), (6, u32 (crcReg (~~~ c) (l.take i))), (12, .slice (some ⟨b, 0, none⟩) l.length cap), (13, .int .i64 (l.length : Int)), (5, .pointer (some ⟨t, 0, none⟩))])
    (fun i w => i ≤ l.length ∧ Sep w [(t, .cells ⟨tabTo 256⟩ 138), (b, .cells ⟨bcells l ++ sp⟩ ty fr)] F) (fun i => l.length - i) 0 ⟨rfl, rfl, rfl, rfl, rfl, trivial⟩ rfl ⟨by omega, S⟩ ?_
  rintro g i w ⟨hi, S⟩
  simp only [setL]
  (repeat (first|(with_reducible first|refine Ja ?_|refine Jb ?_|refine Jc ?_|refine Jd ?_|refine Je ?_|refine Jf ?_|refine Jg ?_|refine Jh ?_|refine Ji ?_|refine Jj ?_|refine Jk rfl ?_|refine Jl ?_|refine Jm ?_|refine Jn ?_|refine Jo ?_|refine Jp ?_|refine Jq ?_)|refine JA rfl ?_|refine JB rfl ?_|refine JC rfl ?_|refine JD rfl ?_|refine JE rfl ?_|refine JF rfl ?_|refine JG rfl ?_|refine JH rfl ?_|refine JI rfl ?_|refine J2 rfl ?_|refine J3 rfl ?_|refine J4 rfl ?_|refine J1 rfl ?_|refine J6 rfl ?_|refine J7 rfl ?_|refine JJ rfl ?_|refine JK rfl ?_|refine JQ rfl ?_|refine JL rfl rfl ?_|refine JM rfl rfl ?_|refine JN rfl ?_|refine JO rfl ?_|refine JP rfl ?_))
  refine s_iteD rfl (fun h => ?_) (fun h => ?_)
  · have hi' : i < l.length := by omega
    (repeat (first|(with_reducible first|refine Ja ?_|refine Jb ?_|refine Jc ?_|refine Jd ?_|refine Je ?_|refine Jf ?_|refine Jg ?_|refine Jh ?_|refine Ji ?_|refine Jj ?_|refine Jk rfl ?_|refine Jl ?_|refine Jm ?_|refine Jn ?_|refine Jo ?_|refine Jp ?_|refine Jq ?_)|refine JA rfl ?_|refine JB rfl ?_|refine JC rfl ?_|refine JD rfl ?_|refine JE rfl ?_|refine JF rfl ?_|refine JG rfl ?_|refine JH rfl ?_|refine JI rfl ?_|refine J2 rfl ?_|refine J3 rfl ?_|refine J4 rfl ?_|refine J1 rfl ?_|refine J6 rfl ?_|refine J7 rfl ?_|refine JJ rfl ?_|refine JK rfl ?_|refine JQ rfl ?_|refine JL rfl rfl ?_|refine JM rfl rfl ?_|refine JN rfl ?_|refine JO rfl ?_|refine JP rfl ?_))
    refine e_ixa rfl rfl (by omega) (by omega) ?_
    refine e_ld (v := bv l[i]) (S.cell 1 rfl ?_) ?_
    · rw [show 0 + (i : Int).toNat * 1 = i by omega, List.getElem?_append_left (by simpa using hi')]
      simp [bcells, hi']
    (repeat (with_reducible first|refine Ja ?_|refine Jb ?_|refine Jc ?_|refine Jd ?_|refine Je ?_|refine Jf ?_|refine Jg ?_|refine Jh ?_|refine Ji ?_|refine Jj ?_|refine Jk rfl ?_|refine Jl ?_|refine Jm ?_|refine Jn ?_|refine Jo ?_|refine Jp ?_|refine Jq ?_))
    refine e_mvI rfl ?_
    (repeat (first|(with_reducible first|refine Ja ?_|refine Jb ?_|refine Jc ?_|refine Jd ?_|refine Je ?_|refine Jf ?_|refine Jg ?_|refine Jh ?_|refine Ji ?_|refine Jj ?_|refine Jk rfl ?_|refine Jl ?_|refine Jm ?_|refine Jn ?_|refine Jo ?_|refine Jp ?_|refine Jq ?_)|refine JA rfl ?_|refine JB rfl ?_|refine JC rfl ?_|refine JD rfl ?_|refine JE rfl ?_|refine JF rfl ?_|refine JG rfl ?_|refine JH rfl ?_|refine JI rfl ?_|refine J2 rfl ?_|refine J3 rfl ?_|refine J4 rfl ?_|refine J1 rfl ?_|refine J6 rfl ?_|refine J7 rfl ?_|refine JJ rfl ?_|refine JK rfl ?_|refine JQ rfl ?_|refine JL rfl rfl ?_|refine JM rfl rfl ?_|refine JN rfl ?_|refine JO rfl ?_|refine JP rfl ?_))
    refine e_arv rfl rfl (ar_shr32 _ 8 (by omega)) ?_
    (repeat (with_reducible first|refine Ja ?_|refine Jb ?_|refine Jc ?_|refine Jd ?_|refine Je ?_|refine Jf ?_|refine Jg ?_|refine Jh ?_|refine Ji ?_|refine Jj ?_|refine Jk rfl ?_|refine Jl ?_|refine Jm ?_|refine Jn ?_|refine Jo ?_|refine Jp ?_|refine Jq ?_))
    refine e_mvI rfl ?_
    refine e_p (v := .int .u8 (((crcReg (~~~ c) (l.take i)).toNat % 256 : Nat) : Int)) (congrArg (fun x => some (Value.int .u8 x)) (by rw [wrap_u8]; omega)) ?_
    refine e_mvI (n := (l[i].toNat : Int)) rfl ?_
    refine e_arv rfl rfl (ar_xor8 _ _ (by omega) (UInt8.toNat_lt _)) ?_
    have hx : (crcReg (~~~ c) (l.take i)).toNat % 256 ^^^ l[i].toNat < 256 := Nat.xor_lt_two_pow (n := 8) (by omega) (UInt8.toNat_lt _)
    refine e_ixp rfl rfl (by omega) (by omega) ?_
    refine e_ld (v := u32 (crcT ((crcReg (~~~ c) (l.take i)).toNat % 256 ^^^ l[i].toNat))) (S.cell 0 rfl ?_) ?_
    · rw [show 0 + (((crcReg (~~~ c) (l.take i)).toNat % 256 ^^^ l[i].toNat : Nat) : Int).toNat * 1 = (crcReg (~~~ c) (l.take i)).toNat % 256 ^^^ l[i].toNat by omega]
      simp [tabTo, hx]
    refine e_arv rfl rfl (ar_xor32 _ _) ?_
    (repeat (first|(with_reducible first|refine Ja ?_|refine Jb ?_|refine Jc ?_|refine Jd ?_|refine Je ?_|refine Jf ?_|refine Jg ?_|refine Jh ?_|refine Ji ?_|refine Jj ?_|refine Jk rfl ?_|refine Jl ?_|refine Jm ?_|refine Jn ?_|refine Jo ?_|refine Jp ?_|refine Jq ?_)|refine JA rfl ?_|refine JB rfl ?_|refine JC rfl ?_|refine JD rfl ?_|refine JE rfl ?_|refine JF rfl ?_|refine JG rfl ?_|refine JH rfl ?_|refine JI rfl ?_|refine J2 rfl ?_|refine J3 rfl ?_|refine J4 rfl ?_|refine J1 rfl ?_|refine J6 rfl ?_|refine J7 rfl ?_|refine JJ rfl ?_|refine JK rfl ?_|refine JQ rfl ?_|refine JL rfl rfl ?_|refine JM rfl rfl ?_|refine JN rfl ?_|refine JO rfl ?_|refine JP rfl ?_))
    refine e_add rfl rfl (by omega) (by omega) ?_
    (repeat (first|(with_reducible first|refine Ja ?_|refine Jb ?_|refine Jc ?_|refine Jd ?_|refine Je ?_|refine Jf ?_|refine Jg ?_|refine Jh ?_|refine Ji ?_|refine Jj ?_|refine Jk rfl ?_|refine Jl ?_|refine Jm ?_|refine Jn ?_|refine Jo ?_|refine Jp ?_|refine Jq ?_)|refine JA rfl ?_|refine JB rfl ?_|refine JC rfl ?_|refine JD rfl ?_|refine JE rfl ?_|refine JF rfl ?_|refine JG rfl ?_|refine JH rfl ?_|refine JI rfl ?_|refine J2 rfl ?_|refine J3 rfl ?_|refine J4 rfl ?_|refine J1 rfl ?_|refine J6 rfl ?_|refine J7 rfl ?_|refine JJ rfl ?_|refine JK rfl ?_|refine JQ rfl ?_|refine JL rfl rfl ?_|refine JM rfl rfl ?_|refine JN rfl ?_|refine JO rfl ?_|refine JP rfl ?_))
    refine ⟨rfl, i + 1, ⟨rfl, ?_, rfl, rfl, rfl, trivial⟩, ⟨by omega, S⟩, by omega⟩
    show u32 _ = u32 _
    congr 3
    rw [List.take_succ_eq_append_getElem hi', crcReg, crcReg, List.foldl_append]
    rfl
  · have hi' : i = l.length := by omega
    subst hi'
    (repeat (with_reducible first|refine Ja ?_|refine Jb ?_|refine Jc ?_|refine Jd ?_|refine Je ?_|refine Jf ?_|refine Jg ?_|refine Jh ?_|refine Ji ?_|refine Jj ?_|refine Jk rfl ?_|refine Jl ?_|refine Jm ?_|refine Jn ?_|refine Jo ?_|refine Jp ?_|refine Jq ?_))
    refine e_mvI rfl ?_
    refine e_p (un_not32 rfl) ?_
    (repeat (first|(with_reducible first|refine Ja ?_|refine Jb ?_|refine Jc ?_|refine Jd ?_|refine Je ?_|refine Jf ?_|refine Jg ?_|refine Jh ?_|refine Ji ?_|refine Jj ?_|refine Jk rfl ?_|refine Jl ?_|refine Jm ?_|refine Jn ?_|refine Jo ?_|refine Jp ?_|refine Jq ?_)|refine JA rfl ?_|refine JB rfl ?_|refine JC rfl ?_|refine JD rfl ?_|refine JE rfl ?_|refine JF rfl ?_|refine JG rfl ?_|refine JH rfl ?_|refine JI rfl ?_|refine J2 rfl ?_|refine J3 rfl ?_|refine J4 rfl ?_|refine J1 rfl ?_|refine J6 rfl ?_|refine J7 rfl ?_|refine JJ rfl ?_|refine JK rfl ?_|refine JQ rfl ?_|refine JL rfl rfl ?_|refine JM rfl rfl ?_|refine JN rfl ?_|refine JO rfl ?_|refine JP rfl ?_))
    refine f_ret rfl rfl (hQ _ _ _ ⟨?_, rfl⟩ (S.drop (L2 := [_])))
    show u32 _ = u32 _
    rw [List.take_length]

theorem crc_of (b cap : Nat) (l : Sec) (sp : List Value) (ty : Nat) (fr : Nat × Nat) (hl : l.length ≤ 1000000) :
    DSpec Try.prog 58 [.slice (some ⟨b, 0, none⟩) l.length cap] [(b, .cells ⟨bcells l ++ sp⟩ ty fr)] fun v L => v = u32 (crcOf l) ∧ L = [(b, .cells ⟨bcells l ++ sp⟩ ty fr)] := by
  refine spec_of mix Try.func58 c58_eq rfl rfl fun w F Q S hQ => ?_
  (repeat (first|(with_reducible first|refine Ja ?_|refine Jb ?_|refine Jc ?_|refine Jd ?_|refine Je ?_|refine Jf ?_|refine Jg ?_|refine Jh ?_|refine Ji ?_|refine Jj ?_|refine Jk rfl ?_|refine Jl ?_|refine Jm ?_|refine Jn ?_|refine Jo ?_|refine Jp ?_|refine Jq ?_)|refine JA rfl ?_|refine JB rfl ?_|refine JC rfl ?_|refine JD rfl ?_|refine JE rfl ?_|refine JF rfl ?_|refine JG rfl ?_|refine JH rfl ?_|refine JI rfl ?_|refine J2 rfl ?_|refine J3 rfl ?_|refine J4 rfl ?_|refine J1 rfl ?_|refine J6 rfl ?_|refine J7 rfl ?_|refine JJ rfl ?_|refine JK rfl ?_|refine JQ rfl ?_|refine JL rfl rfl ?_|refine JM rfl rfl ?_|refine JN rfl ?_|refine JO rfl ?_|refine JP rfl ?_))
  refine e_call (L2 := []) rfl (crc_extend 0#32 b cap l sp ty fr hl) S ?_
  rintro _ _ w ⟨rfl, rfl⟩ S
  (repeat (first|(with_reducible first|refine Ja ?_|refine Jb ?_|refine Jc ?_|refine Jd ?_|refine Je ?_|refine Jf ?_|refine Jg ?_|refine Jh ?_|refine Ji ?_|refine Jj ?_|refine Jk rfl ?_|refine Jl ?_|refine Jm ?_|refine Jn ?_|refine Jo ?_|refine Jp ?_|refine Jq ?_)|refine JA rfl ?_|refine JB rfl ?_|refine JC rfl ?_|refine JD rfl ?_|refine JE rfl ?_|refine JF rfl ?_|refine JG rfl ?_|refine JH rfl ?_|refine JI rfl ?_|refine J2 rfl ?_|refine J3 rfl ?_|refine J4 rfl ?_|refine J1 rfl ?_|refine J6 rfl ?_|refine J7 rfl ?_|refine JJ rfl ?_|refine JK rfl ?_|refine JQ rfl ?_|refine JL rfl rfl ?_|refine JM rfl rfl ?_|refine JN rfl ?_|refine JO rfl ?_|refine JP rfl ?_))
  exact f_ret rfl rfl (hQ _ _ _ ⟨rfl, rfl⟩ S)

theorem sec_valid (p : Pl) : PSpec Try.prog 54 [.agg ⟨p.v⟩] (.bool (decide p.ok)) := by
  refine pspec_of mix Try.func54 c54_eq rfl rfl fun w F Q S hQ => ?_
  (repeat (first|(with_reducible first|refine Ja ?_|refine Jb ?_|refine Jc ?_|refine Jd ?_|refine Je ?_|refine Jf ?_|refine Jg ?_|refine Jh ?_|refine Ji ?_|refine Jj ?_|refine Jk rfl ?_|refine Jl ?_|refine Jm ?_|refine Jn ?_|refine Jo ?_|refine Jp ?_|refine Jq ?_)|refine JA rfl ?_|refine JB rfl ?_|refine JC rfl ?_|refine JD rfl ?_|refine JE rfl ?_|refine JF rfl ?_|refine JG rfl ?_|refine JH rfl ?_|refine JI rfl ?_|refine J2 rfl ?_|refine J3 rfl ?_|refine J4 rfl ?_|refine J1 rfl ?_|refine J6 rfl ?_|refine J7 rfl ?_|refine JJ rfl ?_|refine JK rfl ?_|refine JQ rfl ?_|refine JL rfl rfl ?_|refine JM rfl rfl ?_|refine JN rfl ?_|refine JO rfl ?_|refine JP rfl ?_))
  refine e_bx S rfl fun b w S => ?_
  (repeat (first|(with_reducible first|refine Ja ?_|refine Jb ?_|refine Jc ?_|refine Jd ?_|refine Je ?_|refine Jf ?_|refine Jg ?_|refine Jh ?_|refine Ji ?_|refine Jj ?_|refine Jk rfl ?_|refine Jl ?_|refine Jm ?_|refine Jn ?_|refine Jo ?_|refine Jp ?_|refine Jq ?_)|refine JA rfl ?_|refine JB rfl ?_|refine JC rfl ?_|refine JD rfl ?_|refine JE rfl ?_|refine JF rfl ?_|refine JG rfl ?_|refine JH rfl ?_|refine JI rfl ?_|refine J2 rfl ?_|refine J3 rfl ?_|refine J4 rfl ?_|refine J1 rfl ?_|refine J6 rfl ?_|refine J7 rfl ?_|refine JJ rfl ?_|refine JK rfl ?_|refine JQ rfl ?_|refine JL rfl rfl ?_|refine JM rfl rfl ?_|refine JN rfl ?_|refine JO rfl ?_|refine JP rfl ?_))
  refine e_ld (S.cell 0 rfl rfl) ?_
  (repeat (first|(with_reducible first|refine Ja ?_|refine Jb ?_|refine Jc ?_|refine Jd ?_|refine Je ?_|refine Jf ?_|refine Jg ?_|refine Jh ?_|refine Ji ?_|refine Jj ?_|refine Jk rfl ?_|refine Jl ?_|refine Jm ?_|refine Jn ?_|refine Jo ?_|refine Jp ?_|refine Jq ?_)|refine JA rfl ?_|refine JB rfl ?_|refine JC rfl ?_|refine JD rfl ?_|refine JE rfl ?_|refine JF rfl ?_|refine JG rfl ?_|refine JH rfl ?_|refine JI rfl ?_|refine J2 rfl ?_|refine J3 rfl ?_|refine J4 rfl ?_|refine J1 rfl ?_|refine J6 rfl ?_|refine J7 rfl ?_|refine JJ rfl ?_|refine JK rfl ?_|refine JQ rfl ?_|refine JL rfl rfl ?_|refine JM rfl rfl ?_|refine JN rfl ?_|refine JO rfl ?_|refine JP rfl ?_))
  refine e_brD rfl (fun h1 => ?_) (fun h1 => ?_)
  all_goals
    repeat' first
      | (refine f_ret rfl rfl (hQ _ _ _ (congrArg Value.bool ?_) S); first | exact decide_eq_decide.2 (by unfold Pl.ok; omega) | exact (decide_eq_false (by unfold Pl.ok; omega)).symm)
      | (refine e_ld (S.cell 0 rfl rfl) ?_)
      | (refine e_brD rfl (fun h1 => ?_) (fun h1 => ?_))
      | (refine e_pkT rfl ?_)
      | (refine e_pkF rfl ?_)
      | (first|(with_reducible first|refine Ja ?_|refine Jb ?_|refine Jc ?_|refine Jd ?_|refine Je ?_|refine Jf ?_|refine Jg ?_|refine Jh ?_|refine Ji ?_|refine Jj ?_|refine Jk rfl ?_|refine Jl ?_|refine Jm ?_|refine Jn ?_|refine Jo ?_|refine Jp ?_|refine Jq ?_)|refine JA rfl ?_|refine JB rfl ?_|refine JC rfl ?_|refine JD rfl ?_|refine JE rfl ?_|refine JF rfl ?_|refine JG rfl ?_|refine JH rfl ?_|refine JI rfl ?_|refine J2 rfl ?_|refine J3 rfl ?_|refine J4 rfl ?_|refine J1 rfl ?_|refine J6 rfl ?_|refine J7 rfl ?_|refine JJ rfl ?_|refine JK rfl ?_|refine JQ rfl ?_|refine JL rfl rfl ?_|refine JM rfl rfl ?_|refine JN rfl ?_|refine JO rfl ?_|refine JP rfl ?_)

theorem min_lt {a b : Int} : 0 ≤ (if b < a then b else a) ↔ 0 ≤ a ∧ 0 ≤ b := by split <;> omega
theorem max_lt {a b c : Int} : (if b > a then b else a) < c ↔ a < c ∧ b < c := by split <;> omega
theorem max_le {a b c : Int} : (if b > a then b else a) ≤ c ↔ a ≤ c ∧ b ≤ c := by split <;> omega

theorem sec_validGen (g : Gn) : PSpec Try.prog 55 [.agg ⟨g.v⟩] (.bool (decide g.ok)) := by
  refine pspec_of mix Try.func55 c55_eq rfl rfl fun w F Q S hQ => ?_
  (repeat (first|(with_reducible first|refine Ja ?_|refine Jb ?_|refine Jc ?_|refine Jd ?_|refine Je ?_|refine Jf ?_|refine Jg ?_|refine Jh ?_|refine Ji ?_|refine Jj ?_|refine Jk rfl ?_|refine Jl ?_|refine Jm ?_|refine Jn ?_|refine Jo ?_|refine Jp ?_|refine Jq ?_)|refine JA rfl ?_|refine JB rfl ?_|refine JC rfl ?_|refine JD rfl ?_|refine JE rfl ?_|refine JF rfl ?_|refine JG rfl ?_|refine JH rfl ?_|refine JI rfl ?_|refine J2 rfl ?_|refine J3 rfl ?_|refine J4 rfl ?_|refine J1 rfl ?_|refine J6 rfl ?_|refine J7 rfl ?_|refine JJ rfl ?_|refine JK rfl ?_|refine JQ rfl ?_|refine JL rfl rfl ?_|refine JM rfl rfl ?_|refine JN rfl ?_|refine JO rfl ?_|refine JP rfl ?_))
  refine e_bx S rfl fun b w S => ?_
  (repeat (first|(with_reducible first|refine Ja ?_|refine Jb ?_|refine Jc ?_|refine Jd ?_|refine Je ?_|refine Jf ?_|refine Jg ?_|refine Jh ?_|refine Ji ?_|refine Jj ?_|refine Jk rfl ?_|refine Jl ?_|refine Jm ?_|refine Jn ?_|refine Jo ?_|refine Jp ?_|refine Jq ?_)|refine JA rfl ?_|refine JB rfl ?_|refine JC rfl ?_|refine JD rfl ?_|refine JE rfl ?_|refine JF rfl ?_|refine JG rfl ?_|refine JH rfl ?_|refine JI rfl ?_|refine J2 rfl ?_|refine J3 rfl ?_|refine J4 rfl ?_|refine J1 rfl ?_|refine J6 rfl ?_|refine J7 rfl ?_|refine JJ rfl ?_|refine JK rfl ?_|refine JQ rfl ?_|refine JL rfl rfl ?_|refine JM rfl rfl ?_|refine JN rfl ?_|refine JO rfl ?_|refine JP rfl ?_))
  refine e_ld (S.cell 0 rfl rfl) ?_
  (repeat (first|(with_reducible first|refine Ja ?_|refine Jb ?_|refine Jc ?_|refine Jd ?_|refine Je ?_|refine Jf ?_|refine Jg ?_|refine Jh ?_|refine Ji ?_|refine Jj ?_|refine Jk rfl ?_|refine Jl ?_|refine Jm ?_|refine Jn ?_|refine Jo ?_|refine Jp ?_|refine Jq ?_)|refine JA rfl ?_|refine JB rfl ?_|refine JC rfl ?_|refine JD rfl ?_|refine JE rfl ?_|refine JF rfl ?_|refine JG rfl ?_|refine JH rfl ?_|refine JI rfl ?_|refine J2 rfl ?_|refine J3 rfl ?_|refine J4 rfl ?_|refine J1 rfl ?_|refine J6 rfl ?_|refine J7 rfl ?_|refine JJ rfl ?_|refine JK rfl ?_|refine JQ rfl ?_|refine JL rfl rfl ?_|refine JM rfl rfl ?_|refine JN rfl ?_|refine JO rfl ?_|refine JP rfl ?_))
  refine e_ld (S.cell 0 rfl rfl) ?_
  (repeat (first|(with_reducible first|refine Ja ?_|refine Jb ?_|refine Jc ?_|refine Jd ?_|refine Je ?_|refine Jf ?_|refine Jg ?_|refine Jh ?_|refine Ji ?_|refine Jj ?_|refine Jk rfl ?_|refine Jl ?_|refine Jm ?_|refine Jn ?_|refine Jo ?_|refine Jp ?_|refine Jq ?_)|refine JA rfl ?_|refine JB rfl ?_|refine JC rfl ?_|refine JD rfl ?_|refine JE rfl ?_|refine JF rfl ?_|refine JG rfl ?_|refine JH rfl ?_|refine JI rfl ?_|refine J2 rfl ?_|refine J3 rfl ?_|refine J4 rfl ?_|refine J1 rfl ?_|refine J6 rfl ?_|refine J7 rfl ?_|refine JJ rfl ?_|refine JK rfl ?_|refine JQ rfl ?_|refine JL rfl rfl ?_|refine JM rfl rfl ?_|refine JN rfl ?_|refine JO rfl ?_|refine JP rfl ?_))
  refine e_brD rfl (fun h1 => ?_) (fun h1 => ?_)
  · (repeat (first|(with_reducible first|refine Ja ?_|refine Jb ?_|refine Jc ?_|refine Jd ?_|refine Je ?_|refine Jf ?_|refine Jg ?_|refine Jh ?_|refine Ji ?_|refine Jj ?_|refine Jk rfl ?_|refine Jl ?_|refine Jm ?_|refine Jn ?_|refine Jo ?_|refine Jp ?_|refine Jq ?_)|refine JA rfl ?_|refine JB rfl ?_|refine JC rfl ?_|refine JD rfl ?_|refine JE rfl ?_|refine JF rfl ?_|refine JG rfl ?_|refine JH rfl ?_|refine JI rfl ?_|refine J2 rfl ?_|refine J3 rfl ?_|refine J4 rfl ?_|refine J1 rfl ?_|refine J6 rfl ?_|refine J7 rfl ?_|refine JJ rfl ?_|refine JK rfl ?_|refine JQ rfl ?_|refine JL rfl rfl ?_|refine JM rfl rfl ?_|refine JN rfl ?_|refine JO rfl ?_|refine JP rfl ?_))
    refine e_ld (S.cell 0 rfl rfl) ?_
    (repeat (first|(with_reducible first|refine Ja ?_|refine Jb ?_|refine Jc ?_|refine Jd ?_|refine Je ?_|refine Jf ?_|refine Jg ?_|refine Jh ?_|refine Ji ?_|refine Jj ?_|refine Jk rfl ?_|refine Jl ?_|refine Jm ?_|refine Jn ?_|refine Jo ?_|refine Jp ?_|refine Jq ?_)|refine JA rfl ?_|refine JB rfl ?_|refine JC rfl ?_|refine JD rfl ?_|refine JE rfl ?_|refine JF rfl ?_|refine JG rfl ?_|refine JH rfl ?_|refine JI rfl ?_|refine J2 rfl ?_|refine J3 rfl ?_|refine J4 rfl ?_|refine J1 rfl ?_|refine J6 rfl ?_|refine J7 rfl ?_|refine JJ rfl ?_|refine JK rfl ?_|refine JQ rfl ?_|refine JL rfl rfl ?_|refine JM rfl rfl ?_|refine JN rfl ?_|refine JO rfl ?_|refine JP rfl ?_))
    refine e_ld (S.cell 0 rfl rfl) ?_
    (repeat (first|(with_reducible first|refine Ja ?_|refine Jb ?_|refine Jc ?_|refine Jd ?_|refine Je ?_|refine Jf ?_|refine Jg ?_|refine Jh ?_|refine Ji ?_|refine Jj ?_|refine Jk rfl ?_|refine Jl ?_|refine Jm ?_|refine Jn ?_|refine Jo ?_|refine Jp ?_|refine Jq ?_)|refine JA rfl ?_|refine JB rfl ?_|refine JC rfl ?_|refine JD rfl ?_|refine JE rfl ?_|refine JF rfl ?_|refine JG rfl ?_|refine JH rfl ?_|refine JI rfl ?_|refine J2 rfl ?_|refine J3 rfl ?_|refine J4 rfl ?_|refine J1 rfl ?_|refine J6 rfl ?_|refine J7 rfl ?_|refine JJ rfl ?_|refine JK rfl ?_|refine JQ rfl ?_|refine JL rfl rfl ?_|refine JM rfl rfl ?_|refine JN rfl ?_|refine JO rfl ?_|refine JP rfl ?_))
    refine e_brD rfl (fun h2 => ?_) (fun h2 => ?_)
    · (repeat (first|(with_reducible first|refine Ja ?_|refine Jb ?_|refine Jc ?_|refine Jd ?_|refine Je ?_|refine Jf ?_|refine Jg ?_|refine Jh ?_|refine Ji ?_|refine Jj ?_|refine Jk rfl ?_|refine Jl ?_|refine Jm ?_|refine Jn ?_|refine Jo ?_|refine Jp ?_|refine Jq ?_)|refine JA rfl ?_|refine JB rfl ?_|refine JC rfl ?_|refine JD rfl ?_|refine JE rfl ?_|refine JF rfl ?_|refine JG rfl ?_|refine JH rfl ?_|refine JI rfl ?_|refine J2 rfl ?_|refine J3 rfl ?_|refine J4 rfl ?_|refine J1 rfl ?_|refine J6 rfl ?_|refine J7 rfl ?_|refine JJ rfl ?_|refine JK rfl ?_|refine JQ rfl ?_|refine JL rfl rfl ?_|refine JM rfl rfl ?_|refine JN rfl ?_|refine JO rfl ?_|refine JP rfl ?_))
      refine e_ld (S.row 0 rfl (by simp [Gn.v]) rfl) ?_
      (repeat (first|(with_reducible first|refine Ja ?_|refine Jb ?_|refine Jc ?_|refine Jd ?_|refine Je ?_|refine Jf ?_|refine Jg ?_|refine Jh ?_|refine Ji ?_|refine Jj ?_|refine Jk rfl ?_|refine Jl ?_|refine Jm ?_|refine Jn ?_|refine Jo ?_|refine Jp ?_|refine Jq ?_)|refine JA rfl ?_|refine JB rfl ?_|refine JC rfl ?_|refine JD rfl ?_|refine JE rfl ?_|refine JF rfl ?_|refine JG rfl ?_|refine JH rfl ?_|refine JI rfl ?_|refine J2 rfl ?_|refine J3 rfl ?_|refine J4 rfl ?_|refine J1 rfl ?_|refine J6 rfl ?_|refine J7 rfl ?_|refine JJ rfl ?_|refine JK rfl ?_|refine JQ rfl ?_|refine JL rfl rfl ?_|refine JM rfl rfl ?_|refine JN rfl ?_|refine JO rfl ?_|refine JP rfl ?_))
      refine f_ret rfl rfl (hQ _ _ _ (congrArg Value.bool ?_) S)
      have h1' := min_lt.1 h1
      have h2' := max_lt.1 h2
      have : g.ok ↔ ¬ (g.epoch = 0 ∧ g.count = 0) := by unfold Gn.ok Gn.ok0; omega
      simp only [sgn, cond_true]
      by_cases h3 : g.epoch = 0 ∧ g.count = 0
      · rw [decide_eq_false (p := g.ok) fun h => this.1 h h3]; simp [h3]
      · rw [decide_eq_true (p := g.ok) (this.2 h3)]
        by_cases h4 : g.epoch = 0
        · have : ¬ g.count = 0 := fun h => h3 ⟨h4, h⟩
          simp [h4, this]
        · simp [h4]
    · (repeat (first|(with_reducible first|refine Ja ?_|refine Jb ?_|refine Jc ?_|refine Jd ?_|refine Je ?_|refine Jf ?_|refine Jg ?_|refine Jh ?_|refine Ji ?_|refine Jj ?_|refine Jk rfl ?_|refine Jl ?_|refine Jm ?_|refine Jn ?_|refine Jo ?_|refine Jp ?_|refine Jq ?_)|refine JA rfl ?_|refine JB rfl ?_|refine JC rfl ?_|refine JD rfl ?_|refine JE rfl ?_|refine JF rfl ?_|refine JG rfl ?_|refine JH rfl ?_|refine JI rfl ?_|refine J2 rfl ?_|refine J3 rfl ?_|refine J4 rfl ?_|refine J1 rfl ?_|refine J6 rfl ?_|refine J7 rfl ?_|refine JJ rfl ?_|refine JK rfl ?_|refine JQ rfl ?_|refine JL rfl rfl ?_|refine JM rfl rfl ?_|refine JN rfl ?_|refine JO rfl ?_|refine JP rfl ?_))
      refine f_ret rfl rfl (hQ _ _ _ (congrArg Value.bool ?_) S)
      refine (decide_eq_false fun h => h2 (max_lt.2 ?_)).symm
      unfold Gn.ok Gn.ok0 at h; omega
  · (repeat (first|(with_reducible first|refine Ja ?_|refine Jb ?_|refine Jc ?_|refine Jd ?_|refine Je ?_|refine Jf ?_|refine Jg ?_|refine Jh ?_|refine Ji ?_|refine Jj ?_|refine Jk rfl ?_|refine Jl ?_|refine Jm ?_|refine Jn ?_|refine Jo ?_|refine Jp ?_|refine Jq ?_)|refine JA rfl ?_|refine JB rfl ?_|refine JC rfl ?_|refine JD rfl ?_|refine JE rfl ?_|refine JF rfl ?_|refine JG rfl ?_|refine JH rfl ?_|refine JI rfl ?_|refine J2 rfl ?_|refine J3 rfl ?_|refine J4 rfl ?_|refine J1 rfl ?_|refine J6 rfl ?_|refine J7 rfl ?_|refine JJ rfl ?_|refine JK rfl ?_|refine JQ rfl ?_|refine JL rfl rfl ?_|refine JM rfl rfl ?_|refine JN rfl ?_|refine JO rfl ?_|refine JP rfl ?_))
    refine f_ret rfl rfl (hQ _ _ _ (congrArg Value.bool ?_) S)
    refine (decide_eq_false fun h => h1 (min_lt.2 ?_)).symm
    unfold Gn.ok Gn.ok0 at h; omega

theorem wal_isNaN (x : Int) : PSpec Try.prog 72 [.int .i64 x] (.bool false) := by
  refine pspec_of mix Try.func72 c72_eq rfl rfl fun w F Q S hQ => ?_
  (repeat (first|(with_reducible first|refine Ja ?_|refine Jb ?_|refine Jc ?_|refine Jd ?_|refine Je ?_|refine Jf ?_|refine Jg ?_|refine Jh ?_|refine Ji ?_|refine Jj ?_|refine Jk rfl ?_|refine Jl ?_|refine Jm ?_|refine Jn ?_|refine Jo ?_|refine Jp ?_|refine Jq ?_)|refine JA rfl ?_|refine JB rfl ?_|refine JC rfl ?_|refine JD rfl ?_|refine JE rfl ?_|refine JF rfl ?_|refine JG rfl ?_|refine JH rfl ?_|refine JI rfl ?_|refine J2 rfl ?_|refine J3 rfl ?_|refine J4 rfl ?_|refine J1 rfl ?_|refine J6 rfl ?_|refine J7 rfl ?_|refine JJ rfl ?_|refine JK rfl ?_|refine JQ rfl ?_|refine JL rfl rfl ?_|refine JM rfl rfl ?_|refine JN rfl ?_|refine JO rfl ?_|refine JP rfl ?_))
  refine f_ret rfl rfl (hQ _ _ _ (congrArg Value.bool ?_) S)
  simp

def cmpV (x y : Int) : Int := if x < y then -1 else if x > y then 1 else 0
theorem cmp_compare (x y : Int) : PSpec Try.prog 51 [.int .i64 x, .int .i64 y] (.int .i64 (cmpV x y)) := by
  refine pspec_of mix Try.func51 c51_eq rfl rfl fun w F Q S hQ => ?_
  (repeat (first|(with_reducible first|refine Ja ?_|refine Jb ?_|refine Jc ?_|refine Jd ?_|refine Je ?_|refine Jf ?_|refine Jg ?_|refine Jh ?_|refine Ji ?_|refine Jj ?_|refine Jk rfl ?_|refine Jl ?_|refine Jm ?_|refine Jn ?_|refine Jo ?_|refine Jp ?_|refine Jq ?_)|refine JA rfl ?_|refine JB rfl ?_|refine JC rfl ?_|refine JD rfl ?_|refine JE rfl ?_|refine JF rfl ?_|refine JG rfl ?_|refine JH rfl ?_|refine JI rfl ?_|refine J2 rfl ?_|refine J3 rfl ?_|refine J4 rfl ?_|refine J1 rfl ?_|refine J6 rfl ?_|refine J7 rfl ?_|refine JJ rfl ?_|refine JK rfl ?_|refine JQ rfl ?_|refine JL rfl rfl ?_|refine JM rfl rfl ?_|refine JN rfl ?_|refine JO rfl ?_|refine JP rfl ?_))
  refine e_callP rfl (wal_isNaN x) S fun w S => ?_
  (repeat (first|(with_reducible first|refine Ja ?_|refine Jb ?_|refine Jc ?_|refine Jd ?_|refine Je ?_|refine Jf ?_|refine Jg ?_|refine Jh ?_|refine Ji ?_|refine Jj ?_|refine Jk rfl ?_|refine Jl ?_|refine Jm ?_|refine Jn ?_|refine Jo ?_|refine Jp ?_|refine Jq ?_)|refine JA rfl ?_|refine JB rfl ?_|refine JC rfl ?_|refine JD rfl ?_|refine JE rfl ?_|refine JF rfl ?_|refine JG rfl ?_|refine JH rfl ?_|refine JI rfl ?_|refine J2 rfl ?_|refine J3 rfl ?_|refine J4 rfl ?_|refine J1 rfl ?_|refine J6 rfl ?_|refine J7 rfl ?_|refine JJ rfl ?_|refine JK rfl ?_|refine JQ rfl ?_|refine JL rfl rfl ?_|refine JM rfl rfl ?_|refine JN rfl ?_|refine JO rfl ?_|refine JP rfl ?_))
  refine e_callP rfl (wal_isNaN y) S fun w S => ?_
  (repeat (first|(with_reducible first|refine Ja ?_|refine Jb ?_|refine Jc ?_|refine Jd ?_|refine Je ?_|refine Jf ?_|refine Jg ?_|refine Jh ?_|refine Ji ?_|refine Jj ?_|refine Jk rfl ?_|refine Jl ?_|refine Jm ?_|refine Jn ?_|refine Jo ?_|refine Jp ?_|refine Jq ?_)|refine JA rfl ?_|refine JB rfl ?_|refine JC rfl ?_|refine JD rfl ?_|refine JE rfl ?_|refine JF rfl ?_|refine JG rfl ?_|refine JH rfl ?_|refine JI rfl ?_|refine J2 rfl ?_|refine J3 rfl ?_|refine J4 rfl ?_|refine J1 rfl ?_|refine J6 rfl ?_|refine J7 rfl ?_|refine JJ rfl ?_|refine JK rfl ?_|refine JQ rfl ?_|refine JL rfl rfl ?_|refine JM rfl rfl ?_|refine JN rfl ?_|refine JO rfl ?_|refine JP rfl ?_))
  refine s_iteD rfl (fun h => ?_) (fun h => ?_)
  · (repeat (first|(with_reducible first|refine Ja ?_|refine Jb ?_|refine Jc ?_|refine Jd ?_|refine Je ?_|refine Jf ?_|refine Jg ?_|refine Jh ?_|refine Ji ?_|refine Jj ?_|refine Jk rfl ?_|refine Jl ?_|refine Jm ?_|refine Jn ?_|refine Jo ?_|refine Jp ?_|refine Jq ?_)|refine JA rfl ?_|refine JB rfl ?_|refine JC rfl ?_|refine JD rfl ?_|refine JE rfl ?_|refine JF rfl ?_|refine JG rfl ?_|refine JH rfl ?_|refine JI rfl ?_|refine J2 rfl ?_|refine J3 rfl ?_|refine J4 rfl ?_|refine J1 rfl ?_|refine J6 rfl ?_|refine J7 rfl ?_|refine JJ rfl ?_|refine JK rfl ?_|refine JQ rfl ?_|refine JL rfl rfl ?_|refine JM rfl rfl ?_|refine JN rfl ?_|refine JO rfl ?_|refine JP rfl ?_))
    exact f_ret rfl rfl (hQ _ _ _ (congrArg (Value.int .i64) (by unfold cmpV; rw [if_pos h])) S)
  · (repeat (first|(with_reducible first|refine Ja ?_|refine Jb ?_|refine Jc ?_|refine Jd ?_|refine Je ?_|refine Jf ?_|refine Jg ?_|refine Jh ?_|refine Ji ?_|refine Jj ?_|refine Jk rfl ?_|refine Jl ?_|refine Jm ?_|refine Jn ?_|refine Jo ?_|refine Jp ?_|refine Jq ?_)|refine JA rfl ?_|refine JB rfl ?_|refine JC rfl ?_|refine JD rfl ?_|refine JE rfl ?_|refine JF rfl ?_|refine JG rfl ?_|refine JH rfl ?_|refine JI rfl ?_|refine J2 rfl ?_|refine J3 rfl ?_|refine J4 rfl ?_|refine J1 rfl ?_|refine J6 rfl ?_|refine J7 rfl ?_|refine JJ rfl ?_|refine JK rfl ?_|refine JQ rfl ?_|refine JL rfl rfl ?_|refine JM rfl rfl ?_|refine JN rfl ?_|refine JO rfl ?_|refine JP rfl ?_))
    refine s_iteD rfl (fun h2 => ?_) (fun h2 => ?_)
    · (repeat (first|(with_reducible first|refine Ja ?_|refine Jb ?_|refine Jc ?_|refine Jd ?_|refine Je ?_|refine Jf ?_|refine Jg ?_|refine Jh ?_|refine Ji ?_|refine Jj ?_|refine Jk rfl ?_|refine Jl ?_|refine Jm ?_|refine Jn ?_|refine Jo ?_|refine Jp ?_|refine Jq ?_)|refine JA rfl ?_|refine JB rfl ?_|refine JC rfl ?_|refine JD rfl ?_|refine JE rfl ?_|refine JF rfl ?_|refine JG rfl ?_|refine JH rfl ?_|refine JI rfl ?_|refine J2 rfl ?_|refine J3 rfl ?_|refine J4 rfl ?_|refine J1 rfl ?_|refine J6 rfl ?_|refine J7 rfl ?_|refine JJ rfl ?_|refine JK rfl ?_|refine JQ rfl ?_|refine JL rfl rfl ?_|refine JM rfl rfl ?_|refine JN rfl ?_|refine JO rfl ?_|refine JP rfl ?_))
      exact f_ret rfl rfl (hQ _ _ _ (congrArg (Value.int .i64) (by unfold cmpV; rw [if_neg h, if_pos h2])) S)
    · (repeat (first|(with_reducible first|refine Ja ?_|refine Jb ?_|refine Jc ?_|refine Jd ?_|refine Je ?_|refine Jf ?_|refine Jg ?_|refine Jh ?_|refine Ji ?_|refine Jj ?_|refine Jk rfl ?_|refine Jl ?_|refine Jm ?_|refine Jn ?_|refine Jo ?_|refine Jp ?_|refine Jq ?_)|refine JA rfl ?_|refine JB rfl ?_|refine JC rfl ?_|refine JD rfl ?_|refine JE rfl ?_|refine JF rfl ?_|refine JG rfl ?_|refine JH rfl ?_|refine JI rfl ?_|refine J2 rfl ?_|refine J3 rfl ?_|refine J4 rfl ?_|refine J1 rfl ?_|refine J6 rfl ?_|refine J7 rfl ?_|refine JJ rfl ?_|refine JK rfl ?_|refine JQ rfl ?_|refine JL rfl rfl ?_|refine JM rfl rfl ?_|refine JN rfl ?_|refine JO rfl ?_|refine JP rfl ?_))
      exact f_ret rfl rfl (hQ _ _ _ (congrArg (Value.int .i64) (by unfold cmpV; rw [if_neg h, if_neg h2])) S)

theorem cmp_or (b : Nat) (x y : Int) (ty : Nat) (fr : Nat × Nat) : DSpec Try.prog 50 [.slice (some ⟨b, 0, none⟩) 2 2] [(b, .cells ⟨[.int .i64 x, .int .i64 y]⟩ ty fr)] fun v L => v = .int .i64 (if x ≠ 0 then x else y) ∧ L = [(b, .cells ⟨[.int .i64 x, .int .i64 y]⟩ ty fr)] := by
  refine spec_of mix Try.func50 c50_eq rfl rfl fun w F Q S hQ => ?_
  (repeat (first|(with_reducible first|refine Ja ?_|refine Jb ?_|refine Jc ?_|refine Jd ?_|refine Je ?_|refine Jf ?_|refine Jg ?_|refine Jh ?_|refine Ji ?_|refine Jj ?_|refine Jk rfl ?_|refine Jl ?_|refine Jm ?_|refine Jn ?_|refine Jo ?_|refine Jp ?_|refine Jq ?_)|refine JA rfl ?_|refine JB rfl ?_|refine JC rfl ?_|refine JD rfl ?_|refine JE rfl ?_|refine JF rfl ?_|refine JG rfl ?_|refine JH rfl ?_|refine JI rfl ?_|refine J2 rfl ?_|refine J3 rfl ?_|refine J4 rfl ?_|refine J1 rfl ?_|refine J6 rfl ?_|refine J7 rfl ?_|refine JJ rfl ?_|refine JK rfl ?_|refine JQ rfl ?_|refine JL rfl rfl ?_|refine JM rfl rfl ?_|refine JN rfl ?_|refine JO rfl ?_|refine JP rfl ?_))
  refine s_loop (σ := Nat) (fun i => [(8, .int .i64 (i : Int)), (7, .int .i64 2), (6, .slice (some ⟨b, 0, none⟩) 2 2), (3, .int .i64 0)])
    (fun i w => i ≤ 2 ∧ (1 ≤ i → x = 0) ∧ (2 ≤ i → y = 0) ∧ Sep w [(b, .cells ⟨[.int .i64 x, .int .i64 y]⟩ ty fr)] F) (fun i => 2 - i) 0 ⟨rfl, rfl, rfl, rfl, trivial⟩ rfl ⟨by omega, by omega, by omega, S⟩ ?_
  rintro g i w ⟨hi, hx, hy, S⟩
  simp only [setL]
  (repeat (first|(with_reducible first|refine Ja ?_|refine Jb ?_|refine Jc ?_|refine Jd ?_|refine Je ?_|refine Jf ?_|refine Jg ?_|refine Jh ?_|refine Ji ?_|refine Jj ?_|refine Jk rfl ?_|refine Jl ?_|refine Jm ?_|refine Jn ?_|refine Jo ?_|refine Jp ?_|refine Jq ?_)|refine JA rfl ?_|refine JB rfl ?_|refine JC rfl ?_|refine JD rfl ?_|refine JE rfl ?_|refine JF rfl ?_|refine JG rfl ?_|refine JH rfl ?_|refine JI rfl ?_|refine J2 rfl ?_|refine J3 rfl ?_|refine J4 rfl ?_|refine J1 rfl ?_|refine J6 rfl ?_|refine J7 rfl ?_|refine JJ rfl ?_|refine JK rfl ?_|refine JQ rfl ?_|refine JL rfl rfl ?_|refine JM rfl rfl ?_|refine JN rfl ?_|refine JO rfl ?_|refine JP rfl ?_))
  refine s_iteD rfl (fun h => ?_) (fun h => ?_)
  · (repeat (first|(with_reducible first|refine Ja ?_|refine Jb ?_|refine Jc ?_|refine Jd ?_|refine Je ?_|refine Jf ?_|refine Jg ?_|refine Jh ?_|refine Ji ?_|refine Jj ?_|refine Jk rfl ?_|refine Jl ?_|refine Jm ?_|refine Jn ?_|refine Jo ?_|refine Jp ?_|refine Jq ?_)|refine JA rfl ?_|refine JB rfl ?_|refine JC rfl ?_|refine JD rfl ?_|refine JE rfl ?_|refine JF rfl ?_|refine JG rfl ?_|refine JH rfl ?_|refine JI rfl ?_|refine J2 rfl ?_|refine J3 rfl ?_|refine J4 rfl ?_|refine J1 rfl ?_|refine J6 rfl ?_|refine J7 rfl ?_|refine JJ rfl ?_|refine JK rfl ?_|refine JQ rfl ?_|refine JL rfl rfl ?_|refine JM rfl rfl ?_|refine JN rfl ?_|refine JO rfl ?_|refine JP rfl ?_))
    refine e_ixa rfl rfl (by omega) (by omega) ?_
    have hi2 : i = 0 ∨ i = 1 := by omega
    rcases hi2 with rfl | rfl
    · refine e_ld (S.cell 0 rfl rfl) ?_
      (repeat (first|(with_reducible first|refine Ja ?_|refine Jb ?_|refine Jc ?_|refine Jd ?_|refine Je ?_|refine Jf ?_|refine Jg ?_|refine Jh ?_|refine Ji ?_|refine Jj ?_|refine Jk rfl ?_|refine Jl ?_|refine Jm ?_|refine Jn ?_|refine Jo ?_|refine Jp ?_|refine Jq ?_)|refine JA rfl ?_|refine JB rfl ?_|refine JC rfl ?_|refine JD rfl ?_|refine JE rfl ?_|refine JF rfl ?_|refine JG rfl ?_|refine JH rfl ?_|refine JI rfl ?_|refine J2 rfl ?_|refine J3 rfl ?_|refine J4 rfl ?_|refine J1 rfl ?_|refine J6 rfl ?_|refine J7 rfl ?_|refine JJ rfl ?_|refine JK rfl ?_|refine JQ rfl ?_|refine JL rfl rfl ?_|refine JM rfl rfl ?_|refine JN rfl ?_|refine JO rfl ?_|refine JP rfl ?_))
      refine s_ite (t := !(x == 0)) rfl (fun h => ?_) (fun h => ?_)
      · (repeat (first|(with_reducible first|refine Ja ?_|refine Jb ?_|refine Jc ?_|refine Jd ?_|refine Je ?_|refine Jf ?_|refine Jg ?_|refine Jh ?_|refine Ji ?_|refine Jj ?_|refine Jk rfl ?_|refine Jl ?_|refine Jm ?_|refine Jn ?_|refine Jo ?_|refine Jp ?_|refine Jq ?_)|refine JA rfl ?_|refine JB rfl ?_|refine JC rfl ?_|refine JD rfl ?_|refine JE rfl ?_|refine JF rfl ?_|refine JG rfl ?_|refine JH rfl ?_|refine JI rfl ?_|refine J2 rfl ?_|refine J3 rfl ?_|refine J4 rfl ?_|refine J1 rfl ?_|refine J6 rfl ?_|refine J7 rfl ?_|refine JJ rfl ?_|refine JK rfl ?_|refine JQ rfl ?_|refine JL rfl rfl ?_|refine JM rfl rfl ?_|refine JN rfl ?_|refine JO rfl ?_|refine JP rfl ?_))
        refine f_ret rfl rfl (hQ _ _ _ ⟨?_, rfl⟩ S)
        have : x ≠ 0 := by simpa using h
        rw [if_pos this]; rfl
      · have hx0 : x = 0 := by simpa using h
        (repeat (first|(with_reducible first|refine Ja ?_|refine Jb ?_|refine Jc ?_|refine Jd ?_|refine Je ?_|refine Jf ?_|refine Jg ?_|refine Jh ?_|refine Ji ?_|refine Jj ?_|refine Jk rfl ?_|refine Jl ?_|refine Jm ?_|refine Jn ?_|refine Jo ?_|refine Jp ?_|refine Jq ?_)|refine JA rfl ?_|refine JB rfl ?_|refine JC rfl ?_|refine JD rfl ?_|refine JE rfl ?_|refine JF rfl ?_|refine JG rfl ?_|refine JH rfl ?_|refine JI rfl ?_|refine J2 rfl ?_|refine J3 rfl ?_|refine J4 rfl ?_|refine J1 rfl ?_|refine J6 rfl ?_|refine J7 rfl ?_|refine JJ rfl ?_|refine JK rfl ?_|refine JQ rfl ?_|refine JL rfl rfl ?_|refine JM rfl rfl ?_|refine JN rfl ?_|refine JO rfl ?_|refine JP rfl ?_))
        refine e_add rfl rfl (by omega) (by omega) ?_
        (repeat (first|(with_reducible first|refine Ja ?_|refine Jb ?_|refine Jc ?_|refine Jd ?_|refine Je ?_|refine Jf ?_|refine Jg ?_|refine Jh ?_|refine Ji ?_|refine Jj ?_|refine Jk rfl ?_|refine Jl ?_|refine Jm ?_|refine Jn ?_|refine Jo ?_|refine Jp ?_|refine Jq ?_)|refine JA rfl ?_|refine JB rfl ?_|refine JC rfl ?_|refine JD rfl ?_|refine JE rfl ?_|refine JF rfl ?_|refine JG rfl ?_|refine JH rfl ?_|refine JI rfl ?_|refine J2 rfl ?_|refine J3 rfl ?_|refine J4 rfl ?_|refine J1 rfl ?_|refine J6 rfl ?_|refine J7 rfl ?_|refine JJ rfl ?_|refine JK rfl ?_|refine JQ rfl ?_|refine JL rfl rfl ?_|refine JM rfl rfl ?_|refine JN rfl ?_|refine JO rfl ?_|refine JP rfl ?_))
        exact ⟨rfl, 1, ⟨rfl, rfl, rfl, rfl, trivial⟩, ⟨by omega, fun _ => hx0, by omega, S⟩, by omega⟩
    · refine e_ld (S.cell 0 rfl rfl) ?_
      (repeat (first|(with_reducible first|refine Ja ?_|refine Jb ?_|refine Jc ?_|refine Jd ?_|refine Je ?_|refine Jf ?_|refine Jg ?_|refine Jh ?_|refine Ji ?_|refine Jj ?_|refine Jk rfl ?_|refine Jl ?_|refine Jm ?_|refine Jn ?_|refine Jo ?_|refine Jp ?_|refine Jq ?_)|refine JA rfl ?_|refine JB rfl ?_|refine JC rfl ?_|refine JD rfl ?_|refine JE rfl ?_|refine JF rfl ?_|refine JG rfl ?_|refine JH rfl ?_|refine JI rfl ?_|refine J2 rfl ?_|refine J3 rfl ?_|refine J4 rfl ?_|refine J1 rfl ?_|refine J6 rfl ?_|refine J7 rfl ?_|refine JJ rfl ?_|refine JK rfl ?_|refine JQ rfl ?_|refine JL rfl rfl ?_|refine JM rfl rfl ?_|refine JN rfl ?_|refine JO rfl ?_|refine JP rfl ?_))
      refine s_ite (t := !(y == 0)) rfl (fun h => ?_) (fun h => ?_)
      · (repeat (first|(with_reducible first|refine Ja ?_|refine Jb ?_|refine Jc ?_|refine Jd ?_|refine Je ?_|refine Jf ?_|refine Jg ?_|refine Jh ?_|refine Ji ?_|refine Jj ?_|refine Jk rfl ?_|refine Jl ?_|refine Jm ?_|refine Jn ?_|refine Jo ?_|refine Jp ?_|refine Jq ?_)|refine JA rfl ?_|refine JB rfl ?_|refine JC rfl ?_|refine JD rfl ?_|refine JE rfl ?_|refine JF rfl ?_|refine JG rfl ?_|refine JH rfl ?_|refine JI rfl ?_|refine J2 rfl ?_|refine J3 rfl ?_|refine J4 rfl ?_|refine J1 rfl ?_|refine J6 rfl ?_|refine J7 rfl ?_|refine JJ rfl ?_|refine JK rfl ?_|refine JQ rfl ?_|refine JL rfl rfl ?_|refine JM rfl rfl ?_|refine JN rfl ?_|refine JO rfl ?_|refine JP rfl ?_))
        refine f_ret rfl rfl (hQ _ _ _ ⟨?_, rfl⟩ S)
        rw [if_neg (by simp [hx])]; rfl
      · have hy0 : y = 0 := by simpa using h
        (repeat (first|(with_reducible first|refine Ja ?_|refine Jb ?_|refine Jc ?_|refine Jd ?_|refine Je ?_|refine Jf ?_|refine Jg ?_|refine Jh ?_|refine Ji ?_|refine Jj ?_|refine Jk rfl ?_|refine Jl ?_|refine Jm ?_|refine Jn ?_|refine Jo ?_|refine Jp ?_|refine Jq ?_)|refine JA rfl ?_|refine JB rfl ?_|refine JC rfl ?_|refine JD rfl ?_|refine JE rfl ?_|refine JF rfl ?_|refine JG rfl ?_|refine JH rfl ?_|refine JI rfl ?_|refine J2 rfl ?_|refine J3 rfl ?_|refine J4 rfl ?_|refine J1 rfl ?_|refine J6 rfl ?_|refine J7 rfl ?_|refine JJ rfl ?_|refine JK rfl ?_|refine JQ rfl ?_|refine JL rfl rfl ?_|refine JM rfl rfl ?_|refine JN rfl ?_|refine JO rfl ?_|refine JP rfl ?_))
        refine e_add rfl rfl (by omega) (by omega) ?_
        (repeat (first|(with_reducible first|refine Ja ?_|refine Jb ?_|refine Jc ?_|refine Jd ?_|refine Je ?_|refine Jf ?_|refine Jg ?_|refine Jh ?_|refine Ji ?_|refine Jj ?_|refine Jk rfl ?_|refine Jl ?_|refine Jm ?_|refine Jn ?_|refine Jo ?_|refine Jp ?_|refine Jq ?_)|refine JA rfl ?_|refine JB rfl ?_|refine JC rfl ?_|refine JD rfl ?_|refine JE rfl ?_|refine JF rfl ?_|refine JG rfl ?_|refine JH rfl ?_|refine JI rfl ?_|refine J2 rfl ?_|refine J3 rfl ?_|refine J4 rfl ?_|refine J1 rfl ?_|refine J6 rfl ?_|refine J7 rfl ?_|refine JJ rfl ?_|refine JK rfl ?_|refine JQ rfl ?_|refine JL rfl rfl ?_|refine JM rfl rfl ?_|refine JN rfl ?_|refine JO rfl ?_|refine JP rfl ?_))
        exact ⟨rfl, 2, ⟨rfl, rfl, rfl, rfl, trivial⟩, ⟨by omega, fun _ => hx (by omega), fun _ => hy0, S⟩, by omega⟩
  · (repeat (first|(with_reducible first|refine Ja ?_|refine Jb ?_|refine Jc ?_|refine Jd ?_|refine Je ?_|refine Jf ?_|refine Jg ?_|refine Jh ?_|refine Ji ?_|refine Jj ?_|refine Jk rfl ?_|refine Jl ?_|refine Jm ?_|refine Jn ?_|refine Jo ?_|refine Jp ?_|refine Jq ?_)|refine JA rfl ?_|refine JB rfl ?_|refine JC rfl ?_|refine JD rfl ?_|refine JE rfl ?_|refine JF rfl ?_|refine JG rfl ?_|refine JH rfl ?_|refine JI rfl ?_|refine J2 rfl ?_|refine J3 rfl ?_|refine J4 rfl ?_|refine J1 rfl ?_|refine J6 rfl ?_|refine J7 rfl ?_|refine JJ rfl ?_|refine JK rfl ?_|refine JQ rfl ?_|refine JL rfl rfl ?_|refine JM rfl rfl ?_|refine JN rfl ?_|refine JO rfl ?_|refine JP rfl ?_))
    refine f_ret rfl rfl (hQ _ _ _ ⟨?_, rfl⟩ S)
    rw [if_neg (by simp [hx (by omega)]), hy (by omega)]; rfl

theorem newer_cmp (a b : Gn) : (0 < (if cmpV a.epoch b.epoch ≠ 0 then cmpV a.epoch b.epoch else cmpV a.count b.count)) ↔ a.newer b := by
  unfold cmpV Gn.newer
  repeat' split
  all_goals omega

theorem sec_newer (a b : Gn) : PSpec Try.prog 29 [.agg ⟨a.v⟩, .agg ⟨b.v⟩] (.bool (decide (a.newer b))) := by
  refine pspec_of mix Try.func29 c29_eq rfl rfl fun w F Q S hQ => ?_
  (repeat (first|(with_reducible first|refine Ja ?_|refine Jb ?_|refine Jc ?_|refine Jd ?_|refine Je ?_|refine Jf ?_|refine Jg ?_|refine Jh ?_|refine Ji ?_|refine Jj ?_|refine Jk rfl ?_|refine Jl ?_|refine Jm ?_|refine Jn ?_|refine Jo ?_|refine Jp ?_|refine Jq ?_)|refine JA rfl ?_|refine JB rfl ?_|refine JC rfl ?_|refine JD rfl ?_|refine JE rfl ?_|refine JF rfl ?_|refine JG rfl ?_|refine JH rfl ?_|refine JI rfl ?_|refine J2 rfl ?_|refine J3 rfl ?_|refine J4 rfl ?_|refine J1 rfl ?_|refine J6 rfl ?_|refine J7 rfl ?_|refine JJ rfl ?_|refine JK rfl ?_|refine JQ rfl ?_|refine JL rfl rfl ?_|refine JM rfl rfl ?_|refine JN rfl ?_|refine JO rfl ?_|refine JP rfl ?_))
  refine e_bx S rfl fun p w S => ?_
  refine e_bx S rfl fun q w S => ?_
  (repeat (first|(with_reducible first|refine Ja ?_|refine Jb ?_|refine Jc ?_|refine Jd ?_|refine Je ?_|refine Jf ?_|refine Jg ?_|refine Jh ?_|refine Ji ?_|refine Jj ?_|refine Jk rfl ?_|refine Jl ?_|refine Jm ?_|refine Jn ?_|refine Jo ?_|refine Jp ?_|refine Jq ?_)|refine JA rfl ?_|refine JB rfl ?_|refine JC rfl ?_|refine JD rfl ?_|refine JE rfl ?_|refine JF rfl ?_|refine JG rfl ?_|refine JH rfl ?_|refine JI rfl ?_|refine J2 rfl ?_|refine J3 rfl ?_|refine J4 rfl ?_|refine J1 rfl ?_|refine J6 rfl ?_|refine J7 rfl ?_|refine JJ rfl ?_|refine JK rfl ?_|refine JQ rfl ?_|refine JL rfl rfl ?_|refine JM rfl rfl ?_|refine JN rfl ?_|refine JO rfl ?_|refine JP rfl ?_))
  replace S := S.drew
  refine e_ld (S.cell 1 rfl rfl) ?_
  (repeat (first|(with_reducible first|refine Ja ?_|refine Jb ?_|refine Jc ?_|refine Jd ?_|refine Je ?_|refine Jf ?_|refine Jg ?_|refine Jh ?_|refine Ji ?_|refine Jj ?_|refine Jk rfl ?_|refine Jl ?_|refine Jm ?_|refine Jn ?_|refine Jo ?_|refine Jp ?_|refine Jq ?_)|refine JA rfl ?_|refine JB rfl ?_|refine JC rfl ?_|refine JD rfl ?_|refine JE rfl ?_|refine JF rfl ?_|refine JG rfl ?_|refine JH rfl ?_|refine JI rfl ?_|refine J2 rfl ?_|refine J3 rfl ?_|refine J4 rfl ?_|refine J1 rfl ?_|refine J6 rfl ?_|refine J7 rfl ?_|refine JJ rfl ?_|refine JK rfl ?_|refine JQ rfl ?_|refine JL rfl rfl ?_|refine JM rfl rfl ?_|refine JN rfl ?_|refine JO rfl ?_|refine JP rfl ?_))
  refine e_ld (S.cell 0 rfl rfl) ?_
  (repeat (first|(with_reducible first|refine Ja ?_|refine Jb ?_|refine Jc ?_|refine Jd ?_|refine Je ?_|refine Jf ?_|refine Jg ?_|refine Jh ?_|refine Ji ?_|refine Jj ?_|refine Jk rfl ?_|refine Jl ?_|refine Jm ?_|refine Jn ?_|refine Jo ?_|refine Jp ?_|refine Jq ?_)|refine JA rfl ?_|refine JB rfl ?_|refine JC rfl ?_|refine JD rfl ?_|refine JE rfl ?_|refine JF rfl ?_|refine JG rfl ?_|refine JH rfl ?_|refine JI rfl ?_|refine J2 rfl ?_|refine J3 rfl ?_|refine J4 rfl ?_|refine J1 rfl ?_|refine J6 rfl ?_|refine J7 rfl ?_|refine JJ rfl ?_|refine JK rfl ?_|refine JQ rfl ?_|refine JL rfl rfl ?_|refine JM rfl rfl ?_|refine JN rfl ?_|refine JO rfl ?_|refine JP rfl ?_))
  repeat' first
    | (with_reducible refine t_alt ?_ ?_)
    | (refine e_ld (S.cell 1 rfl rfl) ?_)
    | (refine e_ld (S.cell 0 rfl rfl) ?_)
    | (refine e_callP rfl (cmp_compare _ _) S fun w S => ?_)
    | (first|(with_reducible first|refine Ja ?_|refine Jb ?_|refine Jc ?_|refine Jd ?_|refine Je ?_|refine Jf ?_|refine Jg ?_|refine Jh ?_|refine Ji ?_|refine Jj ?_|refine Jk rfl ?_|refine Jl ?_|refine Jm ?_|refine Jn ?_|refine Jo ?_|refine Jp ?_|refine Jq ?_)|refine JA rfl ?_|refine JB rfl ?_|refine JC rfl ?_|refine JD rfl ?_|refine JE rfl ?_|refine JF rfl ?_|refine JG rfl ?_|refine JH rfl ?_|refine JI rfl ?_|refine J2 rfl ?_|refine J3 rfl ?_|refine J4 rfl ?_|refine J1 rfl ?_|refine J6 rfl ?_|refine J7 rfl ?_|refine JJ rfl ?_|refine JK rfl ?_|refine JQ rfl ?_|refine JL rfl rfl ?_|refine JM rfl rfl ?_|refine JN rfl ?_|refine JO rfl ?_|refine JP rfl ?_)
  all_goals
    refine e_bsl (size := 1) (xs := [.int .i64 (cmpV a.epoch b.epoch), .int .i64 (cmpV a.count b.count)]) S Try.underlying49 rfl rfl ⟨_, rfl⟩ (by omega) (by omega) (fun zs hz => ?_) fun s w S => ?_
    · match zs, hz with
      | [u, v], _ => rfl
    · (repeat (first|(with_reducible first|refine Ja ?_|refine Jb ?_|refine Jc ?_|refine Jd ?_|refine Je ?_|refine Jf ?_|refine Jg ?_|refine Jh ?_|refine Ji ?_|refine Jj ?_|refine Jk rfl ?_|refine Jl ?_|refine Jm ?_|refine Jn ?_|refine Jo ?_|refine Jp ?_|refine Jq ?_)|refine JA rfl ?_|refine JB rfl ?_|refine JC rfl ?_|refine JD rfl ?_|refine JE rfl ?_|refine JF rfl ?_|refine JG rfl ?_|refine JH rfl ?_|refine JI rfl ?_|refine J2 rfl ?_|refine J3 rfl ?_|refine J4 rfl ?_|refine J1 rfl ?_|refine J6 rfl ?_|refine J7 rfl ?_|refine JJ rfl ?_|refine JK rfl ?_|refine JQ rfl ?_|refine JL rfl rfl ?_|refine JM rfl rfl ?_|refine JN rfl ?_|refine JO rfl ?_|refine JP rfl ?_))
      refine e_call (L2 := [_, _]) rfl (cmp_or s _ _ _ _) S ?_
      rintro _ _ w ⟨rfl, rfl⟩ S
      (repeat (first|(with_reducible first|refine Ja ?_|refine Jb ?_|refine Jc ?_|refine Jd ?_|refine Je ?_|refine Jf ?_|refine Jg ?_|refine Jh ?_|refine Ji ?_|refine Jj ?_|refine Jk rfl ?_|refine Jl ?_|refine Jm ?_|refine Jn ?_|refine Jo ?_|refine Jp ?_|refine Jq ?_)|refine JA rfl ?_|refine JB rfl ?_|refine JC rfl ?_|refine JD rfl ?_|refine JE rfl ?_|refine JF rfl ?_|refine JG rfl ?_|refine JH rfl ?_|refine JI rfl ?_|refine J2 rfl ?_|refine J3 rfl ?_|refine J4 rfl ?_|refine J1 rfl ?_|refine J6 rfl ?_|refine J7 rfl ?_|refine JJ rfl ?_|refine JK rfl ?_|refine JQ rfl ?_|refine JL rfl rfl ?_|refine JM rfl rfl ?_|refine JN rfl ?_|refine JO rfl ?_|refine JP rfl ?_))
      exact f_ret rfl rfl (hQ _ _ _ (congrArg Value.bool (decide_eq_decide.2 (newer_cmp a b))) S)

end Go.Proofs.Ytgendpinmmmfjaa

/-
  The walks of put, get, Clone.
-/
namespace Go.Proofs.Ytgendpinmmmfjaa
open Dn
attribute [local irreducible] Evs Ev EvT DSpec PSpec CallTo
set_option maxRecDepth 10000

theorem sizeOf16 : PSpec Try.prog 73 [] (.int .i64 2) := by
  refine pspec_of mix Try.func73 c73_eq rfl rfl fun w F Q S hQ => ?_
  (repeat (first|(with_reducible first|refine Ja ?_|refine Jb ?_|refine Jc ?_|refine Jd ?_|refine Je ?_|refine Jf ?_|refine Jg ?_|refine Jh ?_|refine Ji ?_|refine Jj ?_|refine Jk rfl ?_|refine Jl ?_|refine Jm ?_|refine Jn ?_|refine Jo ?_|refine Jp ?_|refine Jq ?_)|refine JA rfl ?_|refine JB rfl ?_|refine JC rfl ?_|refine JD rfl ?_|refine JE rfl ?_|refine JF rfl ?_|refine JG rfl ?_|refine JH rfl ?_|refine JI rfl ?_|refine J2 rfl ?_|refine J3 rfl ?_|refine J4 rfl ?_|refine J1 rfl ?_|refine J6 rfl ?_|refine J7 rfl ?_|refine JJ rfl ?_|refine JK rfl ?_|refine JQ rfl ?_|refine JL rfl rfl ?_|refine JM rfl rfl ?_|refine JN rfl ?_|refine JO rfl ?_|refine JP rfl ?_))
  refine s_loop (σ := Nat) (fun k => [(2, .int .u64 ((65535 / 256 ^ k : Nat) : Int)), (1, .int .i64 (k : Int))]) (fun k w => k ≤ 2 ∧ Sep w [] F) (fun k => 2 - k) 0 ⟨rfl, rfl, trivial⟩ rfl ⟨by omega, S⟩ ?_
  rintro g k w ⟨hk, S⟩
  simp only [setL]
  (repeat (first|(with_reducible first|refine Ja ?_|refine Jb ?_|refine Jc ?_|refine Jd ?_|refine Je ?_|refine Jf ?_|refine Jg ?_|refine Jh ?_|refine Ji ?_|refine Jj ?_|refine Jk rfl ?_|refine Jl ?_|refine Jm ?_|refine Jn ?_|refine Jo ?_|refine Jp ?_|refine Jq ?_)|refine JA rfl ?_|refine JB rfl ?_|refine JC rfl ?_|refine JD rfl ?_|refine JE rfl ?_|refine JF rfl ?_|refine JG rfl ?_|refine JH rfl ?_|refine JI rfl ?_|refine J2 rfl ?_|refine J3 rfl ?_|refine J4 rfl ?_|refine J1 rfl ?_|refine J6 rfl ?_|refine J7 rfl ?_|refine JJ rfl ?_|refine JK rfl ?_|refine JQ rfl ?_|refine JL rfl rfl ?_|refine JM rfl rfl ?_|refine JN rfl ?_|refine JO rfl ?_|refine JP rfl ?_))
  have hk3 : k = 0 ∨ k = 1 ∨ k = 2 := by omega
  rcases hk3 with rfl | rfl | rfl
  · refine s_iteT rfl ?_
    (repeat (first|(with_reducible first|refine Ja ?_|refine Jb ?_|refine Jc ?_|refine Jd ?_|refine Je ?_|refine Jf ?_|refine Jg ?_|refine Jh ?_|refine Ji ?_|refine Jj ?_|refine Jk rfl ?_|refine Jl ?_|refine Jm ?_|refine Jn ?_|refine Jo ?_|refine Jp ?_|refine Jq ?_)|refine JA rfl ?_|refine JB rfl ?_|refine JC rfl ?_|refine JD rfl ?_|refine JE rfl ?_|refine JF rfl ?_|refine JG rfl ?_|refine JH rfl ?_|refine JI rfl ?_|refine J2 rfl ?_|refine J3 rfl ?_|refine J4 rfl ?_|refine J1 rfl ?_|refine J6 rfl ?_|refine J7 rfl ?_|refine JJ rfl ?_|refine JK rfl ?_|refine JQ rfl ?_|refine JL rfl rfl ?_|refine JM rfl rfl ?_|refine JN rfl ?_|refine JO rfl ?_|refine JP rfl ?_))
    refine e_add rfl rfl (by omega) (by omega) ?_
    (repeat (first|(with_reducible first|refine Ja ?_|refine Jb ?_|refine Jc ?_|refine Jd ?_|refine Je ?_|refine Jf ?_|refine Jg ?_|refine Jh ?_|refine Ji ?_|refine Jj ?_|refine Jk rfl ?_|refine Jl ?_|refine Jm ?_|refine Jn ?_|refine Jo ?_|refine Jp ?_|refine Jq ?_)|refine JA rfl ?_|refine JB rfl ?_|refine JC rfl ?_|refine JD rfl ?_|refine JE rfl ?_|refine JF rfl ?_|refine JG rfl ?_|refine JH rfl ?_|refine JI rfl ?_|refine J2 rfl ?_|refine J3 rfl ?_|refine J4 rfl ?_|refine J1 rfl ?_|refine J6 rfl ?_|refine J7 rfl ?_|refine JJ rfl ?_|refine JK rfl ?_|refine JQ rfl ?_|refine JL rfl rfl ?_|refine JM rfl rfl ?_|refine JN rfl ?_|refine JO rfl ?_|refine JP rfl ?_))
    refine e_arv (r := .int .u64 255) rfl rfl rfl ?_
    (repeat (first|(with_reducible first|refine Ja ?_|refine Jb ?_|refine Jc ?_|refine Jd ?_|refine Je ?_|refine Jf ?_|refine Jg ?_|refine Jh ?_|refine Ji ?_|refine Jj ?_|refine Jk rfl ?_|refine Jl ?_|refine Jm ?_|refine Jn ?_|refine Jo ?_|refine Jp ?_|refine Jq ?_)|refine JA rfl ?_|refine JB rfl ?_|refine JC rfl ?_|refine JD rfl ?_|refine JE rfl ?_|refine JF rfl ?_|refine JG rfl ?_|refine JH rfl ?_|refine JI rfl ?_|refine J2 rfl ?_|refine J3 rfl ?_|refine J4 rfl ?_|refine J1 rfl ?_|refine J6 rfl ?_|refine J7 rfl ?_|refine JJ rfl ?_|refine JK rfl ?_|refine JQ rfl ?_|refine JL rfl rfl ?_|refine JM rfl rfl ?_|refine JN rfl ?_|refine JO rfl ?_|refine JP rfl ?_))
    exact ⟨rfl, 1, ⟨rfl, rfl, trivial⟩, ⟨by omega, S⟩, by omega⟩
  · refine s_iteT rfl ?_
    (repeat (first|(with_reducible first|refine Ja ?_|refine Jb ?_|refine Jc ?_|refine Jd ?_|refine Je ?_|refine Jf ?_|refine Jg ?_|refine Jh ?_|refine Ji ?_|refine Jj ?_|refine Jk rfl ?_|refine Jl ?_|refine Jm ?_|refine Jn ?_|refine Jo ?_|refine Jp ?_|refine Jq ?_)|refine JA rfl ?_|refine JB rfl ?_|refine JC rfl ?_|refine JD rfl ?_|refine JE rfl ?_|refine JF rfl ?_|refine JG rfl ?_|refine JH rfl ?_|refine JI rfl ?_|refine J2 rfl ?_|refine J3 rfl ?_|refine J4 rfl ?_|refine J1 rfl ?_|refine J6 rfl ?_|refine J7 rfl ?_|refine JJ rfl ?_|refine JK rfl ?_|refine JQ rfl ?_|refine JL rfl rfl ?_|refine JM rfl rfl ?_|refine JN rfl ?_|refine JO rfl ?_|refine JP rfl ?_))
    refine e_add rfl rfl (by omega) (by omega) ?_
    (repeat (first|(with_reducible first|refine Ja ?_|refine Jb ?_|refine Jc ?_|refine Jd ?_|refine Je ?_|refine Jf ?_|refine Jg ?_|refine Jh ?_|refine Ji ?_|refine Jj ?_|refine Jk rfl ?_|refine Jl ?_|refine Jm ?_|refine Jn ?_|refine Jo ?_|refine Jp ?_|refine Jq ?_)|refine JA rfl ?_|refine JB rfl ?_|refine JC rfl ?_|refine JD rfl ?_|refine JE rfl ?_|refine JF rfl ?_|refine JG rfl ?_|refine JH rfl ?_|refine JI rfl ?_|refine J2 rfl ?_|refine J3 rfl ?_|refine J4 rfl ?_|refine J1 rfl ?_|refine J6 rfl ?_|refine J7 rfl ?_|refine JJ rfl ?_|refine JK rfl ?_|refine JQ rfl ?_|refine JL rfl rfl ?_|refine JM rfl rfl ?_|refine JN rfl ?_|refine JO rfl ?_|refine JP rfl ?_))
    refine e_arv (r := .int .u64 0) rfl rfl rfl ?_
    (repeat (first|(with_reducible first|refine Ja ?_|refine Jb ?_|refine Jc ?_|refine Jd ?_|refine Je ?_|refine Jf ?_|refine Jg ?_|refine Jh ?_|refine Ji ?_|refine Jj ?_|refine Jk rfl ?_|refine Jl ?_|refine Jm ?_|refine Jn ?_|refine Jo ?_|refine Jp ?_|refine Jq ?_)|refine JA rfl ?_|refine JB rfl ?_|refine JC rfl ?_|refine JD rfl ?_|refine JE rfl ?_|refine JF rfl ?_|refine JG rfl ?_|refine JH rfl ?_|refine JI rfl ?_|refine J2 rfl ?_|refine J3 rfl ?_|refine J4 rfl ?_|refine J1 rfl ?_|refine J6 rfl ?_|refine J7 rfl ?_|refine JJ rfl ?_|refine JK rfl ?_|refine JQ rfl ?_|refine JL rfl rfl ?_|refine JM rfl rfl ?_|refine JN rfl ?_|refine JO rfl ?_|refine JP rfl ?_))
    exact ⟨rfl, 2, ⟨rfl, rfl, trivial⟩, ⟨by omega, S⟩, by omega⟩
  · refine s_iteF rfl ?_
    (repeat (first|(with_reducible first|refine Ja ?_|refine Jb ?_|refine Jc ?_|refine Jd ?_|refine Je ?_|refine Jf ?_|refine Jg ?_|refine Jh ?_|refine Ji ?_|refine Jj ?_|refine Jk rfl ?_|refine Jl ?_|refine Jm ?_|refine Jn ?_|refine Jo ?_|refine Jp ?_|refine Jq ?_)|refine JA rfl ?_|refine JB rfl ?_|refine JC rfl ?_|refine JD rfl ?_|refine JE rfl ?_|refine JF rfl ?_|refine JG rfl ?_|refine JH rfl ?_|refine JI rfl ?_|refine J2 rfl ?_|refine J3 rfl ?_|refine J4 rfl ?_|refine J1 rfl ?_|refine J6 rfl ?_|refine J7 rfl ?_|refine JJ rfl ?_|refine JK rfl ?_|refine JQ rfl ?_|refine JL rfl rfl ?_|refine JM rfl rfl ?_|refine JN rfl ?_|refine JO rfl ?_|refine JP rfl ?_))
    exact f_ret rfl rfl (hQ _ _ _ rfl S)

theorem sizeOf32 : PSpec Try.prog 74 [] (.int .i64 4) := by
  refine pspec_of mix Try.func74 c74_eq rfl rfl fun w F Q S hQ => ?_
  (repeat (first|(with_reducible first|refine Ja ?_|refine Jb ?_|refine Jc ?_|refine Jd ?_|refine Je ?_|refine Jf ?_|refine Jg ?_|refine Jh ?_|refine Ji ?_|refine Jj ?_|refine Jk rfl ?_|refine Jl ?_|refine Jm ?_|refine Jn ?_|refine Jo ?_|refine Jp ?_|refine Jq ?_)|refine JA rfl ?_|refine JB rfl ?_|refine JC rfl ?_|refine JD rfl ?_|refine JE rfl ?_|refine JF rfl ?_|refine JG rfl ?_|refine JH rfl ?_|refine JI rfl ?_|refine J2 rfl ?_|refine J3 rfl ?_|refine J4 rfl ?_|refine J1 rfl ?_|refine J6 rfl ?_|refine J7 rfl ?_|refine JJ rfl ?_|refine JK rfl ?_|refine JQ rfl ?_|refine JL rfl rfl ?_|refine JM rfl rfl ?_|refine JN rfl ?_|refine JO rfl ?_|refine JP rfl ?_))
  refine s_loop (σ := Nat) (fun k => [(2, .int .u64 ((4294967295 / 256 ^ k : Nat) : Int)), (1, .int .i64 (k : Int))]) (fun k w => k ≤ 4 ∧ Sep w [] F) (fun k => 4 - k) 0 ⟨rfl, rfl, trivial⟩ rfl ⟨by omega, S⟩ ?_
  rintro g k w ⟨hk, S⟩
  simp only [setL]
  (repeat (first|(with_reducible first|refine Ja ?_|refine Jb ?_|refine Jc ?_|refine Jd ?_|refine Je ?_|refine Jf ?_|refine Jg ?_|refine Jh ?_|refine Ji ?_|refine Jj ?_|refine Jk rfl ?_|refine Jl ?_|refine Jm ?_|refine Jn ?_|refine Jo ?_|refine Jp ?_|refine Jq ?_)|refine JA rfl ?_|refine JB rfl ?_|refine JC rfl ?_|refine JD rfl ?_|refine JE rfl ?_|refine JF rfl ?_|refine JG rfl ?_|refine JH rfl ?_|refine JI rfl ?_|refine J2 rfl ?_|refine J3 rfl ?_|refine J4 rfl ?_|refine J1 rfl ?_|refine J6 rfl ?_|refine J7 rfl ?_|refine JJ rfl ?_|refine JK rfl ?_|refine JQ rfl ?_|refine JL rfl rfl ?_|refine JM rfl rfl ?_|refine JN rfl ?_|refine JO rfl ?_|refine JP rfl ?_))
  have hk3 : k = 4 ∨ k = 0 ∨ k = 1 ∨ k = 2 ∨ k = 3 := by omega
  rcases hk3 with rfl | hk3
  · refine s_iteF rfl ?_
    (repeat (first|(with_reducible first|refine Ja ?_|refine Jb ?_|refine Jc ?_|refine Jd ?_|refine Je ?_|refine Jf ?_|refine Jg ?_|refine Jh ?_|refine Ji ?_|refine Jj ?_|refine Jk rfl ?_|refine Jl ?_|refine Jm ?_|refine Jn ?_|refine Jo ?_|refine Jp ?_|refine Jq ?_)|refine JA rfl ?_|refine JB rfl ?_|refine JC rfl ?_|refine JD rfl ?_|refine JE rfl ?_|refine JF rfl ?_|refine JG rfl ?_|refine JH rfl ?_|refine JI rfl ?_|refine J2 rfl ?_|refine J3 rfl ?_|refine J4 rfl ?_|refine J1 rfl ?_|refine J6 rfl ?_|refine J7 rfl ?_|refine JJ rfl ?_|refine JK rfl ?_|refine JQ rfl ?_|refine JL rfl rfl ?_|refine JM rfl rfl ?_|refine JN rfl ?_|refine JO rfl ?_|refine JP rfl ?_))
    exact f_ret rfl rfl (hQ _ _ _ rfl S)
  · rcases hk3 with rfl | rfl | rfl | rfl
    all_goals
      refine s_iteT rfl ?_
      (repeat (first|(with_reducible first|refine Ja ?_|refine Jb ?_|refine Jc ?_|refine Jd ?_|refine Je ?_|refine Jf ?_|refine Jg ?_|refine Jh ?_|refine Ji ?_|refine Jj ?_|refine Jk rfl ?_|refine Jl ?_|refine Jm ?_|refine Jn ?_|refine Jo ?_|refine Jp ?_|refine Jq ?_)|refine JA rfl ?_|refine JB rfl ?_|refine JC rfl ?_|refine JD rfl ?_|refine JE rfl ?_|refine JF rfl ?_|refine JG rfl ?_|refine JH rfl ?_|refine JI rfl ?_|refine J2 rfl ?_|refine J3 rfl ?_|refine J4 rfl ?_|refine J1 rfl ?_|refine J6 rfl ?_|refine J7 rfl ?_|refine JJ rfl ?_|refine JK rfl ?_|refine JQ rfl ?_|refine JL rfl rfl ?_|refine JM rfl rfl ?_|refine JN rfl ?_|refine JO rfl ?_|refine JP rfl ?_))
      refine e_add rfl rfl (by omega) (by omega) ?_
      (repeat (first|(with_reducible first|refine Ja ?_|refine Jb ?_|refine Jc ?_|refine Jd ?_|refine Je ?_|refine Jf ?_|refine Jg ?_|refine Jh ?_|refine Ji ?_|refine Jj ?_|refine Jk rfl ?_|refine Jl ?_|refine Jm ?_|refine Jn ?_|refine Jo ?_|refine Jp ?_|refine Jq ?_)|refine JA rfl ?_|refine JB rfl ?_|refine JC rfl ?_|refine JD rfl ?_|refine JE rfl ?_|refine JF rfl ?_|refine JG rfl ?_|refine JH rfl ?_|refine JI rfl ?_|refine J2 rfl ?_|refine J3 rfl ?_|refine J4 rfl ?_|refine J1 rfl ?_|refine J6 rfl ?_|refine J7 rfl ?_|refine JJ rfl ?_|refine JK rfl ?_|refine JQ rfl ?_|refine JL rfl rfl ?_|refine JM rfl rfl ?_|refine JN rfl ?_|refine JO rfl ?_|refine JP rfl ?_))
    · refine e_arv (r := .int .u64 16777215) rfl rfl rfl ?_
      (repeat (first|(with_reducible first|refine Ja ?_|refine Jb ?_|refine Jc ?_|refine Jd ?_|refine Je ?_|refine Jf ?_|refine Jg ?_|refine Jh ?_|refine Ji ?_|refine Jj ?_|refine Jk rfl ?_|refine Jl ?_|refine Jm ?_|refine Jn ?_|refine Jo ?_|refine Jp ?_|refine Jq ?_)|refine JA rfl ?_|refine JB rfl ?_|refine JC rfl ?_|refine JD rfl ?_|refine JE rfl ?_|refine JF rfl ?_|refine JG rfl ?_|refine JH rfl ?_|refine JI rfl ?_|refine J2 rfl ?_|refine J3 rfl ?_|refine J4 rfl ?_|refine J1 rfl ?_|refine J6 rfl ?_|refine J7 rfl ?_|refine JJ rfl ?_|refine JK rfl ?_|refine JQ rfl ?_|refine JL rfl rfl ?_|refine JM rfl rfl ?_|refine JN rfl ?_|refine JO rfl ?_|refine JP rfl ?_))
      exact ⟨rfl, 1, ⟨rfl, rfl, trivial⟩, ⟨by omega, S⟩, by omega⟩
    · refine e_arv (r := .int .u64 65535) rfl rfl rfl ?_
      (repeat (first|(with_reducible first|refine Ja ?_|refine Jb ?_|refine Jc ?_|refine Jd ?_|refine Je ?_|refine Jf ?_|refine Jg ?_|refine Jh ?_|refine Ji ?_|refine Jj ?_|refine Jk rfl ?_|refine Jl ?_|refine Jm ?_|refine Jn ?_|refine Jo ?_|refine Jp ?_|refine Jq ?_)|refine JA rfl ?_|refine JB rfl ?_|refine JC rfl ?_|refine JD rfl ?_|refine JE rfl ?_|refine JF rfl ?_|refine JG rfl ?_|refine JH rfl ?_|refine JI rfl ?_|refine J2 rfl ?_|refine J3 rfl ?_|refine J4 rfl ?_|refine J1 rfl ?_|refine J6 rfl ?_|refine J7 rfl ?_|refine JJ rfl ?_|refine JK rfl ?_|refine JQ rfl ?_|refine JL rfl rfl ?_|refine JM rfl rfl ?_|refine JN rfl ?_|refine JO rfl ?_|refine JP rfl ?_))
      exact ⟨rfl, 2, ⟨rfl, rfl, trivial⟩, ⟨by omega, S⟩, by omega⟩
    · refine e_arv (r := .int .u64 255) rfl rfl rfl ?_
      (repeat (first|(with_reducible first|refine Ja ?_|refine Jb ?_|refine Jc ?_|refine Jd ?_|refine Je ?_|refine Jf ?_|refine Jg ?_|refine Jh ?_|refine Ji ?_|refine Jj ?_|refine Jk rfl ?_|refine Jl ?_|refine Jm ?_|refine Jn ?_|refine Jo ?_|refine Jp ?_|refine Jq ?_)|refine JA rfl ?_|refine JB rfl ?_|refine JC rfl ?_|refine JD rfl ?_|refine JE rfl ?_|refine JF rfl ?_|refine JG rfl ?_|refine JH rfl ?_|refine JI rfl ?_|refine J2 rfl ?_|refine J3 rfl ?_|refine J4 rfl ?_|refine J1 rfl ?_|refine J6 rfl ?_|refine J7 rfl ?_|refine JJ rfl ?_|refine JK rfl ?_|refine JQ rfl ?_|refine JL rfl rfl ?_|refine JM rfl rfl ?_|refine JN rfl ?_|refine JO rfl ?_|refine JP rfl ?_))
      exact ⟨rfl, 3, ⟨rfl, rfl, trivial⟩, ⟨by omega, S⟩, by omega⟩
    · refine e_arv (r := .int .u64 0) rfl rfl rfl ?_
      (repeat (first|(with_reducible first|refine Ja ?_|refine Jb ?_|refine Jc ?_|refine Jd ?_|refine Je ?_|refine Jf ?_|refine Jg ?_|refine Jh ?_|refine Ji ?_|refine Jj ?_|refine Jk rfl ?_|refine Jl ?_|refine Jm ?_|refine Jn ?_|refine Jo ?_|refine Jp ?_|refine Jq ?_)|refine JA rfl ?_|refine JB rfl ?_|refine JC rfl ?_|refine JD rfl ?_|refine JE rfl ?_|refine JF rfl ?_|refine JG rfl ?_|refine JH rfl ?_|refine JI rfl ?_|refine J2 rfl ?_|refine J3 rfl ?_|refine J4 rfl ?_|refine J1 rfl ?_|refine J6 rfl ?_|refine J7 rfl ?_|refine JJ rfl ?_|refine JK rfl ?_|refine JQ rfl ?_|refine JL rfl rfl ?_|refine JM rfl rfl ?_|refine JN rfl ?_|refine JO rfl ?_|refine JP rfl ?_))
      exact ⟨rfl, 4, ⟨rfl, rfl, trivial⟩, ⟨by omega, S⟩, by omega⟩

/-- Bytes that grow. -/
abbrev OwnB (ad : Option Addr) (n cap : Nat) (s : Sec) (Lb : List (Nat × Obj)) : Prop := OwnS 5 1 ad n cap (bcells s) Lb

theorem bcells_app (a b : Sec) : bcells (a ++ b) = bcells a ++ bcells b := by simp [bcells]
theorem wrap_u64n (n : Nat) (h : n < 18446744073709551616) : IntKind.u64.wrap (n : Int) = n := by rw [wrap_u64]; omega
theorem wrap_u16n (n : Nat) (h : n < 65536) : IntKind.u16.wrap (n : Int) = n := by rw [wrap_u16]; omega
theorem ar_shr8 (k : IntKind) (a : Nat) (hk : 8 ≤ k.bits) : arV .shr (.int k (a : Int)) (.int .u64 8) = some (.int k ((a / 256 : Nat) : Int)) := by
  simp only [arV]
  rw [if_neg (by omega)]
  have e : min (8 : Int).toNat k.bits = 8 := by show min 8 k.bits = 8; omega
  rw [e, Int.fdiv_eq_ediv_of_nonneg _ (by decide)]
  congr 2

section
variable {m : Nat} {w : World} {L L1 L2 Lb : List (Nat × Obj)} {F : Fr} {T : Rg} {N : Rg → World → Prop} {l : List Ins} {ty ty' : TypeId}
/-- append(b, x) -/
theorem e_push {r d n cap : Nat} {ad : Option Addr} {s : Sec} {b : UInt8} {a x y : Operand} (S : Dn.Sep w (L ++ Lb) F) (hO : OwnB ad n cap s Lb) (ha : T.ev (cX a) = bv b) (hx : ∀ v, (updO T (some r) v).evR x = .slice ad n cap) (hy : ∀ v, (updO T (some r) v).evR y = v) (hn : n ≤ 1000000)
    (h : ∀ v ad' cap' Lb' w', OwnB ad' (n + 1) cap' (s ++ [b]) Lb' → Dn.Sep w' (L ++ Lb') F → Evs Try.prog l N (updO (updO T (some r) v) (some d) (.slice ad' (n + 1) cap')) w') :
    Evs Try.prog (.op (.raw (some r) (.buildSlice 95 1 #[(0, a)]) ty) :: .op (.raw (some d) (.call (.mk (.builtin .append) #[x, y] #[95, 95])) ty') :: l) N T w := by
  refine e_bsl (size := 1) (xs := [bv b]) S Try.underlying95 rfl rfl ⟨_, rfl⟩ (by omega) (by omega) (fun zs hz => ?_) fun q w S => ?_
  · match zs, hz with
    | [u], _ =>
      have hz' : (T.ev (cX a)).cells.toList = [bv b] := by rw [ha]; rfl
      simp only [List.map_cons, List.map_nil, partsV, hz', fillL, List.length_cons, List.length_nil]
      rfl
  · have S' : Dn.Sep w (((q, Obj.cells ⟨[bv b]⟩ 5) :: L) ++ Lb) F := S.perm (List.perm_append_singleton _ _)
    refine e_app (size := 1) (k := 1) (ys := [bv b]) S' hO (hx _) ?_ Try.underlying95 rfl rfl rfl rfl (by have : (1 : Nat) ≤ 1 := Nat.le_refl _; show (n + 1) * 1 ≤ _; omega) (by omega) fun ad' cap' Lb' w' hO' S'' => ?_
    · rw [hy]
      exact src_row Try.underlying95 (rowOf_sep S' 0 rfl (by simp) rfl) (by simp [Value.flat, bv])
    · exact h _ ad' cap' Lb' w' (by unfold OwnB; rw [bcells_app]; exact hO') (Sep.drop (L2 := [(q, Obj.cells ⟨[bv b]⟩ 5)]) S'')
end
theorem bv_wrap (n : Nat) : Value.int .u8 (IntKind.u8.wrap (n : Int)) = bv (UInt8.ofNat n) := by
  unfold bv
  rw [wrap_u8]
  simp only [UInt8.toNat_ofNat']
  congr 1

theorem sec_put16 (ad : Option Addr) (n cap v : Nat) (s : Sec) (Lb : List (Nat × Obj)) (hO : OwnB ad n cap s Lb) (hv : v < 65536) (hn : n ≤ 100000) :
    DSpec Try.prog 56 [.slice ad n cap, .int .u16 (v : Int)] Lb fun u L' => ∃ ad' cap', u = .slice ad' (n + 2) cap' ∧ OwnB ad' (n + 2) cap' (s ++ leB 2 v) L' := by
  refine spec_of mix Try.func56 c56_eq rfl rfl fun w F Q S hQ => ?_
  (repeat (first|(with_reducible first|refine Ja ?_|refine Jb ?_|refine Jc ?_|refine Jd ?_|refine Je ?_|refine Jf ?_|refine Jg ?_|refine Jh ?_|refine Ji ?_|refine Jj ?_|refine Jk rfl ?_|refine Jl ?_|refine Jm ?_|refine Jn ?_|refine Jo ?_|refine Jp ?_|refine Jq ?_)|refine JA rfl ?_|refine JB rfl ?_|refine JC rfl ?_|refine JD rfl ?_|refine JE rfl ?_|refine JF rfl ?_|refine JG rfl ?_|refine JH rfl ?_|refine JI rfl ?_|refine J2 rfl ?_|refine J3 rfl ?_|refine J4 rfl ?_|refine J1 rfl ?_|refine J6 rfl ?_|refine J7 rfl ?_|refine JJ rfl ?_|refine JK rfl ?_|refine JQ rfl ?_|refine JL rfl rfl ?_|refine JM rfl rfl ?_|refine JN rfl ?_|refine JO rfl ?_|refine JP rfl ?_))
  refine e_callP rfl sizeOf16 S fun w S => ?_
  (repeat (first|(with_reducible first|refine Ja ?_|refine Jb ?_|refine Jc ?_|refine Jd ?_|refine Je ?_|refine Jf ?_|refine Jg ?_|refine Jh ?_|refine Ji ?_|refine Jj ?_|refine Jk rfl ?_|refine Jl ?_|refine Jm ?_|refine Jn ?_|refine Jo ?_|refine Jp ?_|refine Jq ?_)|refine JA rfl ?_|refine JB rfl ?_|refine JC rfl ?_|refine JD rfl ?_|refine JE rfl ?_|refine JF rfl ?_|refine JG rfl ?_|refine JH rfl ?_|refine JI rfl ?_|refine J2 rfl ?_|refine J3 rfl ?_|refine J4 rfl ?_|refine J1 rfl ?_|refine J6 rfl ?_|refine J7 rfl ?_|refine JJ rfl ?_|refine JK rfl ?_|refine JQ rfl ?_|refine JL rfl rfl ?_|refine JM rfl rfl ?_|refine JN rfl ?_|refine JO rfl ?_|refine JP rfl ?_))
  refine s_loop (σ := Nat × Option Addr × Nat × List (Nat × Obj)) (fun t => [(6, .int .i64 (t.1 : Int)), (5, .int .i64 2), (0, .slice t.2.1 (n + t.1) t.2.2.1), (1, .int .u16 ((v / 256 ^ t.1 : Nat) : Int))])
    (fun t w => t.1 ≤ 2 ∧ OwnB t.2.1 (n + t.1) t.2.2.1 (s ++ leB t.1 v) t.2.2.2 ∧ Dn.Sep w t.2.2.2 F) (fun t => 2 - t.1) (0, ad, cap, Lb) ⟨rfl, rfl, rfl, ?_, trivial⟩ rfl ⟨by simp, by simpa [leB] using hO, S⟩ ?_
  · show Value.int .u16 _ = Value.int .u16 _
    simp
  rintro g ⟨j, ad, cap, Lb⟩ w ⟨hj, hO, S⟩
  simp only [setL] at hj hO S ⊢
  (repeat (first|(with_reducible first|refine Ja ?_|refine Jb ?_|refine Jc ?_|refine Jd ?_|refine Je ?_|refine Jf ?_|refine Jg ?_|refine Jh ?_|refine Ji ?_|refine Jj ?_|refine Jk rfl ?_|refine Jl ?_|refine Jm ?_|refine Jn ?_|refine Jo ?_|refine Jp ?_|refine Jq ?_)|refine JA rfl ?_|refine JB rfl ?_|refine JC rfl ?_|refine JD rfl ?_|refine JE rfl ?_|refine JF rfl ?_|refine JG rfl ?_|refine JH rfl ?_|refine JI rfl ?_|refine J2 rfl ?_|refine J3 rfl ?_|refine J4 rfl ?_|refine J1 rfl ?_|refine J6 rfl ?_|refine J7 rfl ?_|refine JJ rfl ?_|refine JK rfl ?_|refine JQ rfl ?_|refine JL rfl rfl ?_|refine JM rfl rfl ?_|refine JN rfl ?_|refine JO rfl ?_|refine JP rfl ?_))
  refine s_iteD rfl (fun h => ?_) (fun h => ?_)
  · have hq : v / 256 ^ j < 65536 := Nat.lt_of_le_of_lt (Nat.div_le_self _ _) hv
    (repeat (first|(with_reducible first|refine Ja ?_|refine Jb ?_|refine Jc ?_|refine Jd ?_|refine Je ?_|refine Jf ?_|refine Jg ?_|refine Jh ?_|refine Ji ?_|refine Jj ?_|refine Jk rfl ?_|refine Jl ?_|refine Jm ?_|refine Jn ?_|refine Jo ?_|refine Jp ?_|refine Jq ?_)|refine JA rfl ?_|refine JB rfl ?_|refine JC rfl ?_|refine JD rfl ?_|refine JE rfl ?_|refine JF rfl ?_|refine JG rfl ?_|refine JH rfl ?_|refine JI rfl ?_|refine J2 rfl ?_|refine J3 rfl ?_|refine J4 rfl ?_|refine J1 rfl ?_|refine J6 rfl ?_|refine J7 rfl ?_|refine JJ rfl ?_|refine JK rfl ?_|refine JQ rfl ?_|refine JL rfl rfl ?_|refine JM rfl rfl ?_|refine JN rfl ?_|refine JO rfl ?_|refine JP rfl ?_))
    refine e_push (L := []) S hO (bv_wrap (v / 256 ^ j)) (fun _ => rfl) (fun _ => rfl) (by omega) fun _ ad' cap' Lb' w hO' S => ?_
    (repeat (with_reducible first|refine Ja ?_|refine Jb ?_|refine Jc ?_|refine Jd ?_|refine Je ?_|refine Jf ?_|refine Jg ?_|refine Jh ?_|refine Ji ?_|refine Jj ?_|refine Jk rfl ?_|refine Jl ?_|refine Jm ?_|refine Jn ?_|refine Jo ?_|refine Jp ?_|refine Jq ?_))
    refine e_mvL rfl ?_
    (repeat (with_reducible first|refine Ja ?_|refine Jb ?_|refine Jc ?_|refine Jd ?_|refine Je ?_|refine Jf ?_|refine Jg ?_|refine Jh ?_|refine Ji ?_|refine Jj ?_|refine Jk rfl ?_|refine Jl ?_|refine Jm ?_|refine Jn ?_|refine Jo ?_|refine Jp ?_|refine Jq ?_))
    refine e_mvI rfl ?_
    refine e_p (v := .int .u64 ((v / 256 ^ j : Nat) : Int)) (congrArg (fun x => some (Value.int .u64 x)) (wrap_u64n _ (by omega))) ?_
    refine e_arv rfl rfl (ar_shr8 .u64 _ (by decide)) ?_
    refine e_p (v := .int .u16 ((v / 256 ^ j / 256 : Nat) : Int)) (congrArg (fun x => some (Value.int .u16 x)) (wrap_u16n _ (by omega))) ?_
    (repeat (first|(with_reducible first|refine Ja ?_|refine Jb ?_|refine Jc ?_|refine Jd ?_|refine Je ?_|refine Jf ?_|refine Jg ?_|refine Jh ?_|refine Ji ?_|refine Jj ?_|refine Jk rfl ?_|refine Jl ?_|refine Jm ?_|refine Jn ?_|refine Jo ?_|refine Jp ?_|refine Jq ?_)|refine JA rfl ?_|refine JB rfl ?_|refine JC rfl ?_|refine JD rfl ?_|refine JE rfl ?_|refine JF rfl ?_|refine JG rfl ?_|refine JH rfl ?_|refine JI rfl ?_|refine J2 rfl ?_|refine J3 rfl ?_|refine J4 rfl ?_|refine J1 rfl ?_|refine J6 rfl ?_|refine J7 rfl ?_|refine JJ rfl ?_|refine JK rfl ?_|refine JQ rfl ?_|refine JL rfl rfl ?_|refine JM rfl rfl ?_|refine JN rfl ?_|refine JO rfl ?_|refine JP rfl ?_))
    refine e_add rfl rfl (by omega) (by omega) ?_
    (repeat (first|(with_reducible first|refine Ja ?_|refine Jb ?_|refine Jc ?_|refine Jd ?_|refine Je ?_|refine Jf ?_|refine Jg ?_|refine Jh ?_|refine Ji ?_|refine Jj ?_|refine Jk rfl ?_|refine Jl ?_|refine Jm ?_|refine Jn ?_|refine Jo ?_|refine Jp ?_|refine Jq ?_)|refine JA rfl ?_|refine JB rfl ?_|refine JC rfl ?_|refine JD rfl ?_|refine JE rfl ?_|refine JF rfl ?_|refine JG rfl ?_|refine JH rfl ?_|refine JI rfl ?_|refine J2 rfl ?_|refine J3 rfl ?_|refine J4 rfl ?_|refine J1 rfl ?_|refine J6 rfl ?_|refine J7 rfl ?_|refine JJ rfl ?_|refine JK rfl ?_|refine JQ rfl ?_|refine JL rfl rfl ?_|refine JM rfl rfl ?_|refine JN rfl ?_|refine JO rfl ?_|refine JP rfl ?_))
    refine ⟨rfl, (j + 1, ad', cap', Lb'), ⟨rfl, rfl, rfl, ?_, trivial⟩, ⟨by simp; omega, ?_, S⟩, by simp; omega⟩
    · show Value.int .u16 _ = Value.int .u16 _
      simp only [Nat.pow_succ, Nat.div_div_eq_div_mul]
    · simp only [leB_succ, ← List.append_assoc]
      exact hO'
  · have hj' : j = 2 := by omega
    subst hj'
    (repeat (first|(with_reducible first|refine Ja ?_|refine Jb ?_|refine Jc ?_|refine Jd ?_|refine Je ?_|refine Jf ?_|refine Jg ?_|refine Jh ?_|refine Ji ?_|refine Jj ?_|refine Jk rfl ?_|refine Jl ?_|refine Jm ?_|refine Jn ?_|refine Jo ?_|refine Jp ?_|refine Jq ?_)|refine JA rfl ?_|refine JB rfl ?_|refine JC rfl ?_|refine JD rfl ?_|refine JE rfl ?_|refine JF rfl ?_|refine JG rfl ?_|refine JH rfl ?_|refine JI rfl ?_|refine J2 rfl ?_|refine J3 rfl ?_|refine J4 rfl ?_|refine J1 rfl ?_|refine J6 rfl ?_|refine J7 rfl ?_|refine JJ rfl ?_|refine JK rfl ?_|refine JQ rfl ?_|refine JL rfl rfl ?_|refine JM rfl rfl ?_|refine JN rfl ?_|refine JO rfl ?_|refine JP rfl ?_))
    exact f_ret rfl rfl (hQ _ _ _ ⟨ad, cap, rfl, hO⟩ S)

theorem sec_put32 (ad : Option Addr) (n cap v : Nat) (s : Sec) (Lb : List (Nat × Obj)) (hO : OwnB ad n cap s Lb) (hv : v < 4294967296) (hn : n ≤ 100000) :
    DSpec Try.prog 57 [.slice ad n cap, .int .u32 (v : Int)] Lb fun u L' => ∃ ad' cap', u = .slice ad' (n + 4) cap' ∧ OwnB ad' (n + 4) cap' (s ++ leB 4 v) L' := by
  refine spec_of mix Try.func57 c57_eq rfl rfl fun w F Q S hQ => ?_
  (repeat (first|(with_reducible first|refine Ja ?_|refine Jb ?_|refine Jc ?_|refine Jd ?_|refine Je ?_|refine Jf ?_|refine Jg ?_|refine Jh ?_|refine Ji ?_|refine Jj ?_|refine Jk rfl ?_|refine Jl ?_|refine Jm ?_|refine Jn ?_|refine Jo ?_|refine Jp ?_|refine Jq ?_)|refine JA rfl ?_|refine JB rfl ?_|refine JC rfl ?_|refine JD rfl ?_|refine JE rfl ?_|refine JF rfl ?_|refine JG rfl ?_|refine JH rfl ?_|refine JI rfl ?_|refine J2 rfl ?_|refine J3 rfl ?_|refine J4 rfl ?_|refine J1 rfl ?_|refine J6 rfl ?_|refine J7 rfl ?_|refine JJ rfl ?_|refine JK rfl ?_|refine JQ rfl ?_|refine JL rfl rfl ?_|refine JM rfl rfl ?_|refine JN rfl ?_|refine JO rfl ?_|refine JP rfl ?_))
  refine e_callP rfl sizeOf32 S fun w S => ?_
  (repeat (first|(with_reducible first|refine Ja ?_|refine Jb ?_|refine Jc ?_|refine Jd ?_|refine Je ?_|refine Jf ?_|refine Jg ?_|refine Jh ?_|refine Ji ?_|refine Jj ?_|refine Jk rfl ?_|refine Jl ?_|refine Jm ?_|refine Jn ?_|refine Jo ?_|refine Jp ?_|refine Jq ?_)|refine JA rfl ?_|refine JB rfl ?_|refine JC rfl ?_|refine JD rfl ?_|refine JE rfl ?_|refine JF rfl ?_|refine JG rfl ?_|refine JH rfl ?_|refine JI rfl ?_|refine J2 rfl ?_|refine J3 rfl ?_|refine J4 rfl ?_|refine J1 rfl ?_|refine J6 rfl ?_|refine J7 rfl ?_|refine JJ rfl ?_|refine JK rfl ?_|refine JQ rfl ?_|refine JL rfl rfl ?_|refine JM rfl rfl ?_|refine JN rfl ?_|refine JO rfl ?_|refine JP rfl ?_))
  refine s_loop (σ := Nat × Option Addr × Nat × List (Nat × Obj)) (fun t => [(6, .int .i64 (t.1 : Int)), (5, .int .i64 4), (0, .slice t.2.1 (n + t.1) t.2.2.1), (1, .int .u32 ((v / 256 ^ t.1 : Nat) : Int))])
    (fun t w => t.1 ≤ 4 ∧ OwnB t.2.1 (n + t.1) t.2.2.1 (s ++ leB t.1 v) t.2.2.2 ∧ Dn.Sep w t.2.2.2 F) (fun t => 4 - t.1) (0, ad, cap, Lb) ⟨rfl, rfl, rfl, ?_, trivial⟩ rfl ⟨by simp, by simpa [leB] using hO, S⟩ ?_
  · show Value.int .u32 _ = Value.int .u32 _
    simp
  rintro g ⟨j, ad, cap, Lb⟩ w ⟨hj, hO, S⟩
  simp only [setL] at hj hO S ⊢
  (repeat (first|(with_reducible first|refine Ja ?_|refine Jb ?_|refine Jc ?_|refine Jd ?_|refine Je ?_|refine Jf ?_|refine Jg ?_|refine Jh ?_|refine Ji ?_|refine Jj ?_|refine Jk rfl ?_|refine Jl ?_|refine Jm ?_|refine Jn ?_|refine Jo ?_|refine Jp ?_|refine Jq ?_)|refine JA rfl ?_|refine JB rfl ?_|refine JC rfl ?_|refine JD rfl ?_|refine JE rfl ?_|refine JF rfl ?_|refine JG rfl ?_|refine JH rfl ?_|refine JI rfl ?_|refine J2 rfl ?_|refine J3 rfl ?_|refine J4 rfl ?_|refine J1 rfl ?_|refine J6 rfl ?_|refine J7 rfl ?_|refine JJ rfl ?_|refine JK rfl ?_|refine JQ rfl ?_|refine JL rfl rfl ?_|refine JM rfl rfl ?_|refine JN rfl ?_|refine JO rfl ?_|refine JP rfl ?_))
  refine s_iteD rfl (fun h => ?_) (fun h => ?_)
  · have hq : v / 256 ^ j < 4294967296 := Nat.lt_of_le_of_lt (Nat.div_le_self _ _) hv
    (repeat (first|(with_reducible first|refine Ja ?_|refine Jb ?_|refine Jc ?_|refine Jd ?_|refine Je ?_|refine Jf ?_|refine Jg ?_|refine Jh ?_|refine Ji ?_|refine Jj ?_|refine Jk rfl ?_|refine Jl ?_|refine Jm ?_|refine Jn ?_|refine Jo ?_|refine Jp ?_|refine Jq ?_)|refine JA rfl ?_|refine JB rfl ?_|refine JC rfl ?_|refine JD rfl ?_|refine JE rfl ?_|refine JF rfl ?_|refine JG rfl ?_|refine JH rfl ?_|refine JI rfl ?_|refine J2 rfl ?_|refine J3 rfl ?_|refine J4 rfl ?_|refine J1 rfl ?_|refine J6 rfl ?_|refine J7 rfl ?_|refine JJ rfl ?_|refine JK rfl ?_|refine JQ rfl ?_|refine JL rfl rfl ?_|refine JM rfl rfl ?_|refine JN rfl ?_|refine JO rfl ?_|refine JP rfl ?_))
    refine e_push (L := []) S hO (bv_wrap (v / 256 ^ j)) (fun _ => rfl) (fun _ => rfl) (by omega) fun _ ad' cap' Lb' w hO' S => ?_
    (repeat (with_reducible first|refine Ja ?_|refine Jb ?_|refine Jc ?_|refine Jd ?_|refine Je ?_|refine Jf ?_|refine Jg ?_|refine Jh ?_|refine Ji ?_|refine Jj ?_|refine Jk rfl ?_|refine Jl ?_|refine Jm ?_|refine Jn ?_|refine Jo ?_|refine Jp ?_|refine Jq ?_))
    refine e_mvL rfl ?_
    (repeat (with_reducible first|refine Ja ?_|refine Jb ?_|refine Jc ?_|refine Jd ?_|refine Je ?_|refine Jf ?_|refine Jg ?_|refine Jh ?_|refine Ji ?_|refine Jj ?_|refine Jk rfl ?_|refine Jl ?_|refine Jm ?_|refine Jn ?_|refine Jo ?_|refine Jp ?_|refine Jq ?_))
    refine e_mvI rfl ?_
    refine e_p (v := .int .u64 ((v / 256 ^ j : Nat) : Int)) (congrArg (fun x => some (Value.int .u64 x)) (wrap_u64n _ (by omega))) ?_
    refine e_arv rfl rfl (ar_shr8 .u64 _ (by decide)) ?_
    refine e_p (v := .int .u32 ((v / 256 ^ j / 256 : Nat) : Int)) (congrArg (fun x => some (Value.int .u32 x)) (wrap_u32n _ (by omega))) ?_
    (repeat (first|(with_reducible first|refine Ja ?_|refine Jb ?_|refine Jc ?_|refine Jd ?_|refine Je ?_|refine Jf ?_|refine Jg ?_|refine Jh ?_|refine Ji ?_|refine Jj ?_|refine Jk rfl ?_|refine Jl ?_|refine Jm ?_|refine Jn ?_|refine Jo ?_|refine Jp ?_|refine Jq ?_)|refine JA rfl ?_|refine JB rfl ?_|refine JC rfl ?_|refine JD rfl ?_|refine JE rfl ?_|refine JF rfl ?_|refine JG rfl ?_|refine JH rfl ?_|refine JI rfl ?_|refine J2 rfl ?_|refine J3 rfl ?_|refine J4 rfl ?_|refine J1 rfl ?_|refine J6 rfl ?_|refine J7 rfl ?_|refine JJ rfl ?_|refine JK rfl ?_|refine JQ rfl ?_|refine JL rfl rfl ?_|refine JM rfl rfl ?_|refine JN rfl ?_|refine JO rfl ?_|refine JP rfl ?_))
    refine e_add rfl rfl (by omega) (by omega) ?_
    (repeat (first|(with_reducible first|refine Ja ?_|refine Jb ?_|refine Jc ?_|refine Jd ?_|refine Je ?_|refine Jf ?_|refine Jg ?_|refine Jh ?_|refine Ji ?_|refine Jj ?_|refine Jk rfl ?_|refine Jl ?_|refine Jm ?_|refine Jn ?_|refine Jo ?_|refine Jp ?_|refine Jq ?_)|refine JA rfl ?_|refine JB rfl ?_|refine JC rfl ?_|refine JD rfl ?_|refine JE rfl ?_|refine JF rfl ?_|refine JG rfl ?_|refine JH rfl ?_|refine JI rfl ?_|refine J2 rfl ?_|refine J3 rfl ?_|refine J4 rfl ?_|refine J1 rfl ?_|refine J6 rfl ?_|refine J7 rfl ?_|refine JJ rfl ?_|refine JK rfl ?_|refine JQ rfl ?_|refine JL rfl rfl ?_|refine JM rfl rfl ?_|refine JN rfl ?_|refine JO rfl ?_|refine JP rfl ?_))
    refine ⟨rfl, (j + 1, ad', cap', Lb'), ⟨rfl, rfl, rfl, ?_, trivial⟩, ⟨by simp; omega, ?_, S⟩, by simp; omega⟩
    · show Value.int .u32 _ = Value.int .u32 _
      simp only [Nat.pow_succ, Nat.div_div_eq_div_mul]
    · simp only [leB_succ, ← List.append_assoc]
      exact hO'
  · have hj' : j = 4 := by omega
    subst hj'
    (repeat (first|(with_reducible first|refine Ja ?_|refine Jb ?_|refine Jc ?_|refine Jd ?_|refine Je ?_|refine Jf ?_|refine Jg ?_|refine Jh ?_|refine Ji ?_|refine Jj ?_|refine Jk rfl ?_|refine Jl ?_|refine Jm ?_|refine Jn ?_|refine Jo ?_|refine Jp ?_|refine Jq ?_)|refine JA rfl ?_|refine JB rfl ?_|refine JC rfl ?_|refine JD rfl ?_|refine JE rfl ?_|refine JF rfl ?_|refine JG rfl ?_|refine JH rfl ?_|refine JI rfl ?_|refine J2 rfl ?_|refine J3 rfl ?_|refine J4 rfl ?_|refine J1 rfl ?_|refine J6 rfl ?_|refine J7 rfl ?_|refine JJ rfl ?_|refine JK rfl ?_|refine JQ rfl ?_|refine JL rfl rfl ?_|refine JM rfl rfl ?_|refine JN rfl ?_|refine JO rfl ?_|refine JP rfl ?_))
    exact f_ret rfl rfl (hQ _ _ _ ⟨ad, cap, rfl, hO⟩ S)

end Go.Proofs.Ytgendpinmmmfjaa

/-
  The walks of get, Clone, and of the log's put.
-/
namespace Go.Proofs.Ytgendpinmmmfjaa
open Dn
attribute [local irreducible] Evs Ev EvT DSpec PSpec CallTo
set_option maxRecDepth 10000

theorem ar_shl8 (a i : Nat) (hi : i ≤ 6) (ha : a < 256) : arV .shl (.int .i64 (a : Int)) (.int .i64 ((8 : Int) * (i : Int))) = some (.int .i64 ((a * 256 ^ i : Nat) : Int)) := by
  simp only [arV]
  rw [if_neg (by omega)]
  have e : min ((8 : Int) * (i : Int)).toNat IntKind.i64.bits = 8 * i := by show min _ 64 = _; omega
  have e2 : (a : Int) * 2 ^ (8 * i) = ((a * 256 ^ i : Nat) : Int) := by
    have : ((256 : Nat) ^ i) = 2 ^ (8 * i) := by rw [Nat.pow_mul]
    rw [this]; simp
  rw [e, e2]
  have h1 : 256 ^ i ≤ 256 ^ 6 := Nat.pow_le_pow_right (by omega) hi
  have h2 : a * 256 ^ i ≤ 255 * 256 ^ 6 := Nat.mul_le_mul (by omega) h1
  rw [wrap_id (by omega) (by omega)]
theorem ofInt64n (n : Nat) (h : n < 18446744073709551616) : (BitVec.ofInt 64 (n : Int)).toNat = n := by rw [BitVec.toNat_ofInt]; omega
theorem ar_or8 (x a i : Nat) (hi : i ≤ 6) (ha : a < 256) (hx : x < 256 ^ i) : arV .or (.int .i64 (x : Int)) (.int .i64 ((a * 256 ^ i : Nat) : Int)) = some (.int .i64 ((x + 256 ^ i * a : Nat) : Int)) := by
  have h1 : 256 ^ i ≤ 256 ^ 6 := Nat.pow_le_pow_right (by omega) hi
  have h2 : a * 256 ^ i ≤ 255 * 256 ^ 6 := Nat.mul_le_mul (by omega) h1
  simp only [arV, kEq, cond_true]
  show some (Value.int .i64 (IntKind.i64.wrap ((BitVec.ofInt 64 (x : Int) ||| BitVec.ofInt 64 ((a * 256 ^ i : Nat) : Int)).toNat : Int))) = _
  have e : (BitVec.ofInt 64 (x : Int) ||| BitVec.ofInt 64 ((a * 256 ^ i : Nat) : Int)).toNat = x + 256 ^ i * a := by
    rw [BitVec.toNat_or, ofInt64n _ (by omega), ofInt64n _ (by omega), Nat.or_comm, Nat.mul_comm a]
    have e3 : (256 : Nat) ^ i = 2 ^ (8 * i) := by rw [Nat.pow_mul]
    rw [e3] at hx ⊢
    rw [← Nat.two_pow_add_eq_or_of_lt hx]; omega
  rw [e]
  have : 256 ^ i * a = a * 256 ^ i := Nat.mul_comm _ _
  rw [wrap_id (by omega) (by omega)]


theorem sec_get (s : Sec) (hs : s.length ≤ 7) : PSpec Try.prog 79 [.string ⟨⟨s⟩⟩] (.int .i64 (leN s : Int)) := by
  refine pspec_of mix Try.func79 c79_eq rfl rfl fun w F Q S hQ => ?_
  (repeat (first|(with_reducible first|refine Ja ?_|refine Jb ?_|refine Jc ?_|refine Jd ?_|refine Je ?_|refine Jf ?_|refine Jg ?_|refine Jh ?_|refine Ji ?_|refine Jj ?_|refine Jk rfl ?_|refine Jl ?_|refine Jm ?_|refine Jn ?_|refine Jo ?_|refine Jp ?_|refine Jq ?_)|refine JA rfl ?_|refine JB rfl ?_|refine JC rfl ?_|refine JD rfl ?_|refine JE rfl ?_|refine JF rfl ?_|refine JG rfl ?_|refine JH rfl ?_|refine JI rfl ?_|refine J2 rfl ?_|refine J3 rfl ?_|refine J4 rfl ?_|refine J1 rfl ?_|refine J6 rfl ?_|refine J7 rfl ?_|refine JJ rfl ?_|refine JK rfl ?_|refine JQ rfl ?_|refine JL rfl rfl ?_|refine JM rfl rfl ?_|refine JN rfl ?_|refine JO rfl ?_|refine JP rfl ?_))
  refine s_loop (σ := Nat) (fun i => [(7, .int .i64 (i : Int)), (6, .int .i64 (s.length : Int)), (3, .int .i64 (leN (s.take i) : Int)), (0, .string ⟨⟨s⟩⟩)]) (fun i w => i ≤ s.length ∧ Dn.Sep w [] F) (fun i => s.length - i) 0 ⟨rfl, rfl, rfl, rfl, trivial⟩ rfl ⟨by omega, S⟩ ?_
  rintro g i w ⟨hi, S⟩
  simp only [setL]
  (repeat (first|(with_reducible first|refine Ja ?_|refine Jb ?_|refine Jc ?_|refine Jd ?_|refine Je ?_|refine Jf ?_|refine Jg ?_|refine Jh ?_|refine Ji ?_|refine Jj ?_|refine Jk rfl ?_|refine Jl ?_|refine Jm ?_|refine Jn ?_|refine Jo ?_|refine Jp ?_|refine Jq ?_)|refine JA rfl ?_|refine JB rfl ?_|refine JC rfl ?_|refine JD rfl ?_|refine JE rfl ?_|refine JF rfl ?_|refine JG rfl ?_|refine JH rfl ?_|refine JI rfl ?_|refine J2 rfl ?_|refine J3 rfl ?_|refine J4 rfl ?_|refine J1 rfl ?_|refine J6 rfl ?_|refine J7 rfl ?_|refine JJ rfl ?_|refine JK rfl ?_|refine JQ rfl ?_|refine JL rfl rfl ?_|refine JM rfl rfl ?_|refine JN rfl ?_|refine JO rfl ?_|refine JP rfl ?_))
  refine s_iteD rfl (fun h => ?_) (fun h => ?_)
  · have hi' : i < s.length := by omega
    have hb : s[i].toNat < 256 := UInt8.toNat_lt _
    (repeat (first|(with_reducible first|refine Ja ?_|refine Jb ?_|refine Jc ?_|refine Jd ?_|refine Je ?_|refine Jf ?_|refine Jg ?_|refine Jh ?_|refine Ji ?_|refine Jj ?_|refine Jk rfl ?_|refine Jl ?_|refine Jm ?_|refine Jn ?_|refine Jo ?_|refine Jp ?_|refine Jq ?_)|refine JA rfl ?_|refine JB rfl ?_|refine JC rfl ?_|refine JD rfl ?_|refine JE rfl ?_|refine JF rfl ?_|refine JG rfl ?_|refine JH rfl ?_|refine JI rfl ?_|refine J2 rfl ?_|refine J3 rfl ?_|refine J4 rfl ?_|refine J1 rfl ?_|refine J6 rfl ?_|refine J7 rfl ?_|refine JJ rfl ?_|refine JK rfl ?_|refine JQ rfl ?_|refine JL rfl rfl ?_|refine JM rfl rfl ?_|refine JN rfl ?_|refine JO rfl ?_|refine JP rfl ?_))
    refine e_ixs (u := s[i]) rfl rfl (by omega) (by show (i : Int) < ((s.length : Nat) : Int); omega) (by simp [hi', List.getD_eq_getElem?_getD]) ?_
    refine e_p (v := .int .i64 (s[i].toNat : Int)) (congrArg (fun x => some (Value.int .i64 x)) (wrap_id (by omega) (by omega))) ?_
    (repeat (with_reducible first|refine Ja ?_|refine Jb ?_|refine Jc ?_|refine Jd ?_|refine Je ?_|refine Jf ?_|refine Jg ?_|refine Jh ?_|refine Ji ?_|refine Jj ?_|refine Jk rfl ?_|refine Jl ?_|refine Jm ?_|refine Jn ?_|refine Jo ?_|refine Jp ?_|refine Jq ?_))
    refine e_mvI rfl ?_
    refine e_mul rfl rfl (by omega) (by omega) ?_
    refine e_arv rfl rfl (ar_shl8 s[i].toNat i (by omega) hb) ?_
    refine e_arv rfl rfl (ar_or8 (leN (s.take i)) s[i].toNat i (by omega) hb (by have := leN_lt (s.take i); rw [List.length_take, Nat.min_eq_left (by omega)] at this; exact this)) ?_
    (repeat (with_reducible first|refine Ja ?_|refine Jb ?_|refine Jc ?_|refine Jd ?_|refine Je ?_|refine Jf ?_|refine Jg ?_|refine Jh ?_|refine Ji ?_|refine Jj ?_|refine Jk rfl ?_|refine Jl ?_|refine Jm ?_|refine Jn ?_|refine Jo ?_|refine Jp ?_|refine Jq ?_))
    refine e_mvI rfl ?_
    (repeat (first|(with_reducible first|refine Ja ?_|refine Jb ?_|refine Jc ?_|refine Jd ?_|refine Je ?_|refine Jf ?_|refine Jg ?_|refine Jh ?_|refine Ji ?_|refine Jj ?_|refine Jk rfl ?_|refine Jl ?_|refine Jm ?_|refine Jn ?_|refine Jo ?_|refine Jp ?_|refine Jq ?_)|refine JA rfl ?_|refine JB rfl ?_|refine JC rfl ?_|refine JD rfl ?_|refine JE rfl ?_|refine JF rfl ?_|refine JG rfl ?_|refine JH rfl ?_|refine JI rfl ?_|refine J2 rfl ?_|refine J3 rfl ?_|refine J4 rfl ?_|refine J1 rfl ?_|refine J6 rfl ?_|refine J7 rfl ?_|refine JJ rfl ?_|refine JK rfl ?_|refine JQ rfl ?_|refine JL rfl rfl ?_|refine JM rfl rfl ?_|refine JN rfl ?_|refine JO rfl ?_|refine JP rfl ?_))
    refine e_add rfl rfl (by omega) (by omega) ?_
    (repeat (first|(with_reducible first|refine Ja ?_|refine Jb ?_|refine Jc ?_|refine Jd ?_|refine Je ?_|refine Jf ?_|refine Jg ?_|refine Jh ?_|refine Ji ?_|refine Jj ?_|refine Jk rfl ?_|refine Jl ?_|refine Jm ?_|refine Jn ?_|refine Jo ?_|refine Jp ?_|refine Jq ?_)|refine JA rfl ?_|refine JB rfl ?_|refine JC rfl ?_|refine JD rfl ?_|refine JE rfl ?_|refine JF rfl ?_|refine JG rfl ?_|refine JH rfl ?_|refine JI rfl ?_|refine J2 rfl ?_|refine J3 rfl ?_|refine J4 rfl ?_|refine J1 rfl ?_|refine J6 rfl ?_|refine J7 rfl ?_|refine JJ rfl ?_|refine JK rfl ?_|refine JQ rfl ?_|refine JL rfl rfl ?_|refine JM rfl rfl ?_|refine JN rfl ?_|refine JO rfl ?_|refine JP rfl ?_))
    refine ⟨rfl, i + 1, ⟨rfl, rfl, ?_, rfl, trivial⟩, ⟨by omega, S⟩, by omega⟩
    show Value.int .i64 _ = Value.int .i64 _
    congr 2
    rw [List.take_succ_eq_append_getElem hi', leN_app, List.length_take, Nat.min_eq_left (by omega)]
    simp [leN]
  · have hi' : i = s.length := by omega
    subst hi'
    (repeat (first|(with_reducible first|refine Ja ?_|refine Jb ?_|refine Jc ?_|refine Jd ?_|refine Je ?_|refine Jf ?_|refine Jg ?_|refine Jh ?_|refine Ji ?_|refine Jj ?_|refine Jk rfl ?_|refine Jl ?_|refine Jm ?_|refine Jn ?_|refine Jo ?_|refine Jp ?_|refine Jq ?_)|refine JA rfl ?_|refine JB rfl ?_|refine JC rfl ?_|refine JD rfl ?_|refine JE rfl ?_|refine JF rfl ?_|refine JG rfl ?_|refine JH rfl ?_|refine JI rfl ?_|refine J2 rfl ?_|refine J3 rfl ?_|refine J4 rfl ?_|refine J1 rfl ?_|refine J6 rfl ?_|refine J7 rfl ?_|refine JJ rfl ?_|refine JK rfl ?_|refine JQ rfl ?_|refine JL rfl rfl ?_|refine JM rfl rfl ?_|refine JN rfl ?_|refine JO rfl ?_|refine JP rfl ?_))
    refine f_ret rfl rfl (hQ _ _ _ ?_ S)
    show Value.int .i64 _ = Value.int .i64 _
    rw [List.take_length]

theorem wal_get (s : Sec) (hs : s.length ≤ 7) : PSpec Try.prog 71 [.string ⟨⟨s⟩⟩] (.int .i64 (leN s : Int)) := by
  refine pspec_of mix Try.func71 c71_eq rfl rfl fun w F Q S hQ => ?_
  (repeat (first|(with_reducible first|refine Ja ?_|refine Jb ?_|refine Jc ?_|refine Jd ?_|refine Je ?_|refine Jf ?_|refine Jg ?_|refine Jh ?_|refine Ji ?_|refine Jj ?_|refine Jk rfl ?_|refine Jl ?_|refine Jm ?_|refine Jn ?_|refine Jo ?_|refine Jp ?_|refine Jq ?_)|refine JA rfl ?_|refine JB rfl ?_|refine JC rfl ?_|refine JD rfl ?_|refine JE rfl ?_|refine JF rfl ?_|refine JG rfl ?_|refine JH rfl ?_|refine JI rfl ?_|refine J2 rfl ?_|refine J3 rfl ?_|refine J4 rfl ?_|refine J1 rfl ?_|refine J6 rfl ?_|refine J7 rfl ?_|refine JJ rfl ?_|refine JK rfl ?_|refine JQ rfl ?_|refine JL rfl rfl ?_|refine JM rfl rfl ?_|refine JN rfl ?_|refine JO rfl ?_|refine JP rfl ?_))
  refine s_loop (σ := Nat) (fun i => [(7, .int .i64 (i : Int)), (6, .int .i64 (s.length : Int)), (3, .int .i64 (leN (s.take i) : Int)), (0, .string ⟨⟨s⟩⟩)]) (fun i w => i ≤ s.length ∧ Dn.Sep w [] F) (fun i => s.length - i) 0 ⟨rfl, rfl, rfl, rfl, trivial⟩ rfl ⟨by omega, S⟩ ?_
  rintro g i w ⟨hi, S⟩
  simp only [setL]
  (repeat (first|(with_reducible first|refine Ja ?_|refine Jb ?_|refine Jc ?_|refine Jd ?_|refine Je ?_|refine Jf ?_|refine Jg ?_|refine Jh ?_|refine Ji ?_|refine Jj ?_|refine Jk rfl ?_|refine Jl ?_|refine Jm ?_|refine Jn ?_|refine Jo ?_|refine Jp ?_|refine Jq ?_)|refine JA rfl ?_|refine JB rfl ?_|refine JC rfl ?_|refine JD rfl ?_|refine JE rfl ?_|refine JF rfl ?_|refine JG rfl ?_|refine JH rfl ?_|refine JI rfl ?_|refine J2 rfl ?_|refine J3 rfl ?_|refine J4 rfl ?_|refine J1 rfl ?_|refine J6 rfl ?_|refine J7 rfl ?_|refine JJ rfl ?_|refine JK rfl ?_|refine JQ rfl ?_|refine JL rfl rfl ?_|refine JM rfl rfl ?_|refine JN rfl ?_|refine JO rfl ?_|refine JP rfl ?_))
  refine s_iteD rfl (fun h => ?_) (fun h => ?_)
  · have hi' : i < s.length := by omega
    have hb : s[i].toNat < 256 := UInt8.toNat_lt _
    (repeat (first|(with_reducible first|refine Ja ?_|refine Jb ?_|refine Jc ?_|refine Jd ?_|refine Je ?_|refine Jf ?_|refine Jg ?_|refine Jh ?_|refine Ji ?_|refine Jj ?_|refine Jk rfl ?_|refine Jl ?_|refine Jm ?_|refine Jn ?_|refine Jo ?_|refine Jp ?_|refine Jq ?_)|refine JA rfl ?_|refine JB rfl ?_|refine JC rfl ?_|refine JD rfl ?_|refine JE rfl ?_|refine JF rfl ?_|refine JG rfl ?_|refine JH rfl ?_|refine JI rfl ?_|refine J2 rfl ?_|refine J3 rfl ?_|refine J4 rfl ?_|refine J1 rfl ?_|refine J6 rfl ?_|refine J7 rfl ?_|refine JJ rfl ?_|refine JK rfl ?_|refine JQ rfl ?_|refine JL rfl rfl ?_|refine JM rfl rfl ?_|refine JN rfl ?_|refine JO rfl ?_|refine JP rfl ?_))
    refine e_ixs (u := s[i]) rfl rfl (by omega) (by show (i : Int) < ((s.length : Nat) : Int); omega) (by simp [hi', List.getD_eq_getElem?_getD]) ?_
    refine e_p (v := .int .i64 (s[i].toNat : Int)) (congrArg (fun x => some (Value.int .i64 x)) (wrap_id (by omega) (by omega))) ?_
    (repeat (with_reducible first|refine Ja ?_|refine Jb ?_|refine Jc ?_|refine Jd ?_|refine Je ?_|refine Jf ?_|refine Jg ?_|refine Jh ?_|refine Ji ?_|refine Jj ?_|refine Jk rfl ?_|refine Jl ?_|refine Jm ?_|refine Jn ?_|refine Jo ?_|refine Jp ?_|refine Jq ?_))
    refine e_mvI rfl ?_
    refine e_mul rfl rfl (by omega) (by omega) ?_
    refine e_arv rfl rfl (ar_shl8 s[i].toNat i (by omega) hb) ?_
    refine e_arv rfl rfl (ar_or8 (leN (s.take i)) s[i].toNat i (by omega) hb (by have := leN_lt (s.take i); rw [List.length_take, Nat.min_eq_left (by omega)] at this; exact this)) ?_
    (repeat (with_reducible first|refine Ja ?_|refine Jb ?_|refine Jc ?_|refine Jd ?_|refine Je ?_|refine Jf ?_|refine Jg ?_|refine Jh ?_|refine Ji ?_|refine Jj ?_|refine Jk rfl ?_|refine Jl ?_|refine Jm ?_|refine Jn ?_|refine Jo ?_|refine Jp ?_|refine Jq ?_))
    refine e_mvI rfl ?_
    (repeat (first|(with_reducible first|refine Ja ?_|refine Jb ?_|refine Jc ?_|refine Jd ?_|refine Je ?_|refine Jf ?_|refine Jg ?_|refine Jh ?_|refine Ji ?_|refine Jj ?_|refine Jk rfl ?_|refine Jl ?_|refine Jm ?_|refine Jn ?_|refine Jo ?_|refine Jp ?_|refine Jq ?_)|refine JA rfl ?_|refine JB rfl ?_|refine JC rfl ?_|refine JD rfl ?_|refine JE rfl ?_|refine JF rfl ?_|refine JG rfl ?_|refine JH rfl ?_|refine JI rfl ?_|refine J2 rfl ?_|refine J3 rfl ?_|refine J4 rfl ?_|refine J1 rfl ?_|refine J6 rfl ?_|refine J7 rfl ?_|refine JJ rfl ?_|refine JK rfl ?_|refine JQ rfl ?_|refine JL rfl rfl ?_|refine JM rfl rfl ?_|refine JN rfl ?_|refine JO rfl ?_|refine JP rfl ?_))
    refine e_add rfl rfl (by omega) (by omega) ?_
    (repeat (first|(with_reducible first|refine Ja ?_|refine Jb ?_|refine Jc ?_|refine Jd ?_|refine Je ?_|refine Jf ?_|refine Jg ?_|refine Jh ?_|refine Ji ?_|refine Jj ?_|refine Jk rfl ?_|refine Jl ?_|refine Jm ?_|refine Jn ?_|refine Jo ?_|refine Jp ?_|refine Jq ?_)|refine JA rfl ?_|refine JB rfl ?_|refine JC rfl ?_|refine JD rfl ?_|refine JE rfl ?_|refine JF rfl ?_|refine JG rfl ?_|refine JH rfl ?_|refine JI rfl ?_|refine J2 rfl ?_|refine J3 rfl ?_|refine J4 rfl ?_|refine J1 rfl ?_|refine J6 rfl ?_|refine J7 rfl ?_|refine JJ rfl ?_|refine JK rfl ?_|refine JQ rfl ?_|refine JL rfl rfl ?_|refine JM rfl rfl ?_|refine JN rfl ?_|refine JO rfl ?_|refine JP rfl ?_))
    refine ⟨rfl, i + 1, ⟨rfl, rfl, ?_, rfl, trivial⟩, ⟨by omega, S⟩, by omega⟩
    show Value.int .i64 _ = Value.int .i64 _
    congr 2
    rw [List.take_succ_eq_append_getElem hi', leN_app, List.length_take, Nat.min_eq_left (by omega)]
    simp [leN]
  · have hi' : i = s.length := by omega
    subst hi'
    (repeat (first|(with_reducible first|refine Ja ?_|refine Jb ?_|refine Jc ?_|refine Jd ?_|refine Je ?_|refine Jf ?_|refine Jg ?_|refine Jh ?_|refine Ji ?_|refine Jj ?_|refine Jk rfl ?_|refine Jl ?_|refine Jm ?_|refine Jn ?_|refine Jo ?_|refine Jp ?_|refine Jq ?_)|refine JA rfl ?_|refine JB rfl ?_|refine JC rfl ?_|refine JD rfl ?_|refine JE rfl ?_|refine JF rfl ?_|refine JG rfl ?_|refine JH rfl ?_|refine JI rfl ?_|refine J2 rfl ?_|refine J3 rfl ?_|refine J4 rfl ?_|refine J1 rfl ?_|refine J6 rfl ?_|refine J7 rfl ?_|refine JJ rfl ?_|refine JK rfl ?_|refine JQ rfl ?_|refine JL rfl rfl ?_|refine JM rfl rfl ?_|refine JN rfl ?_|refine JO rfl ?_|refine JP rfl ?_))
    refine f_ret rfl rfl (hQ _ _ _ ?_ S)
    show Value.int .i64 _ = Value.int .i64 _
    rw [List.take_length]

theorem lite_clone (s : Sec) (h0 : s ≠ []) (hs : s.length ≤ 1000000) : PSpec Try.prog 80 [.string ⟨⟨s⟩⟩] (.string ⟨⟨s⟩⟩) := by
  refine pspec_of mix Try.func80 c80_eq rfl rfl fun w F Q S hQ => ?_
  have hpos : 0 < s.length := List.length_pos_iff.2 h0
  (repeat (first|(with_reducible first|refine Ja ?_|refine Jb ?_|refine Jc ?_|refine Jd ?_|refine Je ?_|refine Jf ?_|refine Jg ?_|refine Jh ?_|refine Ji ?_|refine Jj ?_|refine Jk rfl ?_|refine Jl ?_|refine Jm ?_|refine Jn ?_|refine Jo ?_|refine Jp ?_|refine Jq ?_)|refine JA rfl ?_|refine JB rfl ?_|refine JC rfl ?_|refine JD rfl ?_|refine JE rfl ?_|refine JF rfl ?_|refine JG rfl ?_|refine JH rfl ?_|refine JI rfl ?_|refine J2 rfl ?_|refine J3 rfl ?_|refine J4 rfl ?_|refine J1 rfl ?_|refine J6 rfl ?_|refine J7 rfl ?_|refine JJ rfl ?_|refine JK rfl ?_|refine JQ rfl ?_|refine JL rfl rfl ?_|refine JM rfl rfl ?_|refine JN rfl ?_|refine JO rfl ?_|refine JP rfl ?_))
  refine s_iteF (by show Value.bool (((s.length : Nat) : Int) == 0) = _; congr 1; simp; omega) ?_
  (repeat (first|(with_reducible first|refine Ja ?_|refine Jb ?_|refine Jc ?_|refine Jd ?_|refine Je ?_|refine Jf ?_|refine Jg ?_|refine Jh ?_|refine Ji ?_|refine Jj ?_|refine Jk rfl ?_|refine Jl ?_|refine Jm ?_|refine Jn ?_|refine Jo ?_|refine Jp ?_|refine Jq ?_)|refine JA rfl ?_|refine JB rfl ?_|refine JC rfl ?_|refine JD rfl ?_|refine JE rfl ?_|refine JF rfl ?_|refine JG rfl ?_|refine JH rfl ?_|refine JI rfl ?_|refine J2 rfl ?_|refine J3 rfl ?_|refine J4 rfl ?_|refine J1 rfl ?_|refine J6 rfl ?_|refine J7 rfl ?_|refine JJ rfl ?_|refine JK rfl ?_|refine JQ rfl ?_|refine JL rfl rfl ?_|refine JM rfl rfl ?_|refine JN rfl ?_|refine JO rfl ?_|refine JP rfl ?_))
  refine e_mksl (size := 1) (n := s.length) (u := .int .u8 0) S rfl rfl Try.underlying95 rfl rfl ⟨_, rfl, rfl⟩ hs (by decide) fun b w S => ?_
  (repeat (first|(with_reducible first|refine Ja ?_|refine Jb ?_|refine Jc ?_|refine Jd ?_|refine Je ?_|refine Jf ?_|refine Jg ?_|refine Jh ?_|refine Ji ?_|refine Jj ?_|refine Jk rfl ?_|refine Jl ?_|refine Jm ?_|refine Jn ?_|refine Jo ?_|refine Jp ?_|refine Jq ?_)|refine JA rfl ?_|refine JB rfl ?_|refine JC rfl ?_|refine JD rfl ?_|refine JE rfl ?_|refine JF rfl ?_|refine JG rfl ?_|refine JH rfl ?_|refine JI rfl ?_|refine J2 rfl ?_|refine J3 rfl ?_|refine J4 rfl ?_|refine J1 rfl ?_|refine J6 rfl ?_|refine J7 rfl ?_|refine JJ rfl ?_|refine JK rfl ?_|refine JQ rfl ?_|refine JL rfl rfl ?_|refine JM rfl rfl ?_|refine JN rfl ?_|refine JO rfl ?_|refine JP rfl ?_))
  have hsrc : Src Try.prog 1 9 (.string ⟨⟨s⟩⟩) s.length (bcells s) w := Src.ofString w Try.underlying9 ⟨⟨s⟩⟩
  refine e_copy (e := 5) (i := _) S 0 rfl rfl hsrc (Nat.le_refl _) Try.underlying95 rfl (by simp [bcells]) fun w S => ?_
  (repeat (first|(with_reducible first|refine Ja ?_|refine Jb ?_|refine Jc ?_|refine Jd ?_|refine Je ?_|refine Jf ?_|refine Jg ?_|refine Jh ?_|refine Ji ?_|refine Jj ?_|refine Jk rfl ?_|refine Jl ?_|refine Jm ?_|refine Jn ?_|refine Jo ?_|refine Jp ?_|refine Jq ?_)|refine JA rfl ?_|refine JB rfl ?_|refine JC rfl ?_|refine JD rfl ?_|refine JE rfl ?_|refine JF rfl ?_|refine JG rfl ?_|refine JH rfl ?_|refine JI rfl ?_|refine J2 rfl ?_|refine J3 rfl ?_|refine J4 rfl ?_|refine J1 rfl ?_|refine J6 rfl ?_|refine J7 rfl ?_|refine JJ rfl ?_|refine JK rfl ?_|refine JQ rfl ?_|refine JL rfl rfl ?_|refine JM rfl rfl ?_|refine JN rfl ?_|refine JO rfl ?_|refine JP rfl ?_))
  refine e_ixa rfl rfl (by omega) (by omega) ?_
  (repeat (first|(with_reducible first|refine Ja ?_|refine Jb ?_|refine Jc ?_|refine Jd ?_|refine Je ?_|refine Jf ?_|refine Jg ?_|refine Jh ?_|refine Ji ?_|refine Jj ?_|refine Jk rfl ?_|refine Jl ?_|refine Jm ?_|refine Jn ?_|refine Jo ?_|refine Jp ?_|refine Jq ?_)|refine JA rfl ?_|refine JB rfl ?_|refine JC rfl ?_|refine JD rfl ?_|refine JE rfl ?_|refine JF rfl ?_|refine JG rfl ?_|refine JH rfl ?_|refine JI rfl ?_|refine J2 rfl ?_|refine J3 rfl ?_|refine J4 rfl ?_|refine J1 rfl ?_|refine J6 rfl ?_|refine J7 rfl ?_|refine JJ rfl ?_|refine JK rfl ?_|refine JQ rfl ?_|refine JL rfl rfl ?_|refine JM rfl rfl ?_|refine JN rfl ?_|refine JO rfl ?_|refine JP rfl ?_))
  have hput : putAt (List.replicate (s.length * 1) (Value.int .u8 0)) 0 (bcells s) = bcells s := putAt_all (by simp [bcells])
  rw [hput] at S
  refine e_ustr (s := s) (cap := 0) S rfl rfl Try.underlying143 (by kernel_rfl) h0 hs fun w S => ?_
  (repeat (first|(with_reducible first|refine Ja ?_|refine Jb ?_|refine Jc ?_|refine Jd ?_|refine Je ?_|refine Jf ?_|refine Jg ?_|refine Jh ?_|refine Ji ?_|refine Jj ?_|refine Jk rfl ?_|refine Jl ?_|refine Jm ?_|refine Jn ?_|refine Jo ?_|refine Jp ?_|refine Jq ?_)|refine JA rfl ?_|refine JB rfl ?_|refine JC rfl ?_|refine JD rfl ?_|refine JE rfl ?_|refine JF rfl ?_|refine JG rfl ?_|refine JH rfl ?_|refine JI rfl ?_|refine J2 rfl ?_|refine J3 rfl ?_|refine J4 rfl ?_|refine J1 rfl ?_|refine J6 rfl ?_|refine J7 rfl ?_|refine JJ rfl ?_|refine JK rfl ?_|refine JQ rfl ?_|refine JL rfl rfl ?_|refine JM rfl rfl ?_|refine JN rfl ?_|refine JO rfl ?_|refine JP rfl ?_))
  exact f_ret rfl rfl (hQ _ _ _ rfl S)

theorem str_clone (s : Sec) (h0 : s ≠ []) (hs : s.length ≤ 1000000) : PSpec Try.prog 70 [.string ⟨⟨s⟩⟩] (.string ⟨⟨s⟩⟩) := by
  refine pspec_of mix Try.func70 c70_eq rfl rfl fun w F Q S hQ => ?_
  (repeat (first|(with_reducible first|refine Ja ?_|refine Jb ?_|refine Jc ?_|refine Jd ?_|refine Je ?_|refine Jf ?_|refine Jg ?_|refine Jh ?_|refine Ji ?_|refine Jj ?_|refine Jk rfl ?_|refine Jl ?_|refine Jm ?_|refine Jn ?_|refine Jo ?_|refine Jp ?_|refine Jq ?_)|refine JA rfl ?_|refine JB rfl ?_|refine JC rfl ?_|refine JD rfl ?_|refine JE rfl ?_|refine JF rfl ?_|refine JG rfl ?_|refine JH rfl ?_|refine JI rfl ?_|refine J2 rfl ?_|refine J3 rfl ?_|refine J4 rfl ?_|refine J1 rfl ?_|refine J6 rfl ?_|refine J7 rfl ?_|refine JJ rfl ?_|refine JK rfl ?_|refine JQ rfl ?_|refine JL rfl rfl ?_|refine JM rfl rfl ?_|refine JN rfl ?_|refine JO rfl ?_|refine JP rfl ?_))
  refine e_callP rfl (lite_clone s h0 hs) S fun w S => ?_
  (repeat (first|(with_reducible first|refine Ja ?_|refine Jb ?_|refine Jc ?_|refine Jd ?_|refine Je ?_|refine Jf ?_|refine Jg ?_|refine Jh ?_|refine Ji ?_|refine Jj ?_|refine Jk rfl ?_|refine Jl ?_|refine Jm ?_|refine Jn ?_|refine Jo ?_|refine Jp ?_|refine Jq ?_)|refine JA rfl ?_|refine JB rfl ?_|refine JC rfl ?_|refine JD rfl ?_|refine JE rfl ?_|refine JF rfl ?_|refine JG rfl ?_|refine JH rfl ?_|refine JI rfl ?_|refine J2 rfl ?_|refine J3 rfl ?_|refine J4 rfl ?_|refine J1 rfl ?_|refine J6 rfl ?_|refine J7 rfl ?_|refine JJ rfl ?_|refine JK rfl ?_|refine JQ rfl ?_|refine JL rfl rfl ?_|refine JM rfl rfl ?_|refine JN rfl ?_|refine JO rfl ?_|refine JP rfl ?_))
  exact f_ret rfl rfl (hQ _ _ _ rfl S)

theorem wal_put (ad : Option Addr) (n cap v k : Nat) (s : Sec) (Lb : List (Nat × Obj)) (hO : OwnB ad n cap s Lb) (hv : v < 9223372036854775808) (hn : n + k ≤ 100000) :
    DSpec Try.prog 53 [.slice ad n cap, .int .i64 (v : Int), .int .i64 (k : Int)] Lb fun u L' => ∃ ad' cap', u = .slice ad' (n + k) cap' ∧ OwnB ad' (n + k) cap' (s ++ leB k v) L' := by
  refine spec_of mix Try.func53 c53_eq rfl rfl fun w F Q S hQ => ?_
  (repeat (first|(with_reducible first|refine Ja ?_|refine Jb ?_|refine Jc ?_|refine Jd ?_|refine Je ?_|refine Jf ?_|refine Jg ?_|refine Jh ?_|refine Ji ?_|refine Jj ?_|refine Jk rfl ?_|refine Jl ?_|refine Jm ?_|refine Jn ?_|refine Jo ?_|refine Jp ?_|refine Jq ?_)|refine JA rfl ?_|refine JB rfl ?_|refine JC rfl ?_|refine JD rfl ?_|refine JE rfl ?_|refine JF rfl ?_|refine JG rfl ?_|refine JH rfl ?_|refine JI rfl ?_|refine J2 rfl ?_|refine J3 rfl ?_|refine J4 rfl ?_|refine J1 rfl ?_|refine J6 rfl ?_|refine J7 rfl ?_|refine JJ rfl ?_|refine JK rfl ?_|refine JQ rfl ?_|refine JL rfl rfl ?_|refine JM rfl rfl ?_|refine JN rfl ?_|refine JO rfl ?_|refine JP rfl ?_))
  refine s_loop (σ := Nat × Option Addr × Nat × List (Nat × Obj)) (fun t => [(8, .int .i64 (t.1 : Int)), (7, .int .i64 (k : Int)), (0, .slice t.2.1 (n + t.1) t.2.2.1), (1, .int .i64 ((v / 256 ^ t.1 : Nat) : Int))])
    (fun t w => t.1 ≤ k ∧ OwnB t.2.1 (n + t.1) t.2.2.1 (s ++ leB t.1 v) t.2.2.2 ∧ Dn.Sep w t.2.2.2 F) (fun t => k - t.1) (0, ad, cap, Lb) ⟨rfl, rfl, rfl, ?_, trivial⟩ rfl ⟨by simp, by simpa [leB] using hO, S⟩ ?_
  · show Value.int .i64 _ = Value.int .i64 _
    simp
  rintro g ⟨j, ad, cap, Lb⟩ w ⟨hj, hO, S⟩
  simp only [setL] at hj hO S ⊢
  (repeat (first|(with_reducible first|refine Ja ?_|refine Jb ?_|refine Jc ?_|refine Jd ?_|refine Je ?_|refine Jf ?_|refine Jg ?_|refine Jh ?_|refine Ji ?_|refine Jj ?_|refine Jk rfl ?_|refine Jl ?_|refine Jm ?_|refine Jn ?_|refine Jo ?_|refine Jp ?_|refine Jq ?_)|refine JA rfl ?_|refine JB rfl ?_|refine JC rfl ?_|refine JD rfl ?_|refine JE rfl ?_|refine JF rfl ?_|refine JG rfl ?_|refine JH rfl ?_|refine JI rfl ?_|refine J2 rfl ?_|refine J3 rfl ?_|refine J4 rfl ?_|refine J1 rfl ?_|refine J6 rfl ?_|refine J7 rfl ?_|refine JJ rfl ?_|refine JK rfl ?_|refine JQ rfl ?_|refine JL rfl rfl ?_|refine JM rfl rfl ?_|refine JN rfl ?_|refine JO rfl ?_|refine JP rfl ?_))
  refine s_iteD rfl (fun h => ?_) (fun h => ?_)
  · have hq : v / 256 ^ j < 9223372036854775808 := Nat.lt_of_le_of_lt (Nat.div_le_self _ _) hv
    (repeat (first|(with_reducible first|refine Ja ?_|refine Jb ?_|refine Jc ?_|refine Jd ?_|refine Je ?_|refine Jf ?_|refine Jg ?_|refine Jh ?_|refine Ji ?_|refine Jj ?_|refine Jk rfl ?_|refine Jl ?_|refine Jm ?_|refine Jn ?_|refine Jo ?_|refine Jp ?_|refine Jq ?_)|refine JA rfl ?_|refine JB rfl ?_|refine JC rfl ?_|refine JD rfl ?_|refine JE rfl ?_|refine JF rfl ?_|refine JG rfl ?_|refine JH rfl ?_|refine JI rfl ?_|refine J2 rfl ?_|refine J3 rfl ?_|refine J4 rfl ?_|refine J1 rfl ?_|refine J6 rfl ?_|refine J7 rfl ?_|refine JJ rfl ?_|refine JK rfl ?_|refine JQ rfl ?_|refine JL rfl rfl ?_|refine JM rfl rfl ?_|refine JN rfl ?_|refine JO rfl ?_|refine JP rfl ?_))
    refine e_push (L := []) S hO (bv_wrap (v / 256 ^ j)) (fun _ => rfl) (fun _ => rfl) (by omega) fun _ ad' cap' Lb' w hO' S => ?_
    (repeat (with_reducible first|refine Ja ?_|refine Jb ?_|refine Jc ?_|refine Jd ?_|refine Je ?_|refine Jf ?_|refine Jg ?_|refine Jh ?_|refine Ji ?_|refine Jj ?_|refine Jk rfl ?_|refine Jl ?_|refine Jm ?_|refine Jn ?_|refine Jo ?_|refine Jp ?_|refine Jq ?_))
    refine e_mvL rfl ?_
    (repeat (with_reducible first|refine Ja ?_|refine Jb ?_|refine Jc ?_|refine Jd ?_|refine Je ?_|refine Jf ?_|refine Jg ?_|refine Jh ?_|refine Ji ?_|refine Jj ?_|refine Jk rfl ?_|refine Jl ?_|refine Jm ?_|refine Jn ?_|refine Jo ?_|refine Jp ?_|refine Jq ?_))
    refine e_mvI rfl ?_
    refine e_arv rfl rfl (ar_shr8 .i64 _ (by decide)) ?_
    (repeat (with_reducible first|refine Ja ?_|refine Jb ?_|refine Jc ?_|refine Jd ?_|refine Je ?_|refine Jf ?_|refine Jg ?_|refine Jh ?_|refine Ji ?_|refine Jj ?_|refine Jk rfl ?_|refine Jl ?_|refine Jm ?_|refine Jn ?_|refine Jo ?_|refine Jp ?_|refine Jq ?_))
    refine e_mvI rfl ?_
    (repeat (first|(with_reducible first|refine Ja ?_|refine Jb ?_|refine Jc ?_|refine Jd ?_|refine Je ?_|refine Jf ?_|refine Jg ?_|refine Jh ?_|refine Ji ?_|refine Jj ?_|refine Jk rfl ?_|refine Jl ?_|refine Jm ?_|refine Jn ?_|refine Jo ?_|refine Jp ?_|refine Jq ?_)|refine JA rfl ?_|refine JB rfl ?_|refine JC rfl ?_|refine JD rfl ?_|refine JE rfl ?_|refine JF rfl ?_|refine JG rfl ?_|refine JH rfl ?_|refine JI rfl ?_|refine J2 rfl ?_|refine J3 rfl ?_|refine J4 rfl ?_|refine J1 rfl ?_|refine J6 rfl ?_|refine J7 rfl ?_|refine JJ rfl ?_|refine JK rfl ?_|refine JQ rfl ?_|refine JL rfl rfl ?_|refine JM rfl rfl ?_|refine JN rfl ?_|refine JO rfl ?_|refine JP rfl ?_))
    refine e_add rfl rfl (by omega) (by omega) ?_
    (repeat (first|(with_reducible first|refine Ja ?_|refine Jb ?_|refine Jc ?_|refine Jd ?_|refine Je ?_|refine Jf ?_|refine Jg ?_|refine Jh ?_|refine Ji ?_|refine Jj ?_|refine Jk rfl ?_|refine Jl ?_|refine Jm ?_|refine Jn ?_|refine Jo ?_|refine Jp ?_|refine Jq ?_)|refine JA rfl ?_|refine JB rfl ?_|refine JC rfl ?_|refine JD rfl ?_|refine JE rfl ?_|refine JF rfl ?_|refine JG rfl ?_|refine JH rfl ?_|refine JI rfl ?_|refine J2 rfl ?_|refine J3 rfl ?_|refine J4 rfl ?_|refine J1 rfl ?_|refine J6 rfl ?_|refine J7 rfl ?_|refine JJ rfl ?_|refine JK rfl ?_|refine JQ rfl ?_|refine JL rfl rfl ?_|refine JM rfl rfl ?_|refine JN rfl ?_|refine JO rfl ?_|refine JP rfl ?_))
    refine ⟨rfl, (j + 1, ad', cap', Lb'), ⟨rfl, rfl, rfl, ?_, trivial⟩, ⟨by simp; omega, ?_, S⟩, by simp; omega⟩
    · show Value.int .i64 _ = Value.int .i64 _
      simp only [Nat.pow_succ, Nat.div_div_eq_div_mul]
    · simp only [leB_succ, ← List.append_assoc]
      exact hO'
  · have hj' : j = k := by omega
    subst hj'
    (repeat (first|(with_reducible first|refine Ja ?_|refine Jb ?_|refine Jc ?_|refine Jd ?_|refine Je ?_|refine Jf ?_|refine Jg ?_|refine Jh ?_|refine Ji ?_|refine Jj ?_|refine Jk rfl ?_|refine Jl ?_|refine Jm ?_|refine Jn ?_|refine Jo ?_|refine Jp ?_|refine Jq ?_)|refine JA rfl ?_|refine JB rfl ?_|refine JC rfl ?_|refine JD rfl ?_|refine JE rfl ?_|refine JF rfl ?_|refine JG rfl ?_|refine JH rfl ?_|refine JI rfl ?_|refine J2 rfl ?_|refine J3 rfl ?_|refine J4 rfl ?_|refine J1 rfl ?_|refine J6 rfl ?_|refine J7 rfl ?_|refine JJ rfl ?_|refine JK rfl ?_|refine JQ rfl ?_|refine JL rfl rfl ?_|refine JM rfl rfl ?_|refine JN rfl ?_|refine JO rfl ?_|refine JP rfl ?_))
    exact f_ret rfl rfl (hQ _ _ _ ⟨ad, cap, rfl, hO⟩ S)

end Go.Proofs.Ytgendpinmmmfjaa
