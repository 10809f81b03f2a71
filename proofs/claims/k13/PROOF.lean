import PyProof.Rows.All
import Wide.All
import OpenK.AllK
import Wide.FinOn
import HandS.ForMost
import HandS.Exc
import HandS.TryOnly
import HandS.ExcOwn
import HandS.WordsExc
import HandS.ExcIs
import HandS.IsInst
import HandS.ExcCtx
import HandS.HotCalls
import HandS.Style
import HandS.Small
import PyProof.StrBlock2
import PyProof.Rows.StrMul
import HandS.Strs
import HandS.TupLe
import PySem.Challenge.RW_farebreak_k13_no_journeys
set_option Elab.async false
set_option linter.all false
set_option maxRecDepth 100000
/-! # A calculus of values (written for this claim)
Python values are told as plain data D; a slot of a def tells what its value is and who may change it; an expression is a function of the slots to a result. -/
namespace DD
open PySem L2N
open L2 hiding XE Takes CX takes_of passes_call MkP PMk ps_raise mk_of ps_try_as pmk_own passAt

/-- the program's own exception classes -/
inductive Ex where
  | place | price | twice | many | journey | cuts | held | parting | line
  deriving DecidableEq

/-- what a dict holds at a key -/
inductive Sc where
  | bl (b : Bool) | int (i : Int)
  deriving DecidableEq
def Sc.v : Sc → V
  | .bl b => .bl b
  | .int i => .int i

/-- plain data -/
inductive D where
  | non | bl (b : Bool) | int (i : Int) | str (s : Str)
  | lst (xs : List D) | tup (xs : List D)
  | dt (kvs : List (List Key × Sc)) | dk (kvs : List (Key × Sc))
  | scr (ns : List Int)
  | tar (rows : List (Str × Str × Int))
def Sc.d : Sc → D
  | .bl b => .bl b
  | .int i => .int i

/-- what is fixed through a law: the written part, the class Tariff, the exceptions' classes -/
structure Par where
  K : PySem.W.Frag
  C : Addr
  cx : Ex → Addr

def fRows : Str := "rows"
def fTable : Str := "table"

/-- a tariff's row, as values -/
def RowsAt (F : Hp) : List V → List (Str × Str × Int) → Prop
  | [], [] => True
  | v :: vs, r :: rs => (∃ q, v = .ref q ∧ F q = some (.tup [.str r.1, .str r.2.1, .int r.2.2])) ∧ RowsAt F vs rs
  | _, _ => False
def rowsKv (rows : List (Str × Str × Int)) : List (List Key × V) := rows.map fun r => ([.inr r.1, .inr r.2.1], .int r.2.2)
/-- a Tariff stands at p -/
structure TarAt (C : Addr) (F : Hp) (p dx l t : Addr) (vs : List V) (rows : List (Str × Str × Int)) : Prop where
  ins : F p = some (.ins C dx [(fRows, .ref l), (fTable, .ref t)])
  own : F dx = some (.own p)
  lst : F l = some (.lst vs)
  tab : F t = some (.dT (rowsKv rows))
  rws : RowsAt F vs rows

mutual
def Rep (T : Par) (F : Hp) : V → D → Prop
  | v, .non => v = .non
  | v, .bl b => v = .bl b
  | v, .int i => v = .int i
  | v, .str s => v = .str s
  | v, .lst ds => ∃ p vs, v = .ref p ∧ F p = some (.lst vs) ∧ Reps T F vs ds
  | v, .tup ds => ∃ p vs, v = .ref p ∧ F p = some (.tup vs) ∧ Reps T F vs ds
  | v, .dt kvs => ∃ p, v = .ref p ∧ F p = some (.dT (kvs.map fun kv => (kv.1, kv.2.v)))
  | v, .dk kvs => ∃ p, v = .ref p ∧ F p = some (.dK (kvs.map fun kv => (kv.1, kv.2.v)))
  | v, .scr ns => ∃ p, v = .ref p ∧ SqL T.K F p (ns.map V.int)
  | v, .tar rows => ∃ p dx l t vs, v = .ref p ∧ TarAt T.C F p dx l t vs rows
def Reps (T : Par) (F : Hp) : List V → List D → Prop
  | [], [] => True
  | v :: vs, d :: ds => Rep T F v d ∧ Reps T F vs ds
  | [], _ :: _ => False
  | _ :: _, [] => False
end

theorem RowsAt.mono {F F' : Hp} (e : Same F F') : ∀ {vs rows}, RowsAt F vs rows → RowsAt F' vs rows
  | [], [], h => trivial
  | v :: vs, r :: rs, h => by
    obtain ⟨⟨q, h1, h2⟩, h3⟩ := h
    exact ⟨⟨q, h1, e _ _ h2⟩, RowsAt.mono e h3⟩
  | [], _ :: _, h => h.elim
  | _ :: _, [], h => h.elim
theorem TarAt.mono {C : Addr} {F F' : Hp} {p dx l t : Addr} {vs : List V} {rows : List (Str × Str × Int)} (e : Same F F') (h : TarAt C F p dx l t vs rows) : TarAt C F' p dx l t vs rows :=
  ⟨e _ _ h.ins, e _ _ h.own, e _ _ h.lst, e _ _ h.tab, h.rws.mono e⟩
mutual
theorem Rep.mono {T : Par} {F F' : Hp} (e : Same F F') : ∀ {v : V} {d : D}, Rep T F v d → Rep T F' v d
  | v, .non, h => by simpa [Rep] using h
  | v, .bl b, h => by simpa [Rep] using h
  | v, .int i, h => by simpa [Rep] using h
  | v, .str s, h => by simpa [Rep] using h
  | v, .lst ds, h => by
    rw [Rep] at h ⊢
    obtain ⟨p, vs, h1, h2, h3⟩ := h
    exact ⟨p, vs, h1, e _ _ h2, Reps.mono e h3⟩
  | v, .tup ds, h => by
    rw [Rep] at h ⊢
    obtain ⟨p, vs, h1, h2, h3⟩ := h
    exact ⟨p, vs, h1, e _ _ h2, Reps.mono e h3⟩
  | v, .dt kvs, h => by
    rw [Rep] at h ⊢
    obtain ⟨p, h1, h2⟩ := h
    exact ⟨p, h1, e _ _ h2⟩
  | v, .dk kvs, h => by
    rw [Rep] at h ⊢
    obtain ⟨p, h1, h2⟩ := h
    exact ⟨p, h1, e _ _ h2⟩
  | v, .scr ns, h => by
    rw [Rep] at h ⊢
    obtain ⟨p, h1, h2⟩ := h
    exact ⟨p, h1, e.seq h2⟩
  | v, .tar rows, h => by
    rw [Rep] at h ⊢
    obtain ⟨p, dx, l, t, vs, h1, h2⟩ := h
    exact ⟨p, dx, l, t, vs, h1, h2.mono e⟩
theorem Reps.mono {T : Par} {F F' : Hp} (e : Same F F') : ∀ {vs : List V} {ds : List D}, Reps T F vs ds → Reps T F' vs ds
  | [], [], h => by simp [Reps]
  | v :: vs, d :: ds, h => by
    rw [Reps] at h ⊢
    exact ⟨Rep.mono e h.1, Reps.mono e h.2⟩
  | [], _ :: _, h => by simp [Reps] at h
  | _ :: _, [], h => by simp [Reps] at h
end

mutual
/-- data in which nothing can be changed -/
def imm : D → Bool
  | .non => true
  | .bl _ => true
  | .int _ => true
  | .str _ => true
  | .tup ds => imms ds
  | .lst _ => false
  | .dt _ => false
  | .dk _ => false
  | .scr _ => false
  | .tar _ => false
def imms : List D → Bool
  | [] => true
  | d :: ds => imm d && imms ds
end
def isTup (o : HO) : Prop := ∃ xs, o = .tup xs
/-- the tuples of a heap -/
def tuF (F : Hp) : Hp := fun a => match F a with
  | some (.tup xs) => some (.tup xs)
  | _ => none
theorem tuF_some {F : Hp} {a : Addr} {xs : List V} (h : F a = some (.tup xs)) : tuF F a = some (.tup xs) := by
  unfold tuF; rw [h]
theorem tuF_inv {F : Hp} {a : Addr} {o : HO} (h : tuF F a = some o) : F a = some o ∧ isTup o := by
  unfold tuF at h
  split at h
  · rename_i xs e
    cases h
    exact ⟨e, _, rfl⟩
  · cases h
theorem tuF_same (F : Hp) : Same (tuF F) F := fun _ _ h => (tuF_inv h).1
mutual
theorem Rep.imm {T : Par} {F : Hp} : ∀ {v : V} {d : D}, imm d = true → Rep T F v d → Rep T (tuF F) v d
  | v, .non, _, h => by simpa [Rep] using h
  | v, .bl b, _, h => by simpa [Rep] using h
  | v, .int i, _, h => by simpa [Rep] using h
  | v, .str s, _, h => by simpa [Rep] using h
  | v, .tup ds, i, h => by
    rw [Rep] at h ⊢
    rw [DD.imm] at i
    obtain ⟨p, vs, h1, h2, h3⟩ := h
    exact ⟨p, vs, h1, tuF_some h2, Reps.imm i h3⟩
  | v, .lst ds, i, h => by simp [DD.imm] at i
  | v, .dt kvs, i, h => by simp [DD.imm] at i
  | v, .dk kvs, i, h => by simp [DD.imm] at i
  | v, .scr ns, i, h => by simp [DD.imm] at i
  | v, .tar rows, i, h => by simp [DD.imm] at i
theorem Reps.imm {T : Par} {F : Hp} : ∀ {vs : List V} {ds : List D}, imms ds = true → Reps T F vs ds → Reps T (tuF F) vs ds
  | [], [], _, h => by simp [Reps]
  | v :: vs, d :: ds, i, h => by
    rw [Reps] at h ⊢
    rw [imms, Bool.and_eq_true] at i
    exact ⟨Rep.imm i.1 h.1, Reps.imm i.2 h.2⟩
  | [], _ :: _, _, h => by simp [Reps] at h
  | _ :: _, [], _, h => by simp [Reps] at h
end
theorem Reps.length {T : Par} {F : Hp} : ∀ {vs : List V} {ds : List D}, Reps T F vs ds → vs.length = ds.length
  | [], [], h => rfl
  | v :: vs, d :: ds, h => by
    rw [Reps] at h
    simp [Reps.length h.2]
  | [], _ :: _, h => by simp [Reps] at h
  | _ :: _, [], h => by simp [Reps] at h
theorem Reps.get {T : Par} {F : Hp} : ∀ {vs : List V} {ds : List D} {i : Nat} {d : D}, Reps T F vs ds → ds[i]? = some d → ∃ v, vs[i]? = some v ∧ Rep T F v d
  | [], [], i, d, h, e => by simp at e
  | v :: vs, d :: ds, 0, d', h, e => by
    rw [Reps] at h
    simp at e
    subst e
    exact ⟨v, rfl, h.1⟩
  | v :: vs, d :: ds, i + 1, d', h, e => by
    rw [Reps] at h
    obtain ⟨w, h1, h2⟩ := Reps.get h.2 (by simpa using e)
    exact ⟨w, by simpa using h1, h2⟩
  | [], _ :: _, _, _, h, e => by simp [Reps] at h
  | _ :: _, [], _, _, h, e => by simp [Reps] at h
theorem Reps.getV {T : Par} {F : Hp} {vs : List V} {ds : List D} {i : Nat} {v : V} (h : Reps T F vs ds) (e : vs[i]? = some v) : ∃ d, ds[i]? = some d ∧ Rep T F v d := by
  have hl := h.length
  have hi : i < ds.length := by rw [← hl]; exact (List.getElem?_eq_some_iff.mp e).1
  obtain ⟨w, h1, h2⟩ := h.get (List.getElem?_eq_getElem hi)
  rw [e] at h1
  cases h1
  exact ⟨_, List.getElem?_eq_getElem hi, h2⟩
theorem Reps.append {T : Par} {F : Hp} : ∀ {vs ws : List V} {ds es : List D}, Reps T F vs ds → Reps T F ws es → Reps T F (vs ++ ws) (ds ++ es)
  | [], _, [], _, _, h => h
  | v :: vs, ws, d :: ds, es, h, k => by
    rw [Reps] at h
    show Reps T F (v :: (vs ++ ws)) (d :: (ds ++ es))
    rw [Reps]
    exact ⟨h.1, Reps.append h.2 k⟩
  | [], _, _ :: _, _, h, _ => by simp [Reps] at h
  | _ :: _, _, [], _, h, _ => by simp [Reps] at h
theorem Reps.take {T : Par} {F : Hp} : ∀ (n : Nat) {vs : List V} {ds : List D}, Reps T F vs ds → Reps T F (vs.take n) (ds.take n)
  | 0, vs, ds, _ => by simp [Reps]
  | n + 1, [], [], _ => by simp [Reps]
  | n + 1, v :: vs, d :: ds, h => by
    rw [Reps] at h
    simp only [List.take_succ_cons]
    rw [Reps]
    exact ⟨h.1, Reps.take n h.2⟩
  | _ + 1, [], _ :: _, h => by simp [Reps] at h
  | _ + 1, _ :: _, [], h => by simp [Reps] at h
theorem Reps.drop {T : Par} {F : Hp} : ∀ (n : Nat) {vs : List V} {ds : List D}, Reps T F vs ds → Reps T F (vs.drop n) (ds.drop n)
  | 0, vs, ds, h => by simpa using h
  | n + 1, [], [], _ => by simp [Reps]
  | n + 1, v :: vs, d :: ds, h => by
    rw [Reps] at h
    simp only [List.drop_succ_cons]
    exact Reps.drop n h.2
  | _ + 1, [], _ :: _, h => by simp [Reps] at h
  | _ + 1, _ :: _, [], h => by simp [Reps] at h
theorem Reps.set {T : Par} {F : Hp} {v : V} {d : D} (r : Rep T F v d) : ∀ (n : Nat) {vs : List V} {ds : List D}, Reps T F vs ds → Reps T F (vs.set n v) (ds.set n d)
  | _, [], [], _ => by simp [Reps]
  | 0, w :: vs, e :: ds, h => by
    rw [Reps] at h
    simp only [List.set_cons_zero]
    rw [Reps]
    exact ⟨r, h.2⟩
  | n + 1, w :: vs, e :: ds, h => by
    rw [Reps] at h
    simp only [List.set_cons_succ]
    rw [Reps]
    exact ⟨h.1, Reps.set r n h.2⟩
  | _, [], _ :: _, h => by simp [Reps] at h
  | _, _ :: _, [], h => by simp [Reps] at h
theorem Reps.reverse {T : Par} {F : Hp} : ∀ {vs : List V} {ds : List D}, Reps T F vs ds → Reps T F vs.reverse ds.reverse
  | [], [], _ => by simp [Reps]
  | v :: vs, d :: ds, h => by
    rw [Reps] at h
    simp only [List.reverse_cons]
    exact (Reps.reverse h.2).append (by simp [Reps, h.1])
  | [], _ :: _, h => by simp [Reps] at h
  | _ :: _, [], h => by simp [Reps] at h
theorem Reps.ints {T : Par} {F : Hp} : ∀ {vs : List V} {ns : List Int}, Reps T F vs (ns.map D.int) → vs = ns.map V.int
  | [], [], _ => rfl
  | v :: vs, n :: ns, h => by
    simp only [List.map_cons, Reps, Rep] at h
    obtain ⟨rfl, h⟩ := h
    rw [Reps.ints h]
    rfl
  | [], _ :: _, h => by simp [Reps] at h
  | _ :: _, [], h => by simp [Reps] at h
theorem Reps.strs {T : Par} {F : Hp} : ∀ {vs : List V} {ns : List Str}, Reps T F vs (ns.map D.str) → vs = ns.map V.str
  | [], [], _ => rfl
  | v :: vs, n :: ns, h => by
    simp only [List.map_cons, Reps, Rep] at h
    obtain ⟨rfl, h⟩ := h
    rw [Reps.strs h]
    rfl
  | [], _ :: _, h => by simp [Reps] at h
  | _ :: _, [], h => by simp [Reps] at h
theorem Reps.bls {T : Par} {F : Hp} : ∀ {vs : List V} {ns : List Bool}, Reps T F vs (ns.map D.bl) → vs = ns.map V.bl
  | [], [], _ => rfl
  | v :: vs, n :: ns, h => by
    simp only [List.map_cons, Reps, Rep] at h
    obtain ⟨rfl, h⟩ := h
    rw [Reps.bls h]
    rfl
  | [], _ :: _, h => by simp [Reps] at h
  | _ :: _, [], h => by simp [Reps] at h
theorem Reps.of_ints {T : Par} {F : Hp} : ∀ (ns : List Int), Reps T F (ns.map V.int) (ns.map D.int)
  | [] => by simp [Reps]
  | n :: ns => by
    simp only [List.map_cons, Reps, Rep]
    exact ⟨trivial, Reps.of_ints ns⟩
theorem Reps.of_strs {T : Par} {F : Hp} : ∀ (ns : List Str), Reps T F (ns.map V.str) (ns.map D.str)
  | [] => by simp [Reps]
  | n :: ns => by
    simp only [List.map_cons, Reps, Rep]
    exact ⟨trivial, Reps.of_strs ns⟩
theorem RowsAt.length {F : Hp} : ∀ {vs : List V} {rows}, RowsAt F vs rows → vs.length = rows.length
  | [], [], _ => rfl
  | v :: vs, r :: rs, h => by
    simp [RowsAt.length h.2]
  | [], _ :: _, h => h.elim
  | _ :: _, [], h => h.elim
/-- a row as data -/
def rowD (r : Str × Str × Int) : D := .tup [.str r.1, .str r.2.1, .int r.2.2]
theorem RowsAt.reps {T : Par} {F : Hp} : ∀ {vs : List V} {rows}, RowsAt F vs rows → Reps T F vs (rows.map rowD)
  | [], [], _ => by simp [Reps]
  | v :: vs, r :: rs, h => by
    obtain ⟨⟨q, h1, h2⟩, h3⟩ := h
    simp only [List.map_cons, Reps]
    refine ⟨?_, RowsAt.reps h3⟩
    rw [rowD, Rep]
    exact ⟨q, _, h1, h2, by simp [Reps, Rep]⟩
  | [], _ :: _, h => h.elim
  | _ :: _, [], h => h.elim
theorem RowsAt.of_reps {T : Par} {F : Hp} : ∀ {vs : List V} {rows}, Reps T F vs (rows.map rowD) → RowsAt F vs rows
  | [], [], _ => trivial
  | v :: vs, r :: rs, h => by
    simp only [List.map_cons, Reps] at h
    obtain ⟨h1, h2⟩ := h
    rw [rowD, Rep] at h1
    obtain ⟨q, ws, e1, e2, e3⟩ := h1
    refine ⟨⟨q, e1, ?_⟩, RowsAt.of_reps h2⟩
    rw [e2]
    match ws, e3 with
    | [a, b, c], e3 =>
      simp only [Reps, Rep] at e3
      obtain ⟨rfl, rfl, rfl, _⟩ := e3
      rfl
    | [], e3 => simp [Reps] at e3
    | [a], e3 => simp [Reps] at e3
    | [a, b], e3 => simp [Reps] at e3
    | a :: b :: c :: d :: r, e3 => simp [Reps] at e3
  | [], _ :: _, h => by simp [Reps] at h
  | _ :: _, [], h => by simp [Reps] at h

end DD

set_option maxRecDepth 100000
namespace DD
open PySem L2N
open L2 hiding XE Takes CX takes_of passes_call MkP PMk ps_raise mk_of ps_try_as pmk_own passAt

/-- how a result is held: any: nothing known; bw: stands in the arguments' heap; st: may be shared; tp: a new top cell over shared ones; dp: all its cells are new -/
inductive Kd where
  | any | bw | st | tp | dp
  deriving DecidableEq
/-- what a slot holds: nothing known; shared; borrowed; its own top cell; all its own; in a comprehension: anything; an exception -/
inductive Slot where
  | un | sh (d : D) | bo (d : D) | ow (d : D) | dp (d : D) | an (d : D) | ex (c : Ex)
abbrev Dl := List Slot
inductive Res where
  | ok (d : D) (k : Kd) | er (c : Ex) | no
/-- the handled exception of an except suite -/
structure Hd where
  hx : Addr
  hc : Value
  hd : Option Addr

structure Grow (F H F' H' : Hp) : Prop where
  ff : Same F F'
  hh : Same H H'
  fh : Same F' H'
  nw : ∀ a o, F' a = some o → F a = some o ∨ H a = none ∨ isTup o
theorem Grow.refl {F H : Hp} (h : Same F H) : Grow F H F H := ⟨Same.refl _, Same.refl _, h, fun _ _ e => .inl e⟩
theorem Grow.trans {F H F1 H1 F2 H2 : Hp} (a : Grow F H F1 H1) (b : Grow F1 H1 F2 H2) : Grow F H F2 H2 :=
  ⟨a.ff.trans b.ff, a.hh.trans b.hh, b.fh, fun x o e => by
    rcases b.nw x o e with h | h | h
    · exact a.nw x o h
    · exact .inr (.inl (a.hh.free h))
    · exact .inr (.inr h)⟩
theorem upd_sameN {H : Hp} {p : Addr} {o : HO} (h : H p = none) : Same H (upd H p o) := fun b u e => by
  rw [upd_ne (ne_of_none e h)]; exact e
theorem upd_mono {F H : Hp} {p : Addr} {o : HO} (h : Same F H) : Same (upd F p o) (upd H p o) := fun b u e => by
  by_cases hb : b = p
  · subst hb; rw [upd_same] at e ⊢; exact e
  · rw [upd_ne hb] at e ⊢; exact h _ _ e
/-- a new cell that stays out of the shared heap -/
theorem Grow.cell {F H : Hp} {p : Addr} {o : HO} (h : Same F H) (hp : H p = none) : Grow F H F (upd H p o) :=
  ⟨Same.refl _, upd_sameN hp, h.trans (upd_sameN hp), fun _ _ e => .inl e⟩
/-- a new cell, shared -/
theorem Grow.cellF {F H : Hp} {p : Addr} {o : HO} (h : Same F H) (hp : H p = none) : Grow F H (upd F p o) (upd H p o) :=
  ⟨upd_sameN (h.free hp), upd_sameN hp, upd_mono h, fun b u e => by
    by_cases hb : b = p
    · subst hb; exact .inr (.inl hp)
    · rw [upd_ne hb] at e; exact .inl e⟩
/-- two heaps as one -/
def hun (F G : Hp) : Hp := fun a => match F a with
  | some o => some o
  | none => G a
theorem hun_l {F G : Hp} : Same F (hun F G) := fun a o e => by unfold hun; rw [e]
theorem hun_r {F G H : Hp} (hF : Same F H) (hG : Same G H) : Same G (hun F G) := fun a o e => by
  unfold hun
  cases h : F a with
  | none => exact e
  | some u =>
    have h1 := hF a u h
    rw [hG a o e] at h1
    exact h1.symm
theorem hun_in {F G H : Hp} (hF : Same F H) (hG : Same G H) : Same (hun F G) H := fun a o e => by
  unfold hun at e
  split at e
  · rename_i u h
    cases e
    exact hF _ _ h
  · exact hG _ _ e
theorem hun_inv {F G : Hp} {a : Addr} {o : HO} (e : hun F G a = some o) : F a = some o ∨ G a = some o := by
  unfold hun at e
  split at e
  · rename_i u h
    cases e
    exact .inl h
  · exact .inr e
/-- tuples may always be shared -/
theorem Grow.tups {F H : Hp} (h : Same F H) : Grow F H (hun F (tuF H)) H :=
  ⟨hun_l, Same.refl _, hun_in h (tuF_same H), fun a o e => by
    rcases hun_inv e with e | e
    · exact .inl e
    · exact .inr (.inr (tuF_inv e).2)⟩
/-- shared: what is new -/
theorem Grow.take {F H H' G : Hp} (h : Same F H) (hh : Same H H') (hG : Same G H') (hn : ∀ a o, G a = some o → isTup o ∨ H a = none) : Grow F H (hun F G) H' :=
  ⟨hun_l, hh, hun_in (h.trans hh) hG, fun a o e => by
    rcases hun_inv e with e | e
    · exact .inl e
    · rcases hn a o e with t | t
      · exact .inr (.inr t)
      · exact .inr (.inl t)⟩

/-- a list, a dict at its own cell p -/
def OwnTop (T : Par) (F H : Hp) (p : Addr) : D → Prop
  | .lst ds => ∃ vs, H p = some (.lst vs) ∧ Reps T F vs ds
  | .dt kvs => H p = some (.dT (kvs.map fun kv => (kv.1, kv.2.v)))
  | .dk kvs => H p = some (.dK (kvs.map fun kv => (kv.1, kv.2.v)))
  | _ => False
theorem OwnTop.cell {T : Par} {F H : Hp} {p : Addr} {d : D} (h : OwnTop T F H p d) : ∃ o, H p = some o ∧ ¬ isTup o := by
  cases d with
  | lst ds => obtain ⟨vs, h, _⟩ := h; exact ⟨_, h, fun ⟨_, z⟩ => nomatch z⟩
  | dt kvs => exact ⟨_, h, fun ⟨_, z⟩ => nomatch z⟩
  | dk kvs => exact ⟨_, h, fun ⟨_, z⟩ => nomatch z⟩
  | _ => exact h.elim
theorem OwnTop.mono {T : Par} {F H F' H' : Hp} {p : Addr} {d : D} (hF : Same F F') (hH : H' p = H p) (h : OwnTop T F H p d) : OwnTop T F' H' p d := by
  cases d with
  | lst ds => obtain ⟨vs, h, r⟩ := h; exact ⟨vs, hH.trans h, r.mono hF⟩
  | dt kvs => exact hH.trans h
  | dk kvs => exact hH.trans h
  | _ => exact h.elim
/-- over any heap in which both stand -/
theorem OwnTop.rep {T : Par} {F H G : Hp} {p : Addr} {d : D} (h : OwnTop T F H p d) (hF : Same F G) (hp : G p = H p) : Rep T G (.ref p) d := by
  cases d with
  | lst ds =>
    obtain ⟨vs, h, r⟩ := h
    rw [Rep]
    exact ⟨p, vs, rfl, hp.trans h, r.mono hF⟩
  | dt kvs => rw [Rep]; exact ⟨p, rfl, hp.trans h⟩
  | dk kvs => rw [Rep]; exact ⟨p, rfl, hp.trans h⟩
  | _ => exact h.elim

def SlotR (T : Par) (Z : Hd) (A F H : Hp) (fp : Addr → Prop) : Slot → Option V → Prop
  | .un, _ => True
  | .sh d, o => ∃ v, o = some v ∧ Rep T F v d
  | .bo d, o => ∃ v, o = some v ∧ Rep T A v d
  | .ow d, o => ∃ p, o = some (.ref p) ∧ fp p ∧ OwnTop T F H p d
  | .dp d, o => ∃ v, o = some v ∧ ∃ G, Same G H ∧ (∀ a u, G a = some u → isTup u ∨ fp a) ∧ Rep T G v d
  | .an d, o => ∃ v, o = some v ∧ Rep T H v d
  | .ex c, o => o = some (.ref Z.hx) ∧ Z.hc = .ref (T.cx c) ∧ Z.hd = none

structure SR (T : Par) (Z : Hd) (H0 A : Hp) (δ : Dl) (σ : L2.St) (F : Hp) (fp : Nat → Addr → Prop) (H : Hp) : Prop where
  h0 : Same H0 H
  ah : Same A H0
  fh : Same F H
  fn : ∀ a o, F a = some o → H0 a = none ∨ isTup o
  own : ∀ i a, fp i a → F a = none ∧ H0 a = none ∧ ∃ o, H a = some o ∧ ¬ isTup o
  sep : ∀ i j a, fp i a → fp j a → i = j
  sl : ∀ (i : Nat) s, δ[i]? = some s → ∃ o, σ[i]? = some o ∧ SlotR T Z A F H (fp i) s o
  len : σ.length = δ.length

theorem Grow.own {F H F' H' : Hp} (g : Grow F H F' H') {a : Addr} {o : HO} (h1 : F a = none) (h2 : H a = some o) (h3 : ¬ isTup o) : F' a = none := by
  cases e : F' a with
  | none => rfl
  | some u =>
    rcases g.nw a u e with h | h | h
    · rw [h1] at h; cases h
    · rw [h2] at h; cases h
    · have h4 := g.fh a u e
      rw [g.hh a o h2] at h4
      cases h4
      exact (h3 h).elim
theorem SR.grow {T : Par} {Z : Hd} {H0 A : Hp} {δ : Dl} {σ : L2.St} {F H F' H' : Hp} {fp : Nat → Addr → Prop} (s : SR T Z H0 A δ σ F fp H) (g : Grow F H F' H') : SR T Z H0 A δ σ F' fp H' := by
  refine ⟨s.h0.trans g.hh, s.ah, g.fh, fun a o e => ?_, fun i a h => ?_, s.sep, fun i x e => ?_, s.len⟩
  · rcases g.nw a o e with h | h | h
    · exact s.fn a o h
    · exact .inl (s.h0.free h)
    · exact .inr h
  · obtain ⟨h1, h2, o, h3, h4⟩ := s.own i a h
    exact ⟨g.own h1 h3 h4, h2, o, g.hh _ _ h3, h4⟩
  · obtain ⟨o, h1, h2⟩ := s.sl i x e
    refine ⟨o, h1, ?_⟩
    cases x with
    | un => trivial
    | sh d => obtain ⟨v, e1, r⟩ := h2; exact ⟨v, e1, r.mono g.ff⟩
    | bo d => exact h2
    | ow d =>
      obtain ⟨p, e1, hf, r⟩ := h2
      obtain ⟨u, hu, _⟩ := r.cell
      exact ⟨p, e1, hf, r.mono g.ff ((g.hh _ _ hu).trans hu.symm)⟩
    | dp d =>
      obtain ⟨v, e1, G, h3, h4, r⟩ := h2
      exact ⟨v, e1, G, h3.trans g.hh, h4, r⟩
    | an d => obtain ⟨v, e1, r⟩ := h2; exact ⟨v, e1, r.mono g.hh⟩
    | ex c => exact h2

/-- how a result is held; Ho: the heap ahead of it -/
def ResR (T : Par) (A F H Ho : Hp) : Kd → V → D → Prop
  | .any, v, d => Rep T H v d
  | .bw, v, d => Rep T A v d
  | .st, v, d => Rep T F v d
  | .tp, v, d => ∃ p, v = .ref p ∧ F p = none ∧ Ho p = none ∧ OwnTop T F H p d
  | .dp, v, d => ∃ G, Same G H ∧ (∀ a u, G a = some u → isTup u ∨ (F a = none ∧ Ho a = none)) ∧ Rep T G v d
theorem ResR.rep {T : Par} {A F H Ho : Hp} {k : Kd} {v : V} {d : D} (h : ResR T A F H Ho k v d) (hA : Same A H) (hF : Same F H) : Rep T H v d := by
  cases k with
  | any => exact h
  | bw => exact Rep.mono hA h
  | st => exact Rep.mono hF h
  | tp => obtain ⟨p, rfl, _, _, r⟩ := h; exact r.rep hF rfl
  | dp => obtain ⟨G, h1, _, r⟩ := h; exact r.mono h1
/-- may the result be shared from now on -/
def stK (d : D) (k : Kd) : Bool := match k with
  | .st => true
  | .tp => true
  | .dp => true
  | _ => imm d
theorem ResR.share {T : Par} {A F H Ho : Hp} {k : Kd} {v : V} {d : D} (h : ResR T A F H Ho k v d) (hA : Same A H) (hF : Same F H) (hs : stK d k = true) :
    ∃ F', Same F F' ∧ Same F' H ∧ (∀ a o, F' a = some o → F a = some o ∨ Ho a = none ∨ isTup o) ∧ Rep T F' v d := by
  have im : DD.imm d = true → ∃ F', Same F F' ∧ Same F' H ∧ (∀ a o, F' a = some o → F a = some o ∨ Ho a = none ∨ isTup o) ∧ Rep T F' v d := fun hi =>
    ⟨hun F (tuF H), hun_l, hun_in hF (tuF_same H), fun a o e => by
      rcases hun_inv e with e | e
      · exact .inl e
      · exact .inr (.inr (tuF_inv e).2), ((h.rep hA hF).imm hi).mono (hun_r hF (tuF_same H))⟩
  cases k with
  | any => exact im hs
  | bw => exact im hs
  | st => exact ⟨F, Same.refl _, hF, fun _ _ e => .inl e, h⟩
  | tp =>
    obtain ⟨p, rfl, h1, h2, r⟩ := h
    obtain ⟨o, ho, _⟩ := r.cell
    refine ⟨upd F p o, upd_sameN h1, fun b u e => ?_, fun b u e => ?_, r.rep (upd_sameN h1) (upd_same.trans ho.symm)⟩
    · by_cases hb : b = p
      · subst hb; rw [upd_same] at e; cases e; exact ho
      · rw [upd_ne hb] at e; exact hF _ _ e
    · by_cases hb : b = p
      · subst hb; exact .inr (.inl h2)
      · rw [upd_ne hb] at e; exact .inl e
  | dp =>
    obtain ⟨G, h1, h2, r⟩ := h
    exact ⟨hun F G, hun_l, hun_in hF h1, fun a o e => by
      rcases hun_inv e with e | e
      · exact .inl e
      · rcases h2 a o e with t | t
        · exact .inr (.inr t)
        · exact .inr (.inl t.2), r.mono (hun_r hF h1)⟩
/-- a result through further growth -/
theorem ResR.grow {T : Par} {A F H Ho F' H' : Hp} {k : Kd} {v : V} {d : D} (h : ResR T A F H Ho k v d) (g : Grow F H F' H') : ResR T A F' H' Ho k v d := by
  cases k with
  | any => exact Rep.mono g.hh h
  | bw => exact h
  | st => exact Rep.mono g.ff h
  | tp =>
    obtain ⟨p, rfl, h1, h2, r⟩ := h
    obtain ⟨o, ho, hn⟩ := r.cell
    exact ⟨p, rfl, g.own h1 ho hn, h2, r.mono g.ff ((g.hh _ _ ho).trans ho.symm)⟩
  | dp =>
    obtain ⟨G, h1, h2, r⟩ := h
    refine ⟨G, h1.trans g.hh, fun a u e => ?_, r⟩
    rcases h2 a u e with t | t
    · exact .inl t
    · by_cases ht : isTup u
      · exact .inl ht
      · exact .inr ⟨g.own t.1 (h1 _ _ e) ht, t.2⟩
theorem ResR.older {T : Par} {A F H Ho Ho' : Hp} {k : Kd} {v : V} {d : D} (h : ResR T A F H Ho k v d) (e : ∀ a, Ho a = none → Ho' a = none) : ResR T A F H Ho' k v d := by
  cases k with
  | any => exact h
  | bw => exact h
  | st => exact h
  | tp => obtain ⟨p, rfl, h1, h2, r⟩ := h; exact ⟨p, rfl, h1, e _ h2, r⟩
  | dp =>
    obtain ⟨G, h1, h2, r⟩ := h
    exact ⟨G, h1, fun a u q => (h2 a u q).imp id fun z => ⟨z.1, e _ z.2⟩, r⟩

/-- what is wanted behind an expression -/
def PostE (T : Par) (A F H : Hp) (W : WX) (σ : L2.St) (Q : VK) : Res → Prop
  | .ok d k => ∀ v F' H', Grow F H F' H' → ResR T A F' H' H k v d → Q v H'
  | .er c => ∀ F' H', Grow F H F' H' → W (.ref (T.cx c)) none σ H'
  | .no => False
def EvS (T : Par) (Z : Hd) (W : WX) (t : TE) (f : Dl → Res) : Prop :=
  ∀ H0 A δ σ F fp H (Q : VK), SR T Z H0 A δ σ F fp H → PostE T A F H W σ Q (f δ) → t σ H Q
def PDe (X : Cx) (T : Par) (Z : Hd) (W : WX) (e : Expr) (f : Dl → Res) : Prop := ∃ t, PE X e t ∧ EvS T Z W t f

/-- tests -/
inductive ResB where
  | ok (b : Bool) | er (c : Ex) | no
def PostB (T : Par) (F H : Hp) (W : WX) (σ : L2.St) (Q : Bool → Hp → Prop) : ResB → Prop
  | .ok b => ∀ F' H', Grow F H F' H' → Q b H'
  | .er c => ∀ F' H', Grow F H F' H' → W (.ref (T.cx c)) none σ H'
  | .no => False
def EvB (T : Par) (Z : Hd) (W : WX) (t : TT) (f : Dl → ResB) : Prop :=
  ∀ H0 A δ σ F fp H (Q : Bool → Hp → Prop), SR T Z H0 A δ σ F fp H → PostB T F H W σ Q (f δ) → t σ H Q
def PDt (X : Cx) (T : Par) (Z : Hd) (W : WX) (e : Expr) (f : Dl → ResB) : Prop := ∃ t, PT X e t ∧ EvB T Z W t f

/-- argument lists -/
inductive ResA where
  | ok (ds : List D) (st : Bool) | er (c : Ex) | no
/-- st: all of them may be shared -/
def PostA (T : Par) (F H : Hp) (W : WX) (σ : L2.St) (Q : List V → Hp → Prop) : ResA → Prop
  | .ok ds st => ∀ vs F' H', Grow F H F' H' → Reps T (if st = true then F' else H') vs ds → Q vs H'
  | .er c => ∀ F' H', Grow F H F' H' → W (.ref (T.cx c)) none σ H'
  | .no => False
def EvA (T : Par) (Z : Hd) (W : WX) (t : TA) (f : Dl → ResA) : Prop :=
  ∀ H0 A δ σ F fp H (Q : List V → Hp → Prop), SR T Z H0 A δ σ F fp H → PostA T F H W σ Q (f δ) → t σ H Q
def PDa (X : Cx) (T : Par) (Z : Hd) (W : WX) (es : List Expr) (f : Dl → ResA) : Prop := ∃ t, PA X es t ∧ EvA T Z W t f

/-! ### combining -/
def bindR (r : Res) (g : D → Kd → Res) : Res := match r with
  | .ok d k => g d k
  | .er c => .er c
  | .no => .no
section
variable {T : Par} {Z : Hd} {W : WX} {H0 A : Hp} {δ : Dl} {σ : L2.St} {F H : Hp} {fp : Nat → Addr → Prop} {Q : VK}
theorem SR.aH (s : SR T Z H0 A δ σ F fp H) : Same A H := s.ah.trans s.h0
/-- the first operand, then what goes on with its value -/
theorem EvS.then_ {t : TE} {f : Dl → Res} {g : D → Kd → Res} (e : EvS T Z W t f) (s : SR T Z H0 A δ σ F fp H) (h : PostE T A F H W σ Q (bindR (f δ) g)) (R : VK)
    (k : ∀ d kd v F' H', f δ = .ok d kd → Grow F H F' H' → SR T Z H0 A δ σ F' fp H' → ResR T A F' H' H kd v d → PostE T A F H W σ Q (g d kd) → R v H') : t σ H R := by
  refine e H0 A δ σ F fp H R s ?_
  cases hf : f δ with
  | ok d kd =>
    rw [hf] at h
    exact fun v F' H' g' r => k d kd v F' H' hf g' (s.grow g') r h
  | er c =>
    rw [hf] at h
    exact h
  | no =>
    rw [hf] at h
    exact h.elim
/-- the wish, from a later point on -/
theorem PostE.later {F1 H1 : Hp} {r : Res} (h : PostE T A F H W σ Q r) (g : Grow F H F1 H1) : PostE T A F1 H1 W σ Q r := by
  cases r with
  | ok d k => exact fun v F' H' g' r => h v F' H' (g.trans g') (r.older fun a e => g.hh.free e)
  | er c => exact fun F' H' g' => h F' H' (g.trans g')
  | no => exact h
end
end DD

set_option maxRecDepth 100000
namespace DD
noncomputable section
open PySem L2N
open L2 hiding XE Takes CX takes_of passes_call MkP PMk ps_raise mk_of ps_try_as pmk_own passAt

/-! ### names, constants -/
def varR (i : Nat) (δ : Dl) : Res := match δ[i]? with
  | some (.sh d) => .ok d .st
  | some (.bo d) => .ok d .bw
  | some (.ow d) => .ok d .any
  | some (.dp d) => .ok d .any
  | some (.an d) => .ok d .any
  | _ => .no
section
variable {X : Cx} {T : Par} {Z : Hd} {W : WX}
theorem ev_var (i : Nat) : EvS T Z W (tVar i) (varR i) := by
  intro H0 A δ σ F fp H Q s h
  unfold varR at h
  cases e : δ[i]? with
  | none => rw [e] at h; exact h.elim
  | some x =>
    rw [e] at h
    obtain ⟨o, h1, h2⟩ := s.sl i x e
    have g := Grow.refl s.fh
    cases x with
    | un => exact h.elim
    | sh d => obtain ⟨v, rfl, r⟩ := h2; exact ⟨v, h1, h v F H g r⟩
    | bo d => obtain ⟨v, rfl, r⟩ := h2; exact ⟨v, h1, h v F H g r⟩
    | ow d => obtain ⟨p, rfl, _, r⟩ := h2; exact ⟨_, h1, h _ F H g (r.rep s.fh rfl)⟩
    | dp d => obtain ⟨v, rfl, G, h3, _, r⟩ := h2; exact ⟨v, h1, h v F H g (r.mono h3)⟩
    | an d => obtain ⟨v, rfl, r⟩ := h2; exact ⟨v, h1, h v F H g r⟩
    | ex c => exact h.elim
theorem pd_var (i : Nat) {x : Str} {pos : Pos} (hN : X.N[i]? = some x := by rfl) (hv : Vis X.env.scope x := by first | exact Or.inl rfl | exact Or.inr (Or.inl rfl) | exact Or.inr (Or.inr rfl)) (hd : (x == ("__debug__" : Str)) = false := by decide)
    (hcd : (x == ("__classdict__" : Str)) = false := by decide) : PDe X T Z W (.Name x pos) (varR i) := ⟨_, pe_var hN hv hd hcd, ev_var i⟩
/-- a value that needs no heap -/
def flatD : V → Option D
  | .non => some .non
  | .bl b => some (.bl b)
  | .int i => some (.int i)
  | .str s => some (.str s)
  | _ => none
def conR (d : D) : Dl → Res := fun _ => .ok d .st
theorem ev_c {v : V} {d : D} (h : flatD v = some d) : EvS T Z W (tC v) (conR d) := by
  intro H0 A δ σ F fp H Q s q
  refine q v F H (Grow.refl s.fh) ?_
  show Rep T F v d
  cases v with
  | non => cases h; simp [Rep]
  | bl b => cases h; simp [Rep]
  | int b => cases h; simp [Rep]
  | str b => cases h; simp [Rep]
  | _ => cases h
theorem pd_int {i : Int} {j pos} : PDe X T Z W (.Constant (.int i) j pos) (conR (.int i)) := ⟨_, pe_int, ev_c rfl⟩
theorem pd_bl {b : Bool} {j pos} : PDe X T Z W (.Constant (.bool b) j pos) (conR (.bl b)) := ⟨_, pe_bl, ev_c rfl⟩
theorem pd_non {j pos} : PDe X T Z W (.Constant .none j pos) (conR .non) := ⟨_, pe_non, ev_c rfl⟩
theorem pd_str {x : Str} {j pos} : PDe X T Z W (.Constant (.str x) j pos) (conR (.str x)) := ⟨_, pe_str, ev_c rfl⟩
/-- a module's constant -/
theorem pd_glob {x : Str} {v : V} {d : D} {u : Value} {pos : Pos} (hm : X.mg x = some u) (r : RelV v u) (hd : flatD v = some d := by rfl) (hg : Gl X x := by rfl) (hdb : (x == ("__debug__" : Str)) = false := by decide) :
    PDe X T Z W (.Name x pos) (conR d) := ⟨_, pe_glob hg hm r hdb, ev_c hd⟩
end

/-! ### operators -/
abbrev Opt := Option (D × Kd)
def optR : Opt → Res
  | some (d, k) => .ok d k
  | none => .no
def PostO (T : Par) (A F H : Hp) (Q : VK) : Opt → Prop
  | some (d, k) => ∀ v F' H', Grow F H F' H' → ResR T A F' H' H k v d → Q v H'
  | none => False
def OpS (T : Par) (r : R2) (g : D → D → Opt) : Prop := ∀ A F H Q x y d e, Same A H → Same F H → Rep T H x d → Rep T H y e → PostO T A F H Q (g d e) → r x y H Q
def opR (g : D → D → Opt) (f1 f2 : Dl → Res) : Dl → Res := fun δ => bindR (f1 δ) fun d _ => bindR (f2 δ) fun e _ => optR (g d e)
section
variable {X : Cx} {T : Par} {Z : Hd} {W : WX} {a b c : Expr} {f1 f2 f3 : Dl → Res} {pos : Pos}
theorem PostO.grow {T : Par} {A F H F' H' : Hp} {Q : VK} {o : Opt} (h : PostO T A F H Q o) (g : Grow F H F' H') : PostO T A F' H' Q o := by
  cases o with
  | none => exact h
  | some p => exact fun v F2 H2 g2 r => h v F2 H2 (g.trans g2) (r.older fun a e => g.hh.free e)
theorem PostE.opt {T : Par} {A F H : Hp} {W : WX} {σ : L2.St} {Q : VK} {o : Opt} (h : PostE T A F H W σ Q (optR o)) : PostO T A F H Q o := by
  cases o with
  | none => exact h
  | some p => exact h
theorem bindR_ok {r : Res} {g : D → Kd → Res} {d : D} {k : Kd} (h : r = .ok d k) : bindR r g = g d k := by subst h; rfl
/-- two operands, then a step by values -/
theorem EvS.two {ta tb : TE} {r : R2} {g : D → D → Opt} (ea : EvS T Z W ta f1) (eb : EvS T Z W tb f2) (hr : OpS T r g) : EvS T Z W (tOp r ta tb) (opR g f1 f2) := by
  intro H0 A δ σ F fp H Q s h
  unfold opR at h
  refine ea.then_ s h _ fun d k v F1 H1 _ g1 s1 r1 h1 => ?_
  have h1' := h1.later g1
  refine eb.then_ s1 h1' _ fun e k2 u F2 H2 _ g2 s2 r2 h2 => ?_
  have q := (h2.later g2).opt
  exact hr A F2 H2 Q v u d e s2.aH s2.fh ((r1.rep s1.aH s1.fh).mono g2.hh) (r2.rep s2.aH s2.fh) q
theorem pd_op {op : Operator} {r : R2} {g : D → D → Opt} (ho : OpR X (binaryOp op) r) (hr : OpS T r g) (ha : PDe X T Z W a f1) (hb : PDe X T Z W b f2) : PDe X T Z W (.BinOp a op b pos) (opR g f1 f2) := by
  obtain ⟨ta, pa, ea⟩ := ha
  obtain ⟨tb, pb, eb⟩ := hb
  exact ⟨_, pe_op ho pa pb, ea.two eb hr⟩
theorem pd_cmp {op : CmpOp} {r : R2} {g : D → D → Opt} (ho : OpR X (compareOp op) r) (hr : OpS T r g) (ha : PDe X T Z W a f1) (hb : PDe X T Z W b f2) (hm : behindInMarks op b = false) : PDe X T Z W (.Compare a [op] [b] pos) (opR g f1 f2) := by
  obtain ⟨ta, pa, ea⟩ := ha
  obtain ⟨tb, pb, eb⟩ := hb
  exact ⟨_, pe_cmpR ho pa pb hm, ea.two eb hr⟩
/-- either of two rules -/
theorem OpR.or {f : Value → Value → Sem Value} {r1 r2 : R2} (h1 : OpR X f r1) (h2 : OpR X f r2) : OpR X f (fun x y H Q => r1 x y H Q ∨ r2 x y H Q) :=
  fun pins s σ H x y v u Q I rx ry h => h.elim (h1 pins s σ H x y v u Q I rx ry) (h2 pins s σ H x y v u Q I rx ry)
/-- scalars out -/
theorem post_st {T : Par} {A F H : Hp} {Q : VK} {v : V} {d : D} (hF : Same F H) (h : PostO T A F H Q (some (d, .st))) (hv : flatD v = some d) : Q v H := by
  refine h v F H (Grow.refl hF) ?_
  show Rep T F v d
  cases v with
  | non => cases hv; simp [Rep]
  | bl b => cases hv; simp [Rep]
  | int b => cases hv; simp [Rep]
  | str b => cases hv; simp [Rep]
  | _ => cases hv
/-- a new list out -/
theorem post_lst {T : Par} {A F H : Hp} {Q : VK} {vs : List V} {ds : List D} (hF : Same F H) (h : PostO T A F H Q (some (.lst ds, .tp))) (hr : Reps T F vs ds) : ∀ p, H p = none → Q (.ref p) (upd H p (.lst vs)) := fun p hp =>
  h _ F _ (Grow.cell hF hp) ⟨p, rfl, hF.free hp, hp, vs, upd_same, hr⟩
/-- .. of data in which nothing can be changed -/
theorem post_lstI {T : Par} {A F H : Hp} {Q : VK} {vs : List V} {ds : List D} (hF : Same F H) (h : PostO T A F H Q (some (.lst ds, .tp))) (hi : imms ds = true) (hr : Reps T H vs ds) : ∀ p, H p = none → Q (.ref p) (upd H p (.lst vs)) :=
  post_lst (F := hun F (tuF H)) (hun_in hF (tuF_same H)) (h.grow (Grow.tups hF)) ((Reps.imm hi hr).mono (hun_r hF (tuF_same H)))

def gAdd : D → D → Opt
  | .int i, .int j => some (.int (i + j), .st)
  | .str i, .str j => if i.length + j.length ≤ sizeLine then some (.str (i ++ j), .st) else none
  | .lst xs, .lst ys => if imms xs = true ∧ imms ys = true ∧ xs.length + ys.length ≤ sizeLine then some (.lst (xs ++ ys), .tp) else none
  | _, _ => none
def rStrAdd : R2 := fun x y H Q => ∃ i j, x = .str i ∧ y = .str j ∧ i.length + j.length ≤ sizeLine ∧ Q (.str (i ++ j)) H
def rAddI : R2 := rI0 fun i j => .int (i + j)
def rAddA : R2 := fun x y H Q => rAddI x y H Q ∨ (fun x y H Q => rStrAdd x y H Q ∨ rCat x y H Q) x y H Q
theorem op_addA : OpR X (binaryOp .Add) rAddA := OpR.or (r1 := rAddI) op_add (OpR.or (r1 := rStrAdd) (r2 := rCat) op_add_str op_cat)
theorem imms_append : ∀ {xs ys : List D}, imms xs = true → imms ys = true → imms (xs ++ ys) = true
  | [], _, _, h => h
  | x :: xs, ys, h1, h2 => by
    simp only [imms, Bool.and_eq_true] at h1
    simp only [List.cons_append, imms, Bool.and_eq_true]
    exact ⟨h1.1, imms_append h1.2 h2⟩
theorem os_add : OpS T rAddA gAdd := by
  intro A F H Q x y d e hA hF rx ry h
  cases d with
  | int i =>
    cases e with
    | int j =>
      rw [Rep] at rx ry
      subst rx ry
      exact .inl ⟨i, j, rfl, rfl, post_st hF h rfl⟩
    | _ => exact h.elim
  | str i =>
    cases e with
    | str j =>
      rw [Rep] at rx ry
      subst rx ry
      simp only [gAdd] at h
      split at h
      · rename_i hl
        exact .inr (.inl ⟨i, j, rfl, rfl, hl, post_st hF h rfl⟩)
      · exact h.elim
    | _ => exact h.elim
  | lst xs =>
    cases e with
    | lst ys =>
      rw [Rep] at rx ry
      obtain ⟨p, vs, rfl, h1, r1⟩ := rx
      obtain ⟨q, ws, rfl, h2, r2⟩ := ry
      simp only [gAdd] at h
      split at h
      · rename_i hl
        exact .inr (.inr ⟨p, q, vs, ws, rfl, rfl, h1, h2, by rw [r1.length, r2.length]; exact hl.2.2, post_lstI hF h (imms_append hl.1 hl.2.1) (r1.append r2)⟩)
      · exact h.elim
    | _ => exact h.elim
  | _ => exact h.elim
theorem pd_add (ha : PDe X T Z W a f1) (hb : PDe X T Z W b f2) : PDe X T Z W (.BinOp a .Add b pos) (opR gAdd f1 f2) := pd_op op_addA os_add ha hb

def gSub : D → D → Opt
  | .int i, .int j => some (.int (i - j), .st)
  | _, _ => none
theorem os_sub : OpS T (rI0 fun i j => .int (i - j)) gSub := by
  intro A F H Q x y d e hA hF rx ry h
  cases d with
  | int i =>
    cases e with
    | int j =>
      rw [Rep] at rx ry
      subst rx ry
      exact ⟨i, j, rfl, rfl, post_st hF h rfl⟩
    | _ => exact h.elim
  | _ => exact h.elim
theorem pd_sub (ha : PDe X T Z W a f1) (hb : PDe X T Z W b f2) : PDe X T Z W (.BinOp a .Sub b pos) (opR gSub f1 f2) := pd_op op_sub os_sub ha hb
/-- sealed by choice: nothing must compute it by unfolding -/
noncomputable def smallI (i : Int) : Bool := @decide (-(2 ^ 64) < i) (Classical.propDecidable _) && @decide (i < 2 ^ 64) (Classical.propDecidable _)
def gMulI : D → D → Opt
  | .int i, .int j => if (smallI i || smallI j) = true then some (.int (i * j), .st) else none
  | _, _ => none
theorem os_mul : OpS T (rI CMul fun i j => .int (i * j)) gMulI := by
  intro A F H Q x y d e hA hF rx ry h
  cases d with
  | int i =>
    cases e with
    | int j =>
      rw [Rep] at rx ry
      subst rx ry
      simp only [gMulI] at h
      split at h
      · rename_i hc
        refine ⟨i, j, rfl, rfl, ?_, post_st hF h rfl⟩
        unfold CMul
        simpa [smallI, Bool.or_eq_true, Bool.and_eq_true] using hc
      · exact h.elim
    | _ => exact h.elim
  | _ => exact h.elim
theorem pd_mul (ha : PDe X T Z W a f1) (hb : PDe X T Z W b f2) : PDe X T Z W (.BinOp a .Mult b pos) (opR gMulI f1 f2) := pd_op op_mul os_mul ha hb
def gDiv : D → D → Opt
  | .int i, .int j => if 0 < j ∧ j < 1073741824 then some (.int (i / j), .st) else none
  | _, _ => none
theorem os_div : OpS T (rI CDiv fun i j => .int (i / j)) gDiv := by
  intro A F H Q x y d e hA hF rx ry h
  cases d with
  | int i =>
    cases e with
    | int j =>
      rw [Rep] at rx ry
      subst rx ry
      simp only [gDiv] at h
      split at h
      · rename_i hc
        exact ⟨i, j, rfl, rfl, hc, post_st hF h rfl⟩
      · exact h.elim
    | _ => exact h.elim
  | _ => exact h.elim
theorem pd_div (ha : PDe X T Z W a f1) (hb : PDe X T Z W b f2) : PDe X T Z W (.BinOp a .FloorDiv b pos) (opR gDiv f1 f2) := pd_op op_fdiv os_div ha hb
def gMod : D → D → Opt
  | .int i, .int j => if 0 < j then some (.int (i % j), .st) else none
  | _, _ => none
theorem os_mod : OpS T (rI (fun _ j => 0 < j) fun i j => .int (i % j)) gMod := by
  intro A F H Q x y d e hA hF rx ry h
  cases d with
  | int i =>
    cases e with
    | int j =>
      rw [Rep] at rx ry
      subst rx ry
      simp only [gMod] at h
      split at h
      · rename_i hc
        exact ⟨i, j, rfl, rfl, hc, post_st hF h rfl⟩
      · exact h.elim
    | _ => exact h.elim
  | _ => exact h.elim
theorem pd_mod (ha : PDe X T Z W a f1) (hb : PDe X T Z W b f2) : PDe X T Z W (.BinOp a .Mod b pos) (opR gMod f1 f2) := pd_op op_mod os_mod ha hb

/-! comparisons of whole numbers -/
def gLt : D → D → Opt
  | .int i, .int j => some (.bl (decide (i < j)), .st)
  | _, _ => none
def gLe : D → D → Opt
  | .int i, .int j => some (.bl (decide (i ≤ j)), .st)
  | _, _ => none
def gGt : D → D → Opt
  | .int i, .int j => some (.bl (decide (j < i)), .st)
  | _, _ => none
def gGe : D → D → Opt
  | .int i, .int j => some (.bl (decide (j ≤ i)), .st)
  | _, _ => none
theorem os_ii {p : Int → Int → Bool} {g : D → D → Opt} (hg : ∀ i j, g (.int i) (.int j) = some (.bl (p i j), .st)) (hn : ∀ d e, g d e ≠ none → (∃ i, d = .int i) ∧ ∃ j, e = .int j) : OpS T (rI0 fun i j => .bl (p i j)) g := by
  intro A F H Q x y d e hA hF rx ry h
  have z : g d e ≠ none := by intro q; rw [q] at h; exact h
  obtain ⟨⟨i, rfl⟩, j, rfl⟩ := hn d e z
  rw [hg] at h
  rw [Rep] at rx ry
  subst rx ry
  exact ⟨i, j, rfl, rfl, post_st hF h rfl⟩
theorem os_lt : OpS T (rI0 fun i j => .bl (decide (i < j))) gLt := os_ii (fun _ _ => rfl) fun d e h => by
  cases d with
  | int i => cases e with
    | int j => exact ⟨⟨i, rfl⟩, j, rfl⟩
    | _ => exact absurd rfl h
  | _ => exact absurd rfl h
theorem os_le : OpS T (rI0 fun i j => .bl (decide (i ≤ j))) gLe := os_ii (fun _ _ => rfl) fun d e h => by
  cases d with
  | int i => cases e with
    | int j => exact ⟨⟨i, rfl⟩, j, rfl⟩
    | _ => exact absurd rfl h
  | _ => exact absurd rfl h
theorem os_gt : OpS T (rI0 fun i j => .bl (decide (j < i))) gGt := os_ii (fun _ _ => rfl) fun d e h => by
  cases d with
  | int i => cases e with
    | int j => exact ⟨⟨i, rfl⟩, j, rfl⟩
    | _ => exact absurd rfl h
  | _ => exact absurd rfl h
theorem os_ge : OpS T (rI0 fun i j => .bl (decide (j ≤ i))) gGe := os_ii (fun _ _ => rfl) fun d e h => by
  cases d with
  | int i => cases e with
    | int j => exact ⟨⟨i, rfl⟩, j, rfl⟩
    | _ => exact absurd rfl h
  | _ => exact absurd rfl h
theorem pd_lt (ha : PDe X T Z W a f1) (hb : PDe X T Z W b f2) : PDe X T Z W (.Compare a [.Lt] [b] pos) (opR gLt f1 f2) := pd_cmp op_lt os_lt ha hb (nobehind _ (by decide) (by decide))
theorem pd_le (ha : PDe X T Z W a f1) (hb : PDe X T Z W b f2) : PDe X T Z W (.Compare a [.LtE] [b] pos) (opR gLe f1 f2) := pd_cmp op_le os_le ha hb (nobehind _ (by decide) (by decide))
theorem pd_gt (ha : PDe X T Z W a f1) (hb : PDe X T Z W b f2) : PDe X T Z W (.Compare a [.Gt] [b] pos) (opR gGt f1 f2) := pd_cmp op_gt os_gt ha hb (nobehind _ (by decide) (by decide))
theorem pd_ge (ha : PDe X T Z W a f1) (hb : PDe X T Z W b f2) : PDe X T Z W (.Compare a [.GtE] [b] pos) (opR gGe f1 f2) := pd_cmp op_ge os_ge ha hb (nobehind _ (by decide) (by decide))

/-! == and != -/
mutual
/-- data as the library's own -/
def py : D → Option PyData
  | .non => some .none
  | .bl b => some (.bool b)
  | .int i => some (.int i)
  | .str s => some (.str s)
  | .lst ds => (pys ds).map .list
  | .tup ds => (pys ds).map .tuple
  | .dt _ => none
  | .dk _ => none
  | .scr _ => none
  | .tar _ => none
def pys : List D → Option (List PyData)
  | [] => some []
  | d :: ds => match py d, pys ds with
    | some x, some xs => some (x :: xs)
    | _, _ => none
end
mutual
theorem py_dp {T : Par} {H : Hp} : ∀ {v : V} {d : D} {x : PyData}, Rep T H v d → py d = some x → Dp T.K H v x
  | v, .non, x, h, e => by
    rw [Rep] at h; simp only [py, Option.some.injEq] at e; subst h e; exact .non
  | v, .bl b, x, h, e => by
    rw [Rep] at h; simp only [py, Option.some.injEq] at e; subst h e; exact .bl b
  | v, .int b, x, h, e => by
    rw [Rep] at h; simp only [py, Option.some.injEq] at e; subst h e; exact .int b
  | v, .str b, x, h, e => by
    rw [Rep] at h; simp only [py, Option.some.injEq] at e; subst h e; exact .str b
  | v, .lst ds, x, h, e => by
    rw [Rep] at h
    obtain ⟨p, vs, rfl, h1, h2⟩ := h
    simp only [py, Option.map_eq_some_iff] at e
    obtain ⟨xs, e1, rfl⟩ := e
    exact .lst (SqL.of h1) (pys_dp h2 e1)
  | v, .tup ds, x, h, e => by
    rw [Rep] at h
    obtain ⟨p, vs, rfl, h1, h2⟩ := h
    simp only [py, Option.map_eq_some_iff] at e
    obtain ⟨xs, e1, rfl⟩ := e
    exact .tup (SqT.of h1) (pys_dp h2 e1)
  | v, .dt _, x, h, e => by simp [py] at e
  | v, .dk _, x, h, e => by simp [py] at e
  | v, .scr _, x, h, e => by simp [py] at e
  | v, .tar _, x, h, e => by simp [py] at e
theorem pys_dp {T : Par} {H : Hp} : ∀ {vs : List V} {ds : List D} {xs : List PyData}, Reps T H vs ds → pys ds = some xs → DpAll T.K H vs xs
  | [], [], xs, _, e => by
    simp only [pys, Option.some.injEq] at e; subst e; exact .nil
  | v :: vs, d :: ds, xs, h, e => by
    rw [Reps] at h
    rw [pys] at e
    cases e1 : py d with
    | none => rw [e1] at e; cases e
    | some x =>
      cases e2 : pys ds with
      | none => rw [e1, e2] at e; cases e
      | some ys =>
        rw [e1, e2] at e
        simp only [Option.some.injEq] at e
        subst e
        exact .cons (py_dp h.1 e1) (pys_dp h.2 e2)
  | [], _ :: _, _, h, _ => by simp [Reps] at h
  | _ :: _, [], _, h, _ => by simp [Reps] at h
end
def flatV? : D → Option V
  | .non => some .non
  | .bl b => some (.bl b)
  | .int i => some (.int i)
  | .str s => some (.str s)
  | _ => none
theorem flatV?_rep {T : Par} {H : Hp} {v w : V} {d : D} (h : Rep T H v d) (e : flatV? d = some w) : v = w := by
  cases d with
  | non => cases e; rw [Rep] at h; exact h
  | bl b => cases e; rw [Rep] at h; exact h
  | int b => cases e; rw [Rep] at h; exact h
  | str b => cases e; rw [Rep] at h; exact h
  | _ => cases e
/-- equal, where this can be told -/
def eqB (d e : D) : Option Bool := match flatV? d, flatV? e with
  | some v, some w => if scal v w = true then some (decide (v = w)) else none
  | _, _ => match py d, py e with
    | some x, some y => if SeqAt.shaped x = true ∧ SeqAt.shaped y = true then some (PyData.eqv x y) else none
    | _, _ => none
def gEq (d e : D) : Opt := (eqB d e).map fun b => (.bl b, .st)
def gNe (d e : D) : Opt := (eqB d e).map fun b => (.bl (!b), .st)
def rEqA (K : PySem.W.Frag) : R2 := fun x y H Q => rEq x y H Q ∨ rEqD K x y H Q
def rNeA (K : PySem.W.Frag) : R2 := fun x y H Q => rNe x y H Q ∨ rNeD K x y H Q
theorem eqB_rule {T : Par} {H : Hp} {x y : V} {d e : D} {b : Bool} (rx : Rep T H x d) (ry : Rep T H y e) (h : eqB d e = some b) :
    (scal x y = true ∧ decide (x = y) = b) ∨ ∃ z w, Dp T.K H x z ∧ Dp T.K H y w ∧ SeqAt.shaped z = true ∧ SeqAt.shaped w = true ∧ PyData.eqv z w = b := by
  unfold eqB at h
  split at h
  · rename_i v w h1 h2
    rw [flatV?_rep rx h1, flatV?_rep ry h2]
    split at h
    · rename_i hs
      exact .inl ⟨hs, Option.some.inj h⟩
    · cases h
  · split at h
    · rename_i z w h1 h2
      split at h
      · rename_i hs
        exact .inr ⟨z, w, py_dp rx h1, py_dp ry h2, hs.1, hs.2, Option.some.inj h⟩
      · cases h
    · cases h
theorem os_eq : OpS T (rEqA T.K) gEq := by
  intro A F H Q x y d e hA hF rx ry h
  unfold gEq at h
  cases hb : eqB d e with
  | none => rw [hb] at h; exact h.elim
  | some b =>
    rw [hb] at h
    have q : Q (.bl b) H := post_st hF h rfl
    rcases eqB_rule rx ry hb with ⟨h1, h2⟩ | ⟨z, w, h1, h2, h3, h4, h5⟩
    · exact .inl ⟨h1, by rw [h2]; exact q⟩
    · exact .inr ⟨z, w, h1, h2, h3, h4, by rw [h5]; exact q⟩
theorem os_ne : OpS T (rNeA T.K) gNe := by
  intro A F H Q x y d e hA hF rx ry h
  unfold gNe at h
  cases hb : eqB d e with
  | none => rw [hb] at h; exact h.elim
  | some b =>
    rw [hb] at h
    have q : Q (.bl (!b)) H := post_st hF h rfl
    rcases eqB_rule rx ry hb with ⟨h1, h2⟩ | ⟨z, w, h1, h2, h3, h4, h5⟩
    · exact .inl ⟨h1, by rw [h2]; exact q⟩
    · exact .inr ⟨z, w, h1, h2, h3, h4, by rw [h5]; exact q⟩
theorem pd_eq (hu : X.A.units + 64 < cLine) (ha : PDe X T Z W a f1) (hb : PDe X T Z W b f2) (hK : X.K = T.K := by rfl) : PDe X T Z W (.Compare a [.Eq] [b] pos) (opR gEq f1 f2) := by
  refine pd_cmp (r := rEqA T.K) ?_ os_eq ha hb (nobehind _ (by decide) (by decide))
  rw [← hK]
  exact OpR.or op_eq (op_eqD hu)
theorem pd_ne (hu : X.A.units + 64 < cLine) (ha : PDe X T Z W a f1) (hb : PDe X T Z W b f2) (hK : X.K = T.K := by rfl) : PDe X T Z W (.Compare a [.NotEq] [b] pos) (opR gNe f1 f2) := by
  refine pd_cmp (r := rNeA T.K) ?_ os_ne ha hb (nobehind _ (by decide) (by decide))
  rw [← hK]
  exact OpR.or op_ne (op_neD hu)

/-! is None -/
def isNon : D → Bool
  | .non => true
  | _ => false
theorem isNon_rep {T : Par} {H : Hp} {v : V} {d : D} (h : Rep T H v d) : decide (v = .non) = isNon d := by
  cases d with
  | non => rw [Rep] at h; subst h; rfl
  | bl b => rw [Rep] at h; subst h; rfl
  | int b => rw [Rep] at h; subst h; rfl
  | str b => rw [Rep] at h; subst h; rfl
  | lst ds => rw [Rep] at h; obtain ⟨p, vs, rfl, _⟩ := h; rfl
  | tup ds => rw [Rep] at h; obtain ⟨p, vs, rfl, _⟩ := h; rfl
  | dt ds => rw [Rep] at h; obtain ⟨p, rfl, _⟩ := h; rfl
  | dk ds => rw [Rep] at h; obtain ⟨p, rfl, _⟩ := h; rfl
  | scr ds => rw [Rep] at h; obtain ⟨p, rfl, _⟩ := h; rfl
  | tar ds => rw [Rep] at h; obtain ⟨p, _, _, _, _, rfl, _⟩ := h; rfl
def gIsN (d : D) : Opt := some (.bl (isNon d), .st)
def gNotN (d : D) : Opt := some (.bl (!isNon d), .st)
def unR (g : D → Opt) (f : Dl → Res) : Dl → Res := fun δ => bindR (f δ) fun d _ => optR (g d)
/-- one operand, then a step by its value -/
theorem EvS.one {ta : TE} {t : TE} {g : D → Opt} (ea : EvS T Z W ta f1)
    (ht : ∀ σ H (Q R : VK), ta σ H R → (∀ v H', R v H' → ∃ A F d, Same A H' ∧ Same F H' ∧ Rep T H' v d ∧ PostO T A F H' Q (g d)) → t σ H Q) : EvS T Z W t (unR g f1) := by
  intro H0 A δ σ F fp H Q s h
  unfold unR at h
  refine ht σ H Q (fun v H' => ∃ A F d, Same A H' ∧ Same F H' ∧ Rep T H' v d ∧ PostO T A F H' Q (g d)) ?_ fun _ _ z => z
  exact ea.then_ s h _ fun d k v F1 H1 _ g1 s1 r1 h1 => ⟨A, F1, d, s1.aH, s1.fh, r1.rep s1.aH s1.fh, (h1.later g1).opt⟩
end
end
end DD

set_option maxRecDepth 100000
namespace DD
noncomputable section
open PySem L2N
open L2 hiding XE Takes CX takes_of passes_call MkP PMk ps_raise mk_of ps_try_as pmk_own passAt

/-! ### one operand -/
def Op1S (T : Par) (r : V → Hp → VK → Prop) (g : D → Opt) : Prop := ∀ A F H Q x d, Same A H → Same F H → Rep T H x d → PostO T A F H Q (g d) → r x H Q
section
variable {X : Cx} {T : Par} {Z : Hd} {W : WX} {a b c : Expr} {f1 f2 f3 : Dl → Res} {pos : Pos}
theorem EvS.un {ta : TE} {r : V → Hp → VK → Prop} {g : D → Opt} (ea : EvS T Z W ta f1) (hr : Op1S T r g) : EvS T Z W (fun σ H Q => ta σ H fun x H1 => r x H1 Q) (unR g f1) := by
  intro H0 A δ σ F fp H Q s h
  exact ea.then_ s h _ fun d k v F1 H1 _ g1 s1 r1 h1 => hr A F1 H1 Q v d s1.aH s1.fh (r1.rep s1.aH s1.fh) (h1.later g1).opt
theorem pd_isN {j pos'} (ha : PDe X T Z W a f1) : PDe X T Z W (.Compare a [.Is] [.Constant .none j pos'] pos) (unR gIsN f1) := by
  obtain ⟨ta, pa, ea⟩ := ha
  refine ⟨_, pe_cmp (pc_isN pa), ea.un (r := fun x H Q => Q (.bl (decide (x = .non))) H) fun A F H Q x d hA hF rx h => ?_⟩
  show Q (.bl (decide (x = .non))) H
  rw [isNon_rep rx]
  exact post_st hF h rfl
theorem pd_notN {j pos'} (ha : PDe X T Z W a f1) : PDe X T Z W (.Compare a [.IsNot] [.Constant .none j pos'] pos) (unR gNotN f1) := by
  obtain ⟨ta, pa, ea⟩ := ha
  refine ⟨_, pe_cmp (pc_notN pa), ea.un (r := fun x H Q => Q (.bl (!decide (x = .non))) H) fun A F H Q x d hA hF rx h => ?_⟩
  show Q (.bl (!decide (x = .non))) H
  rw [isNon_rep rx]
  exact post_st hF h rfl
def gNeg : D → Opt
  | .int i => some (.int (-i), .st)
  | _ => none
theorem pd_neg (ha : PDe X T Z W a f1) : PDe X T Z W (.UnaryOp .USub a pos) (unR gNeg f1) := by
  obtain ⟨ta, pa, ea⟩ := ha
  refine ⟨_, pe_un un_neg pa, ea.un fun A F H Q x d hA hF rx h => ?_⟩
  cases d with
  | int i => rw [Rep] at rx; subst rx; exact ⟨i, rfl, post_st hF h rfl⟩
  | _ => exact h.elim
def gNot : D → Opt
  | .bl b => some (.bl (!b), .st)
  | _ => none
theorem pd_not (ha : PDe X T Z W a f1) : PDe X T Z W (.UnaryOp .Not a pos) (unR gNot f1) := by
  obtain ⟨ta, pa, ea⟩ := ha
  refine ⟨_, pe_not pa, ea.un (r := fun x H1 Q => ∃ c, x = .bl c ∧ Q (.bl (!c)) H1) fun A F H Q x d hA hF rx h => ?_⟩
  cases d with
  | bl i => rw [Rep] at rx; subst rx; exact ⟨i, rfl, post_st hF h rfl⟩
  | _ => exact h.elim

/-! ### and, or of bools, as values -/
def andR (f1 f2 : Dl → Res) : Dl → Res := fun δ => bindR (f1 δ) fun d _ => match d with
  | .bl true => f2 δ
  | .bl false => .ok (.bl false) .st
  | _ => .no
def orR (f1 f2 : Dl → Res) : Dl → Res := fun δ => bindR (f1 δ) fun d _ => match d with
  | .bl false => f2 δ
  | .bl true => .ok (.bl true) .st
  | _ => .no
variable {rest : List Expr}
theorem pd_one {op} (h : PDe X T Z W a f1) : PDe X T Z W (.BoolOp op [a] pos) f1 := by
  obtain ⟨ta, pa, ea⟩ := h
  exact ⟨_, pe_one pa, ea⟩
theorem pd_and (ha : PDe X T Z W a f1) (hb : PDe X T Z W (.BoolOp .And (b :: rest) pos) f2) : PDe X T Z W (.BoolOp .And (a :: b :: rest) pos) (andR f1 f2) := by
  obtain ⟨ta, pa, ea⟩ := ha
  obtain ⟨tb, pb, eb⟩ := hb
  refine ⟨_, pe_and pa pb, ?_⟩
  intro H0 A δ σ F fp H Q s h
  unfold andR at h
  refine ea.then_ s h _ fun d k v F1 H1 _ g1 s1 r1 h1 => ?_
  have h2 := h1.later g1
  cases d with
  | bl c =>
    have rv := r1.rep s1.aH s1.fh
    rw [Rep] at rv
    subst rv
    refine ⟨c, rfl, ?_⟩
    cases c with
    | true => exact eb H0 A δ σ F1 fp H1 Q s1 h2
    | false => exact post_st (d := .bl false) s1.fh (h2 : PostO T A F1 H1 Q (some (.bl false, .st))) rfl
  | _ => exact h2.elim
theorem pd_or (ha : PDe X T Z W a f1) (hb : PDe X T Z W (.BoolOp .Or (b :: rest) pos) f2) : PDe X T Z W (.BoolOp .Or (a :: b :: rest) pos) (orR f1 f2) := by
  obtain ⟨ta, pa, ea⟩ := ha
  obtain ⟨tb, pb, eb⟩ := hb
  refine ⟨_, pe_or pa pb, ?_⟩
  intro H0 A δ σ F fp H Q s h
  unfold orR at h
  refine ea.then_ s h _ fun d k v F1 H1 _ g1 s1 r1 h1 => ?_
  have h2 := h1.later g1
  cases d with
  | bl c =>
    have rv := r1.rep s1.aH s1.fh
    rw [Rep] at rv
    subst rv
    refine ⟨c, rfl, ?_⟩
    cases c with
    | false => exact eb H0 A δ σ F1 fp H1 Q s1 h2
    | true => exact post_st (d := .bl true) s1.fh (h2 : PostO T A F1 H1 Q (some (.bl true, .st))) rfl
  | _ => exact h2.elim

/-! ### tests -/
def tstR (f : Dl → Res) : Dl → ResB := fun δ => match f δ with
  | .ok (.bl b) _ => .ok b
  | .er c => .er c
  | _ => .no
theorem PostB.later {T : Par} {F H F1 H1 : Hp} {σ : L2.St} {Q : Bool → Hp → Prop} {r : ResB} (h : PostB T F H W σ Q r) (g : Grow F H F1 H1) : PostB T F1 H1 W σ Q r := by
  cases r with
  | ok b => exact fun F' H' g' => h F' H' (g.trans g')
  | er c => exact fun F' H' g' => h F' H' (g.trans g')
  | no => exact h
theorem pt_v (h : PDe X T Z W a f1) (he : ∀ whole, isTrue a X.env whole = (do let v ← whole; standAt a.pos; holding [v] (truthy v)) := by intro _; rfl) : PDt X T Z W a (tstR f1) := by
  obtain ⟨ta, pa, ea⟩ := h
  refine ⟨_, pt_val pa he, ?_⟩
  intro H0 A δ σ F fp H Q s h
  refine ea H0 A δ σ F fp H _ s ?_
  unfold tstR at h
  cases hf : f1 δ with
  | ok d k =>
    rw [hf] at h
    cases d with
    | bl c =>
      intro v F' H' g r
      have s1 := s.grow g
      have rv := r.rep s1.aH s1.fh
      rw [Rep] at rv
      exact ⟨c, rv, h F' H' g⟩
    | _ => exact h.elim
  | er c => rw [hf] at h; exact h
  | no => rw [hf] at h; exact h.elim
def bandR (f1 f2 : Dl → ResB) : Dl → ResB := fun δ => match f1 δ with
  | .ok true => f2 δ
  | r => r
def borR (f1 f2 : Dl → ResB) : Dl → ResB := fun δ => match f1 δ with
  | .ok false => f2 δ
  | r => r
def bnotR (f1 : Dl → ResB) : Dl → ResB := fun δ => match f1 δ with
  | .ok b => .ok (!b)
  | r => r
variable {p1 p2 : Dl → ResB}
/-- and, or: whatever the whole is -/
def PDw (X : Cx) (T : Par) (Z : Hd) (W : WX) (e : Expr) (f : Dl → ResB) : Prop := ∃ t, PW X e t ∧ EvB T Z W t f
theorem pt_w (h : PDw X T Z W a p1) : PDt X T Z W a p1 := by
  obtain ⟨t, p, e⟩ := h
  exact ⟨t, p.pt, e⟩
theorem wd_and1 (ha : PDt X T Z W a p1) : PDw X T Z W (.BoolOp .And [a] pos) p1 := by
  obtain ⟨t, p, e⟩ := ha
  exact ⟨t, pw_and1 p, e⟩
theorem wd_or1 (ha : PDt X T Z W a p1) : PDw X T Z W (.BoolOp .Or [a] pos) p1 := by
  obtain ⟨t, p, e⟩ := ha
  exact ⟨t, pw_or1 p, e⟩
theorem wd_and (ha : PDt X T Z W a p1) (hb : PDw X T Z W (.BoolOp .And (b :: rest) pos) p2) : PDw X T Z W (.BoolOp .And (a :: b :: rest) pos) (bandR p1 p2) := by
  obtain ⟨ta, pa, ea⟩ := ha
  obtain ⟨tb, pb, eb⟩ := hb
  refine ⟨_, pw_and pa pb, ?_⟩
  intro H0 A δ σ F fp H Q s h
  refine ea H0 A δ σ F fp H _ s ?_
  unfold bandR at h
  cases hf : p1 δ with
  | ok c =>
    rw [hf] at h
    intro F' H' g
    cases c with
    | true => exact iteT (eb H0 A δ σ F' fp H' Q (s.grow g) (h.later g))
    | false => exact iteF (h F' H' g)
  | er c => rw [hf] at h; exact h
  | no => rw [hf] at h; exact h.elim
theorem wd_or (ha : PDt X T Z W a p1) (hb : PDw X T Z W (.BoolOp .Or (b :: rest) pos) p2) : PDw X T Z W (.BoolOp .Or (a :: b :: rest) pos) (borR p1 p2) := by
  obtain ⟨ta, pa, ea⟩ := ha
  obtain ⟨tb, pb, eb⟩ := hb
  refine ⟨_, pw_or pa pb, ?_⟩
  intro H0 A δ σ F fp H Q s h
  refine ea H0 A δ σ F fp H _ s ?_
  unfold borR at h
  cases hf : p1 δ with
  | ok c =>
    rw [hf] at h
    intro F' H' g
    cases c with
    | false => exact iteF (eb H0 A δ σ F' fp H' Q (s.grow g) (h.later g))
    | true => exact iteT (h F' H' g)
  | er c => rw [hf] at h; exact h
  | no => rw [hf] at h; exact h.elim
theorem td_not (ha : PDt X T Z W a p1) : PDt X T Z W (.UnaryOp .Not a pos) (bnotR p1) := by
  obtain ⟨ta, pa, ea⟩ := ha
  refine ⟨_, pt_not pa, ?_⟩
  intro H0 A δ σ F fp H Q s h
  refine ea H0 A δ σ F fp H _ s ?_
  unfold bnotR at h
  cases hf : p1 δ with
  | ok c => rw [hf] at h; exact h
  | er c => rw [hf] at h; exact h
  | no => rw [hf] at h; exact h.elim
def ifR (p : Dl → ResB) (f g : Dl → Res) : Dl → Res := fun δ => match p δ with
  | .ok true => f δ
  | .ok false => g δ
  | .er c => .er c
  | .no => .no
theorem pd_ifExp (hc : PDt X T Z W c p1) (ha : PDe X T Z W a f1) (hb : PDe X T Z W b f2) : PDe X T Z W (.IfExp c a b pos) (ifR p1 f1 f2) := by
  obtain ⟨tc, pc, ec⟩ := hc
  obtain ⟨ta, pa, ea⟩ := ha
  obtain ⟨tb, pb, eb⟩ := hb
  refine ⟨_, pe_ifExp pc pa pb, ?_⟩
  intro H0 A δ σ F fp H Q s h
  refine ec H0 A δ σ F fp H _ s ?_
  unfold ifR at h
  cases hf : p1 δ with
  | ok c =>
    rw [hf] at h
    intro F' H' g
    cases c with
    | false => exact iteF (eb H0 A δ σ F' fp H' Q (s.grow g) (h.later g))
    | true => exact iteT (ea H0 A δ σ F' fp H' Q (s.grow g) (h.later g))
  | er c => rw [hf] at h; exact h
  | no => rw [hf] at h; exact h.elim
/-- a < b < c -/
def chR (g g' : D → D → Opt) (f1 f2 f3 : Dl → Res) : Dl → Res := fun δ => bindR (f1 δ) fun d _ => bindR (f2 δ) fun e _ => match g d e with
  | some (.bl true, .st) => bindR (f3 δ) fun u _ => optR (g' e u)
  | some (.bl false, .st) => .ok (.bl false) .st
  | _ => .no
theorem pd_chain {op op' : CmpOp} {r r' : R2} {g g' : D → D → Opt} (ho : OpR X (compareOp op) r) (hr : OpS T r g) (ho' : OpR X (compareOp op') r') (hr' : OpS T r' g') (ha : PDe X T Z W a f1) (hb : PDe X T Z W b f2) (hc : PDe X T Z W c f3)
    (hm : lastMarks [op, op'] [b, c] = false := by with_unfolding_all rfl) : PDe X T Z W (.Compare a [op, op'] [b, c] pos) (chR g g' f1 f2 f3) := by
  obtain ⟨ta, pa, ea⟩ := ha
  obtain ⟨tb, pb, eb⟩ := hb
  obtain ⟨tc, pc, ec⟩ := hc
  refine ⟨_, pe_chain ho ho' pa pb pc hm, ?_⟩
  intro H0 A δ σ F fp H Q s h
  unfold chR at h
  refine ea.then_ s h _ fun d k v F1 H1 _ g1 s1 r1 h1 => ?_
  have h1' := h1.later g1
  refine eb.then_ s1 h1' _ fun e k2 u F2 H2 _ g2 s2 r2 h2 => ?_
  have q := h2.later g2
  have rv := (r1.rep s1.aH s1.fh).mono g2.hh
  have ru := r2.rep s2.aH s2.fh
  refine hr A F2 H2 _ v u d e s2.aH s2.fh rv ru ?_
  split at q
  · rename_i hg
    rw [hg]
    intro z F3 H3 g3 r3
    have rz : Rep T F3 z (.bl true) := r3
    rw [Rep] at rz
    refine ⟨true, rz, iteT ?_⟩
    have s3 := s2.grow g3
    refine ec.then_ s3 (q.later g3) _ fun e3 k3 w F4 H4 _ g4 s4 r4 h4 => ?_
    exact hr' A F4 H4 Q u w e e3 s4.aH s4.fh ((ru.mono g3.hh).mono g4.hh) (r4.rep s4.aH s4.fh) (h4.later g4).opt
  · rename_i hg
    rw [hg]
    intro z F3 H3 g3 r3
    have rz : Rep T F3 z (.bl false) := r3
    rw [Rep] at rz
    refine ⟨false, rz, iteF ?_⟩
    exact post_st (d := .bl false) g3.fh ((q.later g3 : PostE T A F3 H3 W σ Q (optR (some (.bl false, .st)))).opt) rfl
  · exact q.elim
theorem td_lele (hm : lastMarks [CmpOp.LtE, CmpOp.LtE] [b, c] = false) (ha : PDe X T Z W a f1) (hb : PDe X T Z W b f2) (hc : PDe X T Z W c f3) : PDe X T Z W (.Compare a [.LtE, .LtE] [b, c] pos) (chR gLe gLe f1 f2 f3) :=
  pd_chain op_le os_le op_le os_le ha hb hc hm

/-! ### argument lists -/
def nilR : Dl → ResA := fun _ => .ok [] true
def consR (f : Dl → Res) (g : Dl → ResA) : Dl → ResA := fun δ => match f δ with
  | .ok d k => (match g δ with
    | .ok ds st => .ok (d :: ds) (stK d k && st)
    | .er c => .er c
    | .no => .no)
  | .er c => .er c
  | .no => .no
variable {e : Expr} {es : List Expr} {fa : Dl → ResA}
theorem PostA.later {T : Par} {F H F1 H1 : Hp} {σ : L2.St} {Q : List V → Hp → Prop} {r : ResA} (h : PostA T F H W σ Q r) (g : Grow F H F1 H1) : PostA T F1 H1 W σ Q r := by
  cases r with
  | ok ds st => exact fun vs F' H' g' => h vs F' H' (g.trans g')
  | er c => exact fun F' H' g' => h F' H' (g.trans g')
  | no => exact h
theorem ad_nil : PDa X T Z W [] nilR := ⟨_, pa_nil, fun H0 A δ σ F fp H Q s h => h [] F H (Grow.refl s.fh) (by simp [Reps])⟩
theorem ad_cons (ha : PDe X T Z W e f1) (hr : PDa X T Z W es fa) (hs : starEach (e :: es) X.env = (false, eval e X.env) :: starEach es X.env := by rfl) : PDa X T Z W (e :: es) (consR f1 fa) := by
  obtain ⟨ta, pa, ea⟩ := ha
  obtain ⟨tr, pr, er⟩ := hr
  refine ⟨_, pa_cons pa pr hs, ?_⟩
  intro H0 A δ σ F fp H Q s h
  refine ea H0 A δ σ F fp H _ s ?_
  unfold consR at h
  cases hf : f1 δ with
  | no => rw [hf] at h; exact h.elim
  | er c => rw [hf] at h; exact h
  | ok d k =>
    rw [hf] at h
    intro v F1 H1 g1 r1
    have s1 := s.grow g1
    -- share it, where that can be
    have key : ∀ F1', Same F1 F1' → Same F1' H1 → (∀ a o, F1' a = some o → F1 a = some o ∨ H a = none ∨ isTup o) → (stK d k = true → Rep T F1' v d) → tr σ H1 fun xs H2 => Q (v :: xs) H2 := by
      intro F1' e1 e2 e3 r1'
      have g1' : Grow F H F1' H1 := ⟨g1.ff.trans e1, g1.hh, e2, fun a o q => by
        rcases e3 a o q with z | z | z
        · exact g1.nw a o z
        · exact .inr (.inl z)
        · exact .inr (.inr z)⟩
      refine er H0 A δ σ F1' fp H1 _ (s.grow g1') ?_
      cases hg : fa δ with
      | no => rw [hg] at h; exact h.elim
      | er c => rw [hg] at h; exact fun F' H' g' => h F' H' (g1'.trans g')
      | ok ds st =>
        rw [hg] at h
        intro vs F' H' g' rs
        refine h (v :: vs) F' H' (g1'.trans g') ?_
        by_cases hst : (stK d k && st) = true
        · rw [if_pos hst]
          rw [Bool.and_eq_true] at hst
          rw [if_pos hst.2] at rs
          rw [Reps]
          exact ⟨(r1' hst.1).mono g'.ff, rs⟩
        · rw [if_neg hst]
          rw [Reps]
          refine ⟨(r1.rep s1.aH s1.fh).mono g'.hh, ?_⟩
          by_cases h2 : st = true
          · rw [if_pos h2] at rs; exact rs.mono g'.fh
          · rw [if_neg h2] at rs; exact rs
    by_cases hk : stK d k = true
    · obtain ⟨F1', e1, e2, e3, r1'⟩ := r1.share s1.aH s1.fh hk
      exact key F1' e1 e2 e3 fun _ => r1'
    · exact key F1 (Same.refl _) s1.fh (fun a o q => .inl q) fun z => absurd z hk

/-! ### displays -/
def lstR (fa : Dl → ResA) : Dl → Res := fun δ => match fa δ with
  | .ok ds st => if st = true ∧ ds.length ≤ sizeLine then .ok (.lst ds) .tp else .no
  | .er c => .er c
  | .no => .no
def tupR (fa : Dl → ResA) : Dl → Res := fun δ => match fa δ with
  | .ok ds st => if st = true ∧ ds.length ≤ sizeLine then .ok (.tup ds) .st else .no
  | .er c => .er c
  | .no => .no
theorem pd_lst (h : PDa X T Z W es fa) : PDe X T Z W (.List es pos) (lstR fa) := by
  obtain ⟨t, p, ev⟩ := h
  refine ⟨_, pe_lst p, ?_⟩
  intro H0 A δ σ F fp H Q s h
  refine ev H0 A δ σ F fp H _ s ?_
  unfold lstR at h
  cases hf : fa δ with
  | no => rw [hf] at h; exact h.elim
  | er c => rw [hf] at h; exact h
  | ok ds st =>
    rw [hf] at h
    intro vs F' H' g rs
    simp only at h
    split at h
    · rename_i hc
      rw [if_pos hc.1] at rs
      exact ⟨by rw [rs.length]; exact hc.2, fun p hp => h _ F' _ (g.trans (Grow.cell g.fh hp)) ⟨p, rfl, g.fh.free hp, g.hh.free hp, vs, upd_same, rs⟩⟩
    · exact h.elim
theorem pd_tup {x1} (h : PDa X T Z W es fa) : PDe X T Z W (.Tuple es x1 pos) (tupR fa) := by
  obtain ⟨t, p, ev⟩ := h
  refine ⟨_, pe_tup p, ?_⟩
  intro H0 A δ σ F fp H Q s h
  refine ev H0 A δ σ F fp H _ s ?_
  unfold tupR at h
  cases hf : fa δ with
  | no => rw [hf] at h; exact h.elim
  | er c => rw [hf] at h; exact h
  | ok ds st =>
    rw [hf] at h
    intro vs F' H' g rs
    simp only at h
    split at h
    · rename_i hc
      rw [if_pos hc.1] at rs
      refine ⟨by rw [rs.length]; exact hc.2, fun p hp => h _ _ _ (g.trans (Grow.cellF g.fh hp)) ?_⟩
      show Rep T (upd F' p (.tup vs)) (.ref p) (.tup ds)
      rw [Rep]
      exact ⟨p, vs, rfl, upd_same, rs.mono (upd_sameN (g.fh.free hp))⟩
    · exact h.elim
def gDnew : Dl → Res := fun _ => .ok (.dt []) .tp
theorem pd_dnewT : PDe X T Z W (.Dict [] [] pos) gDnew := by
  refine ⟨_, pe_dnewT, ?_⟩
  intro H0 A δ σ F fp H Q s h
  intro p hp
  exact h _ F _ (Grow.cell s.fh hp) ⟨p, rfl, s.fh.free hp, hp, upd_same⟩

/-! ### calls of built-ins -/
def CallS (T : Par) (r : List V → Hp → VK → Prop) (g : List D → Opt) : Prop := ∀ A F H Q vs ds, Same A H → Same F H → Reps T H vs ds → PostO T A F H Q (g ds) → r vs H Q
def cbR (g : List D → Opt) (fa : Dl → ResA) : Dl → Res := fun δ => match fa δ with
  | .ok ds _ => optR (g ds)
  | .er c => .er c
  | .no => .no
theorem EvA.call {t : TA} {r : List V → Hp → VK → Prop} {g : List D → Opt} (ea : EvA T Z W t fa) (hr : CallS T r g) : EvS T Z W (tCB r t) (cbR g fa) := by
  intro H0 A δ σ F fp H Q s h
  refine ea H0 A δ σ F fp H _ s ?_
  unfold cbR at h
  cases hf : fa δ with
  | no => rw [hf] at h; exact h.elim
  | er c => rw [hf] at h; exact h
  | ok ds st =>
    rw [hf] at h
    intro vs F' H' g' rs
    have s1 := s.grow g'
    refine hr A F' H' Q vs ds s1.aH s1.fh ?_ (h.later g').opt
    by_cases h2 : st = true
    · rw [if_pos h2] at rs; exact rs.mono g'.fh
    · rw [if_neg h2] at rs; exact rs
variable {x : Str} {p : Pos} {id Ty : String} {r : List V → Hp → VK → Prop} {g : List D → Opt}
theorem pd_callB (hc : CallR X (.builtin id) r) (hr : CallS T r g) (hm : X.mg x = none) (hv : bootBuiltins x = some (.builtin id)) (ha : PDa X T Z W (e :: es) fa) (hg : Gl X x := by rfl) (hn : x ≠ "__name__" := by decide) (hdb : (x == ("__debug__" : Str)) = false := by decide)
    (he : starEach (e :: es) X.env = (false, eval e X.env) :: starEach es X.env := by rfl) (hpl : (backTo pos (starEach es X.env)).any (·.1) = false := by rfl) : PDe X T Z W (.Call (.Name x p) (e :: es) [] pos) (cbR g fa) := by
  obtain ⟨t, pa, ea⟩ := ha
  exact ⟨_, pe_callB hc hg hm hv pa hn hdb he hpl, ea.call hr⟩
theorem pd_callTy (hc : CallR X (.type Ty) r) (hr : CallS T r g) (hm : X.mg x = none) (hv : bootBuiltins x = some (.type Ty)) (ha : PDa X T Z W (e :: es) fa) (hg : Gl X x := by rfl) (hn : x ≠ "__name__" := by decide) (hdb : (x == ("__debug__" : Str)) = false := by decide)
    (he : starEach (e :: es) X.env = (false, eval e X.env) :: starEach es X.env := by rfl) (hpl : (backTo pos (starEach es X.env)).any (·.1) = false := by rfl) : PDe X T Z W (.Call (.Name x p) (e :: es) [] pos) (cbR g fa) := by
  obtain ⟨t, pa, ea⟩ := ha
  exact ⟨_, pe_callTy hc hg hm hv pa hn hdb he hpl, ea.call hr⟩
theorem CallR.or {f : Value} {r1 r2 : List V → Hp → VK → Prop} (h1 : CallR X f r1) (h2 : CallR X f r2) : CallR X f (fun vs H Q => r1 vs H Q ∨ r2 vs H Q) :=
  fun pins s σ H xs us Q I r h => h.elim (h1 pins s σ H xs us Q I r) (h2 pins s σ H xs us Q I r)
theorem reps1 {T : Par} {H : Hp} {vs : List V} {d : D} (h : Reps T H vs [d]) : ∃ v, vs = [v] ∧ Rep T H v d := by
  match vs, h with
  | [v], h => simp only [Reps] at h; exact ⟨v, rfl, h.1⟩
  | [], h => simp [Reps] at h
  | v :: w :: r, h => simp [Reps] at h
theorem reps2 {T : Par} {H : Hp} {vs : List V} {d e : D} (h : Reps T H vs [d, e]) : ∃ v w, vs = [v, w] ∧ Rep T H v d ∧ Rep T H w e := by
  match vs, h with
  | [v, w], h => simp only [Reps] at h; exact ⟨v, w, rfl, h.1, h.2.1⟩
  | [], h => simp [Reps] at h
  | [v], h => simp [Reps] at h
  | v :: w :: z :: r, h => simp [Reps] at h
/-- len -/
def gLen : List D → Opt
  | [.str s] => if s.length ≤ sizeLine then some (.int s.length, .st) else none
  | [.lst ds] => some (.int ds.length, .st)
  | [.tup ds] => some (.int ds.length, .st)
  | [.scr ns] => some (.int ns.length, .st)
  | _ => none
theorem cs_len : CallS T (fun xs H Q => ∃ x n, xs = [x] ∧ LenV T.K x H n ∧ Q (.int n) H) gLen := by
  intro A F H Q vs ds hA hF rs h
  unfold gLen at h
  split at h
  · rename_i s
    obtain ⟨v, rfl, rv⟩ := reps1 rs
    rw [Rep] at rv
    subst rv
    split at h
    · rename_i hl
      exact ⟨_, _, rfl, ⟨hl, rfl⟩, post_st hF h rfl⟩
    · exact h.elim
  · rename_i l
    obtain ⟨v, rfl, rv⟩ := reps1 rs
    rw [Rep] at rv
    obtain ⟨q, vs, rfl, h1, h2⟩ := rv
    exact ⟨_, _, rfl, .inl ⟨vs, SqL.of h1, h2.length.symm⟩, post_st hF h rfl⟩
  · rename_i l
    obtain ⟨v, rfl, rv⟩ := reps1 rs
    rw [Rep] at rv
    obtain ⟨q, vs, rfl, h1, h2⟩ := rv
    exact ⟨_, _, rfl, .inr ⟨vs, SqT.of h1, h2.length.symm⟩, post_st hF h rfl⟩
  · rename_i l
    obtain ⟨v, rfl, rv⟩ := reps1 rs
    rw [Rep] at rv
    obtain ⟨q, rfl, h1⟩ := rv
    exact ⟨_, _, rfl, .inl ⟨_, h1, by simp⟩, post_st hF h rfl⟩
  · exact h.elim
end
end
end DD

set_option maxRecDepth 100000
namespace DD
noncomputable section
open PySem L2N
open L2 hiding XE Takes CX takes_of passes_call MkP PMk ps_raise mk_of ps_try_as pmk_own passAt

section
variable {X : Cx} {T : Par} {Z : Hd} {W : WX} {a b c e o : Expr} {es : List Expr} {f1 f2 f3 : Dl → Res} {fa : Dl → ResA} {pos apos cpos : Pos}

/-! ### an item -/
theorem atI_reps {T : Par} {F : Hp} {vs : List V} {ds : List D} {i : Int} {d : D} (h : Reps T F vs ds) (e : atI ds i = some d) : ∃ v, atI vs i = some v ∧ Rep T F v d := by
  unfold atI at e ⊢
  rw [h.length]
  cases hx : ixN ds.length i with
  | none => rw [hx] at e; cases e
  | some j =>
    rw [hx] at e
    exact h.get e
theorem atI_items {α : Type} {vs : List V} {ds : List α} {i : Int} {d : α} (hl : vs.length = ds.length) {P : V → α → Prop} (h : ∀ (i : Nat) (x : α), ds[i]? = some x → ∃ u, vs[i]? = some u ∧ P u x) (e : atI ds i = some d) : ∃ v, atI vs i = some v ∧ P v d := by
  unfold atI at e ⊢
  rw [hl]
  cases hx : ixN ds.length i with
  | none => rw [hx] at e; cases e
  | some j =>
    rw [hx] at e
    exact h _ _ e
/-- an item of something that is held so -/
def kIx (d : D) (k : Kd) : Kd := if stK d k = true then .st else k
def itemD (d : D) (i : Int) : Option D := match d with
  | .lst ds => atI ds i
  | .tup ds => atI ds i
  | .scr ns => (atI ns i).map .int
  | .str s => if s.length ≤ sizeLine then (atI s.cps.toList i).map fun c => .str ⟨#[c]⟩ else none
  | _ => none
def gIx (d : D) (k : Kd) (e : D) : Opt := match e with
  | .int i => (itemD d i).map fun x => (x, kIx d k)
  | _ => none
def ixR (f1 f2 : Dl → Res) : Dl → Res := fun δ => bindR (f1 δ) fun d k => bindR (f2 δ) fun e _ => optR (gIx d k e)
theorem ix_rule {T : Par} {B H : Hp} {v : V} {d x : D} {i : Int} {Q : VK} (hB : Same B H) (r : Rep T B v d) (h : itemD d i = some x) (q : ∀ z, Rep T B z x → Q z H) : rIx T.K v (.int i) H Q := by
  cases d with
  | lst ds =>
    rw [Rep] at r
    obtain ⟨p, vs, rfl, h1, h2⟩ := r
    obtain ⟨z, e1, e2⟩ := atI_reps h2 h
    exact .inl ⟨p, vs, i, z, rfl, rfl, SqL.of (hB _ _ h1), e1, q z e2⟩
  | tup ds =>
    rw [Rep] at r
    obtain ⟨p, vs, rfl, h1, h2⟩ := r
    obtain ⟨z, e1, e2⟩ := atI_reps h2 h
    exact .inr (.inl ⟨p, vs, i, z, rfl, rfl, SqT.of (hB _ _ h1), e1, q z e2⟩)
  | scr ns =>
    rw [Rep] at r
    obtain ⟨p, rfl, h1⟩ := r
    simp only [itemD, Option.map_eq_some_iff] at h
    obtain ⟨n, h2, rfl⟩ := h
    obtain ⟨z, e1, e2⟩ := atI_items (vs := ns.map V.int) (P := fun v m => v = .int m) (by simp) (fun j m e => ⟨.int m, by rw [List.getElem?_map, e]; rfl, rfl⟩) h2
    subst e2
    exact .inl ⟨p, _, i, _, rfl, rfl, hB.seq h1, e1, q _ (by rw [Rep])⟩
  | str s =>
    rw [Rep] at r
    subst r
    simp only [itemD] at h
    split at h
    · rename_i hl
      simp only [Option.map_eq_some_iff] at h
      obtain ⟨c, h2, rfl⟩ := h
      exact .inr (.inr ⟨s, i, c, rfl, rfl, hl, h2, q _ (by rw [Rep])⟩)
    · cases h
  | _ => cases h
theorem pd_ix (ha : PDe X T Z W a f1) (hb : PDe X T Z W b f2) (hs : PlainIx b := by exact fun _ _ => rfl) (hK : X.K = T.K := by rfl) : PDe X T Z W (.Subscript a b pos) (ixR f1 f2) := by
  obtain ⟨ta, pa, ea⟩ := ha
  obtain ⟨tb, pb, eb⟩ := hb
  refine ⟨_, pe_ix ix_seq pa pb hs, ?_⟩
  rw [hK]
  intro H0 A δ σ F fp H Q s h
  unfold ixR at h
  refine ea.then_ s h _ fun d k v F1 H1 _ g1 s1 r1 h1 => ?_
  -- what is wanted, from a base
  have go : ∀ F1', Grow F H F1' H1 → (∀ F2 H2, Grow F1' H1 F2 H2 → ∃ B, Same B H2 ∧ Rep T B v d ∧ ∀ z x, Rep T B z x → ResR T A F2 H2 H2 (kIx d k) z x) →
      tb σ H1 fun y H2 => rIx T.K v y H2 Q := by
    intro F1' g1' hB
    have s1' := s.grow g1'
    refine eb.then_ s1' (h1.later g1') _ fun e k2 u F2 H2 _ g2 s2 r2 h2 => ?_
    have q := (h2.later g2).opt
    have ru := r2.rep s2.aH s2.fh
    cases e with
    | int i =>
      rw [Rep] at ru
      subst ru
      simp only [gIx] at q
      cases hx : itemD d i with
      | none => rw [hx] at q; exact q.elim
      | some x =>
        rw [hx] at q
        obtain ⟨B, b1, b2, b3⟩ := hB F2 H2 g2
        exact ix_rule b1 b2 hx fun z rz => q z F2 H2 (Grow.refl s2.fh) (b3 z x rz)
    | _ => exact q.elim
  by_cases hk : stK d k = true
  · obtain ⟨F1', e1, e2, e3, r1'⟩ := r1.share s1.aH s1.fh hk
    refine go F1' ⟨g1.ff.trans e1, g1.hh, e2, fun a o q => ?_⟩ fun F2 H2 g2 => ⟨F2, g2.fh, r1'.mono g2.ff, fun z x rz => ?_⟩
    · rcases e3 a o q with z | z | z
      · exact g1.nw a o z
      · exact .inr (.inl z)
      · exact .inr (.inr z)
    · unfold kIx
      rw [if_pos hk]
      exact rz
  · refine go F1 g1 fun F2 H2 g2 => ?_
    unfold kIx
    rw [if_neg hk]
    cases k with
    | any => exact ⟨H2, Same.refl _, Rep.mono g2.hh r1, fun z x rz => rz⟩
    | bw => exact ⟨A, s1.aH.trans g2.hh, r1, fun z x rz => rz⟩
    | st => exact absurd rfl hk
    | tp => exact absurd rfl hk
    | dp => exact absurd rfl hk

/-! ### slices -/
def cutD (xs : List D) (lo hi : Option Int) : List D := (xs.drop (HT.sIx xs.length 0 lo)).take (HT.sIx xs.length xs.length hi - HT.sIx xs.length 0 lo)
inductive ResO where
  | ok (i : Option Int) | er (c : Ex) | no
def PostP (T : Par) (F H : Hp) (W : WX) (σ : L2.St) (Q : Option Int → Hp → Prop) : ResO → Prop
  | .ok i => ∀ F' H', Grow F H F' H' → Q i H'
  | .er c => ∀ F' H', Grow F H F' H' → W (.ref (T.cx c)) none σ H'
  | .no => False
def EvO (T : Par) (Z : Hd) (W : WX) (t : TO) (f : Dl → ResO) : Prop :=
  ∀ H0 A δ σ F fp H (Q : Option Int → Hp → Prop), SR T Z H0 A δ σ F fp H → PostP T F H W σ Q (f δ) → t σ H Q
def PDo (X : Cx) (T : Par) (Z : Hd) (W : WX) (e : Option Expr) (f : Dl → ResO) : Prop := ∃ t, PO X e t ∧ EvO T Z W t f
theorem PostP.later {T : Par} {F H F1 H1 : Hp} {σ : L2.St} {Q : Option Int → Hp → Prop} {r : ResO} (h : PostP T F H W σ Q r) (g : Grow F H F1 H1) : PostP T F1 H1 W σ Q r := by
  cases r with
  | ok b => exact fun F' H' g' => h F' H' (g.trans g')
  | er c => exact fun F' H' g' => h F' H' (g.trans g')
  | no => exact h
def noPart : Dl → ResO := fun _ => .ok none
def someR (f : Dl → Res) : Dl → ResO := fun δ => match f δ with
  | .ok (.int i) _ => .ok (some i)
  | .er c => .er c
  | _ => .no
theorem od_none : PDo X T Z W none noPart := ⟨_, po_none, fun H0 A δ σ F fp H Q s h => h F H (Grow.refl s.fh)⟩
theorem od_some (h : PDe X T Z W e f1) : PDo X T Z W (some e) (someR f1) := by
  obtain ⟨t, p, ev⟩ := h
  refine ⟨_, po_some p, ?_⟩
  intro H0 A δ σ F fp H Q s h
  refine ev H0 A δ σ F fp H _ s ?_
  unfold someR at h
  cases hf : f1 δ with
  | no => rw [hf] at h; exact h.elim
  | er c => rw [hf] at h; exact h
  | ok d k =>
    rw [hf] at h
    cases d with
    | int i =>
      intro v F' H' g r
      have s1 := s.grow g
      have rv := r.rep s1.aH s1.fh
      rw [Rep] at rv
      exact ⟨i, rv, h F' H' g⟩
    | _ => exact h.elim
def gSl (d : D) (lo hi : Option Int) : Opt := match d with
  | .lst ds => if imms ds = true then some (.lst (cutD ds lo hi), .tp) else none
  | .str s => if s.length ≤ sizeLine then some (.str (cutS s lo hi), .st) else none
  | _ => none
def slR (f : Dl → Res) (p q : Dl → ResO) : Dl → Res := fun δ => bindR (f δ) fun d _ => match p δ with
  | .ok lo => (match q δ with
    | .ok hi => optR (gSl d lo hi)
    | .er c => .er c
    | .no => .no)
  | .er c => .er c
  | .no => .no
theorem imms_take : ∀ (n : Nat) {xs : List D}, imms xs = true → imms (xs.take n) = true
  | 0, _, _ => by simp [imms]
  | n + 1, [], _ => by simp [imms]
  | n + 1, x :: xs, h => by
    simp only [imms, Bool.and_eq_true] at h
    simp only [List.take_succ_cons, imms, Bool.and_eq_true]
    exact ⟨h.1, imms_take n h.2⟩
theorem imms_drop : ∀ (n : Nat) {xs : List D}, imms xs = true → imms (xs.drop n) = true
  | 0, _, h => by simpa using h
  | n + 1, [], _ => by simp [imms]
  | n + 1, x :: xs, h => by
    simp only [imms, Bool.and_eq_true] at h
    simp only [List.drop_succ_cons]
    exact imms_drop n h.2
theorem imms_rev : ∀ {xs : List D}, imms xs = true → imms xs.reverse = true
  | [], _ => by simp [imms]
  | x :: xs, h => by
    simp only [imms, Bool.and_eq_true] at h
    rw [List.reverse_cons]
    exact imms_append (imms_rev h.2) (by simp [imms, h.1])
variable {lo hi : Option Expr} {p q : Dl → ResO} {p2 : Pos}
def rSlA (K : PySem.W.Frag) : V → Option Int → Option Int → Hp → VK → Prop := fun x lo hi H Q => rSlL K x lo hi H Q ∨ rSlS x lo hi H Q
theorem pd_slice (ha : PDe X T Z W e f1) (hl : PDo X T Z W lo p) (hh : PDo X T Z W hi q) (hK : X.K = T.K := by rfl) : PDe X T Z W (.Subscript e (.Slice lo hi none p2) pos) (slR f1 p q) := by
  obtain ⟨ta, pa, ea⟩ := ha
  obtain ⟨tl, pl, el⟩ := hl
  obtain ⟨th, ph, eh⟩ := hh
  refine ⟨_, pe_slice (r := rSlA X.K) (SlR.or sl_list sl_str) pa pl ph, ?_⟩
  rw [hK]
  intro H0 A δ σ F fp H Q s h
  unfold slR at h
  refine ea.then_ s h _ fun d k v F1 H1 _ g1 s1 r1 h1 => ?_
  have h1 := h1.later g1
  refine el H0 A δ σ F1 fp H1 _ s1 ?_
  cases hp : p δ with
  | no => rw [hp] at h1; exact h1.elim
  | er c => rw [hp] at h1; exact h1
  | ok lo =>
    rw [hp] at h1
    intro F2 H2 g2
    have s2 := s1.grow g2
    refine eh H0 A δ σ F2 fp H2 _ s2 ?_
    have h2 := h1.later g2
    cases hq : q δ with
    | no => rw [hq] at h2; exact h2.elim
    | er c => rw [hq] at h2; exact h2
    | ok hi =>
      rw [hq] at h2
      intro F3 H3 g3
      have s3 := s2.grow g3
      have h3 := (h2.later g3 : PostE T A F3 H3 W σ Q (optR (gSl d lo hi))).opt
      have rv := ((r1.rep s1.aH s1.fh).mono g2.hh).mono g3.hh
      cases d with
      | lst ds =>
        rw [Rep] at rv
        obtain ⟨pp, vs, rfl, e1, e2⟩ := rv
        simp only [gSl] at h3
        split at h3
        · rename_i hi'
          refine .inl ⟨pp, vs, rfl, SqL.of e1, ?_⟩
          refine post_lstI s3.fh h3 (imms_take _ (imms_drop _ hi')) ?_
          unfold cutV cutD
          rw [e2.length]
          exact (e2.drop _).take _
        · exact h3.elim
      | str z =>
        rw [Rep] at rv
        subst rv
        simp only [gSl] at h3
        split at h3
        · rename_i hl
          exact .inr ⟨z, rfl, hl, post_st s3.fh h3 rfl⟩
        · exact h3.elim
      | _ => exact h3.elim
def gRev : D → Opt
  | .lst ds => if imms ds = true then some (.lst ds.reverse, .tp) else none
  | _ => none
theorem pd_rev {k : Nat} {q1 q2 q3 : Pos} (ha : PDe X T Z W e f1) (hK : X.K = T.K := by rfl) : PDe X T Z W (.Subscript e (.Slice none none (some (.UnaryOp .USub (.Constant (.int 1) k q1) q2)) q3) pos) (unR gRev f1) := by
  obtain ⟨ta, pa, ea⟩ := ha
  refine ⟨_, pe_revL pa, ?_⟩
  rw [hK]
  refine ea.un (r := fun x H1 Q => ∃ a xs, x = .ref a ∧ SqL T.K H1 a xs ∧ ∀ p, H1 p = none → Q (.ref p) (upd H1 p (.lst xs.reverse))) fun A F H Q x d hA hF rx h => ?_
  cases d with
  | lst ds =>
    rw [Rep] at rx
    obtain ⟨pp, vs, rfl, e1, e2⟩ := rx
    simp only [gRev] at h
    split at h
    · rename_i hi
      exact ⟨pp, vs, rfl, SqL.of e1, post_lstI hF h (imms_rev hi) e2.reverse⟩
    · exact h.elim
  | _ => exact h.elim

/-! ### in -/
def flats : List D → Option (List V)
  | [] => some []
  | d :: ds => match flatV? d, flats ds with
    | some v, some vs => some (v :: vs)
    | _, _ => none
theorem flatV?_flat {d : D} {v : V} (h : flatV? d = some v) : flatV v = true := by
  cases d <;> first | (cases h; rfl) | cases h
theorem flats_reps {T : Par} {H : Hp} : ∀ {vs : List V} {ds : List D} {ws : List V}, Reps T H vs ds → flats ds = some ws → vs = ws ∧ ws.all flatV = true
  | [], [], ws, _, e => by simp only [flats, Option.some.injEq] at e; subst e; exact ⟨rfl, rfl⟩
  | v :: vs, d :: ds, ws, h, e => by
    rw [Reps] at h
    rw [flats] at e
    cases e1 : flatV? d with
    | none => rw [e1] at e; cases e
    | some x =>
      cases e2 : flats ds with
      | none => rw [e1, e2] at e; cases e
      | some ys =>
        rw [e1, e2] at e
        simp only [Option.some.injEq] at e
        subst e
        obtain ⟨q1, q2⟩ := flats_reps h.2 e2
        rw [flatV?_rep h.1 e1, q1]
        refine ⟨rfl, ?_⟩
        rw [List.all_cons, flatV?_flat e1, q2]; rfl
  | [], _ :: _, _, h, _ => by simp [Reps] at h
  | _ :: _, [], _, h, _ => by simp [Reps] at h
/-- is it in, where this can be told -/
def inB (d e : D) : Option Bool := match e with
  | .lst ds => (match flatV? d, flats ds with
    | some v, some vs => some (inV v vs)
    | _, _ => none)
  | .tup ds => (match flatV? d, flats ds with
    | some v, some vs => some (inV v vs)
    | _, _ => none)
  | .str z => (match d with
    | .str s => (match s.cps.toList with
      | [c] => some (decide (c ∈ z.cps.toList))
      | _ => none)
    | _ => none)
  | _ => none
def gIn (d e : D) : Opt := (inB d e).map fun b => (.bl b, .st)
def gNotIn (d e : D) : Opt := (inB d e).map fun b => (.bl (!b), .st)
def rInSg (neg : Bool) : R2 := fun x y H Q => ∃ (c : Nat) (z : Str), x = .str ⟨#[c]⟩ ∧ y = .str z ∧ Q (.bl (if neg then !decide (c ∈ z.cps.toList) else decide (c ∈ z.cps.toList))) H
def rInA (K : PySem.W.Frag) (neg : Bool) : R2 := fun x y H Q => rIn K neg x y H Q ∨ rInSg neg x y H Q
theorem str_one {s : Str} {c : Nat} (h : s.cps.toList = [c]) : s = ⟨#[c]⟩ := by
  obtain ⟨a⟩ := s
  congr 1
  apply Array.ext'
  simpa using h
theorem inB_rule {T : Par} {H : Hp} {x y : V} {d e : D} {b : Bool} (rx : Rep T H x d) (ry : Rep T H y e) (h : inB d e = some b) :
    (∃ p xs, y = .ref p ∧ (SqL T.K H p xs ∨ SqT T.K H p xs) ∧ flatV x = true ∧ xs.all flatV = true ∧ inV x xs = b) ∨ ∃ (c : Nat) (z : Str), x = .str ⟨#[c]⟩ ∧ y = .str z ∧ decide (c ∈ z.cps.toList) = b := by
  unfold inB at h
  cases e with
  | lst ds =>
    simp only at h
    split at h
    · rename_i v vs h1 h2
      rw [Rep] at ry
      obtain ⟨p, ws, rfl, e1, e2⟩ := ry
      obtain ⟨rfl, e3⟩ := flats_reps e2 h2
      cases flatV?_rep rx h1
      exact .inl ⟨p, _, rfl, .inl (SqL.of e1), flatV?_flat h1, e3, Option.some.inj h⟩
    · cases h
  | tup ds =>
    simp only at h
    split at h
    · rename_i v vs h1 h2
      rw [Rep] at ry
      obtain ⟨p, ws, rfl, e1, e2⟩ := ry
      obtain ⟨rfl, e3⟩ := flats_reps e2 h2
      cases flatV?_rep rx h1
      exact .inl ⟨p, _, rfl, .inr (SqT.of e1), flatV?_flat h1, e3, Option.some.inj h⟩
    · cases h
  | str z =>
    simp only at h
    split at h
    · rename_i s
      split at h
      · rename_i c hc
        rw [Rep] at rx ry
        subst rx ry
        exact .inr ⟨c, z, by rw [str_one hc], rfl, Option.some.inj h⟩
      · cases h
    · cases h
  | _ => cases h
theorem os_in : OpS T (rInA T.K false) gIn := by
  intro A F H Q x y d e hA hF rx ry h
  unfold gIn at h
  cases hb : inB d e with
  | none => rw [hb] at h; exact h.elim
  | some b =>
    rw [hb] at h
    have q : Q (.bl b) H := post_st hF h rfl
    rcases inB_rule rx ry hb with ⟨p, xs, h1, h2, h3, h4, h5⟩ | ⟨c, z, h1, h2, h3⟩
    · exact .inl ⟨p, xs, h1, h2, h3, h4, by rw [if_neg Bool.false_ne_true, h5]; exact q⟩
    · exact .inr ⟨c, z, h1, h2, by rw [if_neg Bool.false_ne_true, h3]; exact q⟩
theorem os_notIn : OpS T (rInA T.K true) gNotIn := by
  intro A F H Q x y d e hA hF rx ry h
  unfold gNotIn at h
  cases hb : inB d e with
  | none => rw [hb] at h; exact h.elim
  | some b =>
    rw [hb] at h
    have q : Q (.bl (!b)) H := post_st hF h rfl
    rcases inB_rule rx ry hb with ⟨p, xs, h1, h2, h3, h4, h5⟩ | ⟨c, z, h1, h2, h3⟩
    · exact .inl ⟨p, xs, h1, h2, h3, h4, by rw [if_pos rfl, h5]; exact q⟩
    · exact .inr ⟨c, z, h1, h2, by rw [if_pos rfl, h3]; exact q⟩
theorem op_inSg : OpR X (compareOp .In) (rInSg false) := fun pins s σ H x y v u Q I rx ry h => by
  obtain ⟨c, z, h1, h2, h3⟩ := h
  exact op_in_sign pins s σ H x y v u Q I rx ry ⟨c, z, h1, h2, h3⟩
theorem op_ninSg : OpR X (compareOp .NotIn) (rInSg true) := fun pins s σ H x y v u Q I rx ry h => by
  obtain ⟨c, z, h1, h2, h3⟩ := h
  exact op_notIn_sign pins s σ H x y v u Q I rx ry ⟨c, z, h1, h2, h3⟩
theorem pd_in (ha : PDe X T Z W a f1) (hb : PDe X T Z W b f2) (hm : behindInMarks .In b = false := by rfl) (hK : X.K = T.K := by rfl) : PDe X T Z W (.Compare a [.In] [b] pos) (opR gIn f1 f2) := by
  refine pd_cmp (r := rInA T.K false) ?_ os_in ha hb hm
  rw [← hK]
  exact OpR.or op_in_seq op_inSg
theorem pd_notIn (ha : PDe X T Z W a f1) (hb : PDe X T Z W b f2) (hm : behindInMarks .NotIn b = false := by rfl) (hK : X.K = T.K := by rfl) : PDe X T Z W (.Compare a [.NotIn] [b] pos) (opR gNotIn f1 f2) := by
  refine pd_cmp (r := rInA T.K true) ?_ os_notIn ha hb hm
  rw [← hK]
  exact OpR.or op_notIn_seq op_ninSg

/-! ### keys -/
def keyD : D → Option Key
  | .int i => some (.inl i)
  | .str s => some (.inr s)
  | _ => none
def keysD : List D → Option (List Key)
  | [] => some []
  | d :: ds => match keyD d, keysD ds with
    | some k, some ks => some (k :: ks)
    | _, _ => none
theorem keyD_rep {T : Par} {H : Hp} {v : V} {d : D} {k : Key} (h : Rep T H v d) (e : keyD d = some k) : v = kV k := by
  cases d with
  | int i => cases e; rw [Rep] at h; exact h
  | str i => cases e; rw [Rep] at h; exact h
  | _ => cases e
theorem keysD_reps {T : Par} {H : Hp} : ∀ {vs : List V} {ds : List D} {ks : List Key}, Reps T H vs ds → keysD ds = some ks → vs = ks.map kV
  | [], [], ks, _, e => by simp only [keysD, Option.some.injEq] at e; subst e; rfl
  | v :: vs, d :: ds, ks, h, e => by
    rw [Reps] at h
    rw [keysD] at e
    cases e1 : keyD d with
    | none => rw [e1] at e; cases e
    | some x =>
      cases e2 : keysD ds with
      | none => rw [e1, e2] at e; cases e
      | some ys =>
        rw [e1, e2] at e
        simp only [Option.some.injEq] at e
        subst e
        rw [keyD_rep h.1 e1, keysD_reps h.2 e2]; rfl
  | [], _ :: _, _, h, _ => by simp [Reps] at h
  | _ :: _, [], _, h, _ => by simp [Reps] at h
/-- what a dict holds at a key -/
def lookS {κ : Type} [DecidableEq κ] : List (κ × Sc) → κ → Option Sc
  | [], _ => none
  | kv :: r, k => if kv.1 = k then some kv.2 else lookS r k
theorem valV_lookS {κ : Type} [DecidableEq κ] (k : κ) : ∀ (kvs : List (κ × Sc)), valV (kvs.map fun kv => (kv.1, kv.2.v)) k = (lookS kvs k).map Sc.v
  | [] => rfl
  | kv :: r => by
    have ih := valV_lookS k r
    unfold valV at ih ⊢
    unfold lookS
    rw [List.map_cons, List.find?_cons]
    by_cases h : kv.1 = k
    · simp [h]
    · simp only [h, decide_false, if_false]
      exact ih
/-- the dict d at the key e -/
def dgetB (d e : D) : Option (Option Sc) := match d with
  | .dt kvs => (match e with
    | .tup ds => (match keysD ds with
      | some k => some (lookS kvs k)
      | none => none)
    | _ => none)
  | .dk kvs => (match keyD e with
    | some k => some (lookS kvs k)
    | none => none)
  | _ => none
theorem dgetB_rule {T : Par} {H : Hp} {x y : V} {d e : D} {r : Option Sc} (rx : Rep T H x d) (ry : Rep T H y e) (h : dgetB d e = some r) : ∃ p, x = .ref p ∧ DGet H p y (r.map Sc.v) ∧ IsD H p := by
  unfold dgetB at h
  cases d with
  | dt kvs =>
    rw [Rep] at rx
    obtain ⟨p, rfl, e1⟩ := rx
    simp only at h
    split at h
    · rename_i ds
      split at h
      · rename_i k hk
        rw [Rep] at ry
        obtain ⟨q, vs, rfl, e2, e3⟩ := ry
        rw [keysD_reps e3 hk] at e2
        refine ⟨p, rfl, ?_, .inr ⟨_, .inl e1⟩⟩
        rw [← Option.some.inj h, ← valV_lookS]
        exact DGet.t e1 e2
      · cases h
    · cases h
  | dk kvs =>
    rw [Rep] at rx
    obtain ⟨p, rfl, e1⟩ := rx
    simp only at h
    split at h
    · rename_i k hk
      rw [keyD_rep ry hk]
      refine ⟨p, rfl, ?_, .inl ⟨_, .inl e1⟩⟩
      rw [← Option.some.inj h, ← valV_lookS]
      exact DGet.k e1
    · cases h
  | _ => cases h
def scD (s : Sc) : D × Kd := (s.d, .st)
theorem sc_flat (s : Sc) : flatD s.v = some s.d := by cases s <;> rfl
def gDIn (d e : D) : Opt := (dgetB e d).map fun r => (.bl r.isSome, .st)
def gDNotIn (d e : D) : Opt := (dgetB e d).map fun r => (.bl (!r.isSome), .st)
def gDGet (d e : D) : Opt := (dgetB d e).bind fun r => r.map scD
def gDGet1 (d e : D) : Opt := (dgetB d e).map fun r => match r with
  | some s => scD s
  | none => (.non, .st)
/-- key in dict -/
theorem pd_din (hu : X.A.units + 1 < cLine) (ha : PDe X T Z W a f1) (hb : PDe X T Z W b f2) (h1 : behindInMarks .In b = false := by rfl) : PDe X T Z W (.Compare a [.In] [b] pos) (opR gDIn f1 f2) := by
  obtain ⟨ta, pa, ea⟩ := ha
  obtain ⟨tb, pb, eb⟩ := hb
  refine ⟨_, pe_cmp (pc_din hu pa pb) h1, ?_⟩
  refine EvS.two (r := fun y x H Q => ∃ a o, x = .ref a ∧ DGet H a y o ∧ Q (.bl o.isSome) H) ea eb fun A F H Q y x d e hA hF ry rx h => ?_
  unfold gDIn at h
  cases hb : dgetB e d with
  | none => rw [hb] at h; exact h.elim
  | some r =>
    rw [hb] at h
    obtain ⟨p, rfl, q, _⟩ := dgetB_rule rx ry hb
    refine ⟨p, _, rfl, q, ?_⟩
    rw [Option.isSome_map]
    exact post_st hF h rfl
theorem pd_dnotin (hu : X.A.units + 1 < cLine) (ha : PDe X T Z W a f1) (hb : PDe X T Z W b f2) (h1 : behindInMarks .NotIn b = false := by rfl) : PDe X T Z W (.Compare a [.NotIn] [b] pos) (opR gDNotIn f1 f2) := by
  obtain ⟨ta, pa, ea⟩ := ha
  obtain ⟨tb, pb, eb⟩ := hb
  refine ⟨_, pe_cmp (pc_dnotin hu pa pb) h1, ?_⟩
  refine EvS.two (r := fun y x H Q => ∃ a o, x = .ref a ∧ DGet H a y o ∧ Q (.bl (!o.isSome)) H) ea eb fun A F H Q y x d e hA hF ry rx h => ?_
  unfold gDNotIn at h
  cases hb : dgetB e d with
  | none => rw [hb] at h; exact h.elim
  | some r =>
    rw [hb] at h
    obtain ⟨p, rfl, q, _⟩ := dgetB_rule rx ry hb
    refine ⟨p, _, rfl, q, ?_⟩
    rw [Option.isSome_map]
    exact post_st hF h rfl
/-- d[k] -/
theorem pd_dget (hu : X.A.units + 1 < cLine) (ha : PDe X T Z W a f1) (hb : PDe X T Z W b f2) (hs : NoSl b := by exact fun _ _ => rfl) : PDe X T Z W (.Subscript a b pos) (opR gDGet f1 f2) := by
  obtain ⟨ta, pa, ea⟩ := ha
  obtain ⟨tb, pb, eb⟩ := hb
  refine ⟨_, pe_dget hu pa pb hs, ?_⟩
  refine EvS.two (r := fun x y H Q => ∃ a v, x = .ref a ∧ DGet H a y (some v) ∧ Q v H) ea eb fun A F H Q x y d e hA hF rx ry h => ?_
  unfold gDGet at h
  cases hb : dgetB d e with
  | none => rw [hb] at h; exact h.elim
  | some r =>
    rw [hb] at h
    cases r with
    | none => exact h.elim
    | some z =>
      obtain ⟨p, rfl, q, _⟩ := dgetB_rule rx ry hb
      exact ⟨p, _, rfl, q, post_st hF h (sc_flat z)⟩
def isDic : D → Bool
  | .dt _ => true
  | .dk _ => true
  | _ => false
def dg1R (f1 f2 : Dl → Res) : Dl → Res := fun δ => bindR (f1 δ) fun d _ => if isDic d = true then bindR (f2 δ) fun e _ => optR (gDGet1 d e) else .no
/-- d.get(k) -/
theorem pd_dget1 (hu : X.A.units + 1 < cLine) (ha : PDe X T Z W a f1) (hb : PDe X T Z W b f2) (m : M1 X a "get" apos b cpos) : PDe X T Z W (.Call (.Attribute a "get" apos) [b] [] cpos) (dg1R f1 f2) := by
  obtain ⟨ta, pa, ea⟩ := ha
  obtain ⟨tb, pb, eb⟩ := hb
  refine ⟨_, pe_dget1 hu pa pb m, ?_⟩
  intro H0 A δ σ F fp H Q s h
  unfold dg1R at h
  refine ea.then_ s h _ fun d k v F1 H1 hf g1 s1 r1 h1 => ?_
  have rv := r1.rep s1.aH s1.fh
  split at h1
  case isFalse => exact h1.elim
  rename_i hd
  have hp : ∃ p, v = .ref p ∧ IsD H1 p := by
    cases d with
    | dt kvs =>
      rw [Rep] at rv
      obtain ⟨p, rfl, e1⟩ := rv
      exact ⟨p, rfl, .inr ⟨_, .inl e1⟩⟩
    | dk kvs =>
      rw [Rep] at rv
      obtain ⟨p, rfl, e1⟩ := rv
      exact ⟨p, rfl, .inl ⟨_, .inl e1⟩⟩
    | _ => cases hd
  obtain ⟨p, rfl, hp⟩ := hp
  refine ⟨p, rfl, hp, ?_⟩
  refine eb.then_ s1 (h1.later g1) _ fun e k2 u F2 H2 _ g2 s2 r2 h2 => ?_
  have q := (h2.later g2).opt
  unfold gDGet1 at q
  cases hb : dgetB d e with
  | none => rw [hb] at q; exact q.elim
  | some r =>
    rw [hb] at q
    obtain ⟨p', e0, q1, _⟩ := dgetB_rule (rv.mono g2.hh) (r2.rep s2.aH s2.fh) hb
    cases e0
    refine ⟨_, q1, ?_⟩
    cases r with
    | none => exact post_st s2.fh q rfl
    | some z => exact post_st s2.fh q (sc_flat z)
end
end
end DD

set_option maxRecDepth 100000
namespace DD
noncomputable section
open PySem L2N
open L2 hiding XE Takes CX takes_of passes_call MkP PMk ps_raise mk_of ps_try_as pmk_own passAt

/-! ### what stands behind a statement -/
inductive Out where
  | nx (δ : Dl) | rt (d : D) | bk (δ : Dl) | ct (δ : Dl) | er (c : Ex) (δ : Dl) | no
def PostS (T : Par) (Z : Hd) (H0 A : Hp) (W : WX) (E : Ends) (F : Hp) : Out → Prop
  | .nx δ => ∀ σ F' fp H', Same F F' → SR T Z H0 A δ σ F' fp H' → E.nx σ H'
  | .rt d => ∀ v F' H', Same H0 H' → Same F' H' → (∀ a o, F' a = some o → H0 a = none ∨ isTup o) → Rep T F' v d → E.rt v H'
  | .bk δ => ∀ σ F' fp H', Same F F' → SR T Z H0 A δ σ F' fp H' → E.bk σ H'
  | .ct δ => ∀ σ F' fp H', Same F F' → SR T Z H0 A δ σ F' fp H' → E.ct σ H'
  | .er c δ => ∀ σ F' fp H', Same F F' → SR T Z H0 A δ σ F' fp H' → W (.ref (T.cx c)) none σ H'
  | .no => False
def StS (T : Par) (Z : Hd) (W : WX) (t : TS) (f : Dl → Out) : Prop := ∀ H0 A δ σ F fp H (E : Ends), SR T Z H0 A δ σ F fp H → PostS T Z H0 A W E F (f δ) → t E σ H
def PDs (X : Cx) (T : Par) (Z : Hd) (W : WX) (st : Stmt) (f : Dl → Out) : Prop := ∃ t, PS X st t ∧ StS T Z W t f
def PDss (X : Cx) (T : Par) (Z : Hd) (W : WX) (st : List Stmt) (f : Dl → Out) : Prop := ∃ t, PSs X st t ∧ StS T Z W t f
theorem PostS.later {T : Par} {Z : Hd} {H0 A : Hp} {W : WX} {E : Ends} {F F1 : Hp} {o : Out} (h : PostS T Z H0 A W E F o) (e : Same F F1) : PostS T Z H0 A W E F1 o := by
  cases o with
  | nx δ => exact fun σ F' fp H' g s => h σ F' fp H' (e.trans g) s
  | rt d => exact h
  | bk δ => exact fun σ F' fp H' g s => h σ F' fp H' (e.trans g) s
  | ct δ => exact fun σ F' fp H' g s => h σ F' fp H' (e.trans g) s
  | er c δ => exact fun σ F' fp H' g s => h σ F' fp H' (e.trans g) s
  | no => exact h
def seqO (o : Out) (k : Dl → Out) : Out := match o with
  | .nx δ => k δ
  | o => o

section
variable {X : Cx} {T : Par} {Z : Hd} {W : WX} {H0 A : Hp} {δ : Dl} {σ : L2.St} {F H F' H' : Hp} {fp : Nat → Addr → Prop} {st : Stmt} {rest body : List Stmt} {t u : TS} {e a b c : Expr} {f1 f2 f3 : Dl → Res} {p1 : Dl → ResB} {k1 k2 : Dl → Out} {pos pos' : Pos}

/-! ### a slot is set -/
theorem SR.put (s : SR T Z H0 A δ σ F fp H) (i : Nat) {x : Slot} {v : V} {S : Addr → Prop} (hS : ∀ a, S a → F a = none ∧ H0 a = none ∧ ∃ o, H a = some o ∧ ¬ isTup o) (hd : ∀ j a, j ≠ i → fp j a → ¬ S a) (hx : SlotR T Z A F H S x (some v)) :
    SR T Z H0 A (δ.set i x) (σ.set i (some v)) F (fun j => if j = i then S else fp j) H := by
  refine ⟨s.h0, s.ah, s.fh, s.fn, fun j a h => ?_, fun j k a h1 h2 => ?_, fun j y e => ?_, by simp [s.len]⟩
  · by_cases hj : j = i
    · simp only [hj, if_true] at h; exact hS a h
    · simp only [hj, if_false] at h; exact s.own j a h
  · by_cases hj : j = i
    · by_cases hk : k = i
      · rw [hj, hk]
      · simp only [hj, if_true] at h1
        simp only [hk, if_false] at h2
        exact absurd h1 (hd k a hk h2)
    · by_cases hk : k = i
      · simp only [hj, if_false] at h1
        simp only [hk, if_true] at h2
        exact absurd h2 (hd j a hj h1)
      · simp only [hj, if_false] at h1
        simp only [hk, if_false] at h2
        exact s.sep j k a h1 h2
  · by_cases hj : j = i
    · subst hj
      have hlt : j < δ.length := by
        have := (List.getElem?_eq_some_iff.mp e).1
        simpa using this
      rw [List.getElem?_set_self hlt] at e
      cases e
      refine ⟨some v, List.getElem?_set_self (by rw [s.len]; exact hlt), ?_⟩
      simp only [if_true]
      exact hx
    · rw [List.getElem?_set_ne (Ne.symm hj)] at e
      obtain ⟨o, h1, h2⟩ := s.sl j y e
      refine ⟨o, by rw [List.getElem?_set_ne (Ne.symm hj)]; exact h1, ?_⟩
      simp only [hj, if_false]
      exact h2
/-- what a name holds behind a store -/
def setS (d : D) (k : Kd) : Option Slot := if imm d = true then some (.sh d) else match k with
  | .st => some (.sh d)
  | .bw => some (.bo d)
  | .any => none
  | .tp => some (.ow d)
  | .dp => (match d with
    | .lst ds => if imms ds = true then some (.ow d) else some (.dp d)
    | _ => some (.dp d))
theorem fresh_sep (s : SR T Z H0 A δ σ F fp H) {S : Addr → Prop} (hS : ∀ a, S a → H a = none) (i : Nat) : ∀ j a, j ≠ i → fp j a → ¬ S a := fun j a _ h z => by
  obtain ⟨_, _, o, h1, _⟩ := s.own j a h
  rw [hS a z] at h1; cases h1
theorem SR.setR (s : SR T Z H0 A δ σ F fp H) (g : Grow F H F' H') (i : Nat) {k : Kd} {v : V} {d : D} {x : Slot} (r : ResR T A F' H' H k v d) (hs : setS d k = some x) :
    ∃ F'' fp', Same F F'' ∧ SR T Z H0 A (δ.set i x) (σ.set i (some v)) F'' fp' H' := by
  have s' := s.grow g
  -- shared
  have shared : stK d k = true → x = .sh d → ∃ F'' fp', Same F F'' ∧ SR T Z H0 A (δ.set i x) (σ.set i (some v)) F'' fp' H' := by
    rintro hk rfl
    obtain ⟨F2, e1, e2, e3, r2⟩ := r.share s'.aH s'.fh hk
    have g2 : Grow F H F2 H' := ⟨g.ff.trans e1, g.hh, e2, fun a o q => by
      rcases e3 a o q with z | z | z
      · exact g.nw a o z
      · exact .inr (.inl z)
      · exact .inr (.inr z)⟩
    have s2 := s.grow g2
    exact ⟨F2, _, g2.ff, s2.put i (S := fun _ => False) (fun _ z => z.elim) (fun _ _ _ _ z => z) ⟨v, rfl, r2⟩⟩
  unfold setS at hs
  split at hs
  · rename_i hi
    cases hs
    refine shared ?_ rfl
    cases k <;> first | rfl | exact hi
  · cases k with
    | st => cases hs; exact shared rfl rfl
    | bw => cases hs; exact ⟨F', _, g.ff, s'.put i (S := fun _ => False) (fun _ z => z.elim) (fun _ _ _ _ z => z) ⟨v, rfl, r⟩⟩
    | any => cases hs
    | tp =>
      cases hs
      obtain ⟨p, rfl, h1, h2, r⟩ := r
      obtain ⟨o, ho, hn⟩ := r.cell
      exact ⟨F', _, g.ff, s'.put i (S := fun a => a = p) (fun a z => by subst z; exact ⟨h1, s.h0.free h2, o, ho, hn⟩) (fresh_sep s (fun a z => by subst z; exact h2) i) ⟨p, rfl, rfl, r⟩⟩
    | dp =>
      have deep : x = .dp d → ∃ F'' fp', Same F F'' ∧ SR T Z H0 A (δ.set i x) (σ.set i (some v)) F'' fp' H' := by
        rintro rfl
        obtain ⟨G, h1, h2, r⟩ := r
        have nt : ∀ a, (∃ u, G a = some u ∧ ¬ isTup u) → F' a = none ∧ H a = none := fun a ⟨u, e1, e2⟩ => by
          rcases h2 a u e1 with t | t
          · exact absurd t e2
          · exact t
        have hS : ∀ a, (∃ u, G a = some u ∧ ¬ isTup u) → F' a = none ∧ H0 a = none ∧ ∃ o, H' a = some o ∧ ¬ isTup o := fun a z => by
          obtain ⟨t1, t2⟩ := nt a z
          obtain ⟨u, e1, e2⟩ := z
          exact ⟨t1, s.h0.free t2, u, h1 _ _ e1, e2⟩
        have hG : ∀ a u, G a = some u → isTup u ∨ ∃ u, G a = some u ∧ ¬ isTup u := fun a u e => by
          by_cases t : isTup u
          · exact .inl t
          · exact .inr ⟨u, e, t⟩
        exact ⟨F', _, g.ff, s'.put i (S := fun a => ∃ u, G a = some u ∧ ¬ isTup u) hS (fresh_sep s (fun a z => (nt a z).2) i) ⟨v, rfl, G, h1, hG, r⟩⟩
      cases d with
      | lst ds =>
        simp only at hs
        split at hs
        · rename_i hi
          cases hs
          obtain ⟨G, h1, h2, r⟩ := r
          rw [Rep] at r
          obtain ⟨p, vs, rfl, e1, e2⟩ := r
          have hp : F' p = none ∧ H p = none := by
            rcases h2 p _ e1 with ⟨_, z⟩ | t
            · cases z
            · exact t
          have gt : Grow F H (hun F' (tuF H')) H' := ⟨g.ff.trans hun_l, g.hh, hun_in g.fh (tuF_same H'), fun a o e => by
            rcases hun_inv e with e | e
            · exact g.nw a o e
            · exact .inr (.inr (tuF_inv e).2)⟩
          have s2 := s.grow gt
          have hp' : (hun F' (tuF H')) p = none := by
            cases q : (hun F' (tuF H')) p with
            | none => rfl
            | some o =>
              rcases hun_inv q with q | q
              · rw [hp.1] at q; cases q
              · obtain ⟨q1, ws, q2⟩ := tuF_inv q
                rw [h1 _ _ e1] at q1
                cases q1
                cases q2
          exact ⟨_, _, gt.ff, s2.put i (S := fun a => a = p) (fun a z => by subst z; exact ⟨hp', s.h0.free hp.2, _, h1 _ _ e1, fun ⟨_, z⟩ => nomatch z⟩) (fresh_sep s (fun a z => by subst z; exact hp.2) i)
            ⟨p, rfl, rfl, vs, h1 _ _ e1, (Reps.imm hi (e2.mono h1)).mono (hun_r g.fh (tuF_same H'))⟩⟩
        · cases hs; exact deep rfl
      | _ => cases hs; exact deep rfl

def setO (i : Nat) (f : Dl → Res) : Dl → Out := fun δ => match f δ with
  | .ok d k => (match setS d k with
    | some x => .nx (δ.set i x)
    | none => .no)
  | .er c => .er c δ
  | .no => .no
/-- an expression's value goes on into a statement's end -/
theorem EvS.stm {te : TE} (ev : EvS T Z W te f1) (s : SR T Z H0 A δ σ F fp H) {E : Ends} {R : VK} {o : Out} (h : PostS T Z H0 A W E F o)
    (he : ∀ c, f1 δ = .er c → o = .er c δ) (hn : f1 δ = .no → o = .no) (k : ∀ d kd v F' H', f1 δ = .ok d kd → Grow F H F' H' → ResR T A F' H' H kd v d → R v H') : te σ H R := by
  refine ev H0 A δ σ F fp H R s ?_
  cases hf : f1 δ with
  | ok d kd => exact fun v F' H' g r => k d kd v F' H' hf g r
  | er c =>
    rw [he c hf] at h
    exact fun F' H' g => h σ F' fp H' g.ff (s.grow g)
  | no =>
    rw [hn hf] at h
    exact h
theorem ss_set {te : TE} (ev : EvS T Z W te f1) (i : Nat) : StS T Z W (tAsg te (gName i)) (setO i f1) := by
  intro H0 A δ σ F fp H E s h
  refine ev.stm s h (fun c hc => by unfold setO; rw [hc]) (fun hc => by unfold setO; rw [hc]) fun d kd v F' H' hf g r => ?_
  unfold setO at h
  rw [hf] at h
  simp only at h
  cases hs : setS d kd with
  | none => rw [hs] at h; exact h.elim
  | some x =>
    rw [hs] at h
    obtain ⟨F2, fp2, e, s2⟩ := s.setR g i r hs
    exact h _ F2 fp2 H' e s2
theorem sd_set (i : Nat) {x : Str} (he : PDe X T Z W e f1) (hN : X.N.Nodup) (hi : X.N[i]? = some x := by rfl) (hx : Loc X.env.scope x := by first | exact Or.inl rfl | exact Or.inr rfl) (hs : swapsWith e (some (.Name x pos')) pos.line X.env = pure false := by rfl) (hf : X.fn x = true ∨ X.env.scope.names.lookup x = some .local := by first | exact .inl rfl | exact .inr rfl) :
    PDs X T Z W (.Assign [.Name x pos'] e pos) (setO i f1) := by
  obtain ⟨t, p, ev⟩ := he
  exact ⟨_, ps_set hN hi hx p hs hf, ss_set ev i⟩

/-! ### blocks -/
theorem sd_nil : PDss X T Z W [] .nx := ⟨_, pss_nil, fun H0 A δ σ F fp H E s h => h σ F fp H (Same.refl _) s⟩
theorem StS.seq (h1 : StS T Z W t k1) (h2 : StS T Z W u k2) : StS T Z W (tSeq t u) (fun δ => seqO (k1 δ) k2) := by
  intro H0 A δ σ F fp H E s h
  have h : PostS T Z H0 A W E F (seqO (k1 δ) k2) := h
  refine h1 H0 A δ σ F fp H _ s ?_
  cases hk : k1 δ with
  | nx δ' =>
    rw [hk] at h
    exact fun σ' F' fp' H' e s' => h2 H0 A δ' σ' F' fp' H' E s' (PostS.later h e)
  | rt d => rw [hk] at h; exact h
  | bk δ' => rw [hk] at h; exact h
  | ct δ' => rw [hk] at h; exact h
  | er c δ' => rw [hk] at h; exact h
  | no => rw [hk] at h; exact h
theorem sd_cons (h1 : PDs X T Z W st k1) (h2 : PDss X T Z W rest k2) : PDss X T Z W (st :: rest) (fun δ => seqO (k1 δ) k2) := by
  obtain ⟨t, p, ev⟩ := h1
  obtain ⟨u, q, ew⟩ := h2
  exact ⟨_, pss_cons p q, ev.seq ew⟩
theorem sd_one (h1 : PDs X T Z W st k1) : PDss X T Z W [st] k1 := by
  obtain ⟨t, p, ev⟩ := h1
  exact ⟨_, pss_one p, ev⟩
theorem sd_break : PDs X T Z W (.Break pos) .bk := ⟨_, ps_break, fun H0 A δ σ F fp H E s h => h σ F fp H (Same.refl _) s⟩
theorem sd_cont : PDs X T Z W (.Continue pos) .ct := ⟨_, ps_continue, fun H0 A δ σ F fp H E s h => h σ F fp H (Same.refl _) s⟩
theorem sd_pass : PDs X T Z W (.Pass pos) .nx := ⟨_, ps_pass, fun H0 A δ σ F fp H E s h => h σ F fp H (Same.refl _) s⟩
/-- a never-reached statement -/
theorem sd_never : PDs X T Z W st (fun _ => .no) := ⟨_, ps_never, fun H0 A δ σ F fp H E s h => h.elim⟩
def ifO (p : Dl → ResB) (k1 k2 : Dl → Out) : Dl → Out := fun δ => match p δ with
  | .ok true => k1 δ
  | .ok false => k2 δ
  | .er c => .er c δ
  | .no => .no
theorem sd_if {sa sb : List Stmt} (hc : PDt X T Z W c p1) (ha : PDss X T Z W sa k1) (hb : PDss X T Z W sb k2) : PDs X T Z W (.If c sa sb pos) (ifO p1 k1 k2) := by
  obtain ⟨tc, pc, ec⟩ := hc
  obtain ⟨ta, pa, ea⟩ := ha
  obtain ⟨tb, pb, eb⟩ := hb
  refine ⟨_, ps_if pc pa pb, ?_⟩
  intro H0 A δ σ F fp H E s h
  refine ec H0 A δ σ F fp H _ s ?_
  unfold ifO at h
  cases hp : p1 δ with
  | ok b =>
    rw [hp] at h
    intro F' H' g
    cases b with
    | true => exact iteT (ea H0 A δ σ F' fp H' E (s.grow g) (h.later g.ff))
    | false => exact iteF (eb H0 A δ σ F' fp H' E (s.grow g) (h.later g.ff))
  | er c => rw [hp] at h; exact fun F' H' g => h σ F' fp H' g.ff (s.grow g)
  | no => rw [hp] at h; exact h
def retO (f : Dl → Res) : Dl → Out := fun δ => match f δ with
  | .ok d k => if stK d k = true then .rt d else .no
  | .er c => .er c δ
  | .no => .no
theorem sd_ret (he : PDe X T Z W e f1) : PDs X T Z W (.Return (some e) pos) (retO f1) := by
  obtain ⟨t, p, ev⟩ := he
  refine ⟨_, ps_ret p, ?_⟩
  intro H0 A δ σ F fp H E s h
  refine ev.stm s h (fun c hc => by unfold retO; rw [hc]) (fun hc => by unfold retO; rw [hc]) fun d kd v F' H' hf g r => ?_
  unfold retO at h
  rw [hf] at h
  simp only at h
  split at h
  · rename_i hk
    have s' := s.grow g
    obtain ⟨F2, e1, e2, e3, r2⟩ := r.share s'.aH s'.fh hk
    refine h v F2 H' s'.h0 e2 (fun a o q => ?_) r2
    rcases e3 a o q with z | z | z
    · exact s'.fn a o z
    · exact .inl (s.h0.free z)
    · exact .inr z
  · exact h.elim
theorem sd_retN : PDs X T Z W (.Return none pos) (fun _ => .rt .non) := by
  refine ⟨_, ps_retN, ?_⟩
  intro H0 A δ σ F fp H E s h
  exact h .non F H s.h0 s.fh s.fn (by rw [Rep])
/-- an expression whose value is dropped -/
def expO (f : Dl → Res) : Dl → Out := fun δ => match f δ with
  | .ok _ _ => .nx δ
  | .er c => .er c δ
  | .no => .no
theorem sd_expr (he : PDe X T Z W e f1) (hs : swapsWith e none pos.line X.env = pure false := by rfl) : PDs X T Z W (.Expr e pos) (expO f1) := by
  obtain ⟨t, p, ev⟩ := he
  refine ⟨_, ps_expr p hs, ?_⟩
  intro H0 A δ σ F fp H E s h
  refine ev.stm s h (fun c hc => by unfold expO; rw [hc]) (fun hc => by unfold expO; rw [hc]) fun d kd v F' H' hf g r => ?_
  unfold expO at h
  rw [hf] at h
  exact h σ F' fp H' g.ff (s.grow g)
/-- raise X('..') -/
def raiO (c : Ex) : Dl → Out := fun δ => .er c δ
theorem sd_raise {x : Ex} {ec : Expr} (hc : X.calm = true) (tk : Takes X W) (hm : PMk X ec (fun _ H Q => Q (.ref (T.cx x)) none H)) : PDs X T Z W (.Raise (some ec) none pos) (raiO x) := by
  refine ⟨_, ps_raise hc tk hm, ?_⟩
  intro H0 A δ σ F fp H E s h
  exact h σ F fp H (Same.refl _) s

/-! ### a slot is shared from now on (nothing is run) -/
def frzS : Slot → Slot
  | .ow d => .sh d
  | .dp d => .sh d
  | x => x
def frzO (is : List Nat) (δ : Dl) : Dl := is.foldl (fun δ i => match δ[i]? with
  | some x => δ.set i (frzS x)
  | none => δ) δ
theorem SR.frz1 (s : SR T Z H0 A δ σ F fp H) (i : Nat) {x : Slot} (e : δ[i]? = some x) : ∃ F' fp', Same F F' ∧ SR T Z H0 A (δ.set i (frzS x)) σ F' fp' H := by
  have same : δ.set i x = δ := by
    apply List.ext_getElem?
    intro j
    by_cases hj : i = j
    · subst hj; rw [List.getElem?_set_self (List.getElem?_eq_some_iff.mp e).1, e]
    · rw [List.getElem?_set_ne hj]
  obtain ⟨o, h1, h2⟩ := s.sl i x e
  have sσ : ∀ v, o = some v → σ.set i (some v) = σ := fun v hv => by
    apply List.ext_getElem?
    intro j
    by_cases hj : i = j
    · subst hj; rw [List.getElem?_set_self (List.getElem?_eq_some_iff.mp h1).1, h1, hv]
    · rw [List.getElem?_set_ne hj]
  -- sharing cells of the slot's own
  have share : ∀ (G : Hp) (v : V) (d : D), o = some v → Same G H → (∀ a u, G a = some u → isTup u ∨ fp i a) → Rep T (hun F G) v d → ∃ F' fp', Same F F' ∧ SR T Z H0 A (δ.set i (.sh d)) σ F' fp' H := by
    intro G v d hv hG hn r
    refine ⟨hun F G, fun j => if j = i then (fun _ => False) else fp j, hun_l, ?_⟩
    refine ⟨s.h0, s.ah, hun_in s.fh hG, fun a u q => ?_, fun j a h => ?_, fun j k a q1 q2 => ?_, fun j y q => ?_, by simp [s.len]⟩
    · rcases hun_inv q with q | q
      · exact s.fn a u q
      · rcases hn a u q with z | z
        · exact .inr z
        · exact .inl (s.own i a z).2.1
    · by_cases hj : j = i
      · simp only [hj, if_true] at h
      · simp only [hj, if_false] at h
        obtain ⟨q1, q2, u, q3, q4⟩ := s.own j a h
        refine ⟨?_, q2, u, q3, q4⟩
        cases q : hun F G a with
        | none => rfl
        | some w =>
          rcases hun_inv q with q | q
          · rw [q1] at q; cases q
          · rcases hn a w q with z | z
            · have := hG a w q
              rw [q3] at this
              cases this
              exact absurd z q4
            · exact absurd (s.sep j i a h z) hj
    · by_cases hj : j = i
      · simp only [hj, if_true] at q1
      · by_cases hk : k = i
        · simp only [hk, if_true] at q2
        · simp only [hj, if_false] at q1
          simp only [hk, if_false] at q2
          exact s.sep j k a q1 q2
    · by_cases hj : i = j
      · subst hj
        rw [List.getElem?_set_self (List.getElem?_eq_some_iff.mp e).1] at q
        cases q
        exact ⟨o, h1, v, hv, r⟩
      · rw [List.getElem?_set_ne hj] at q
        obtain ⟨w, q1, q2⟩ := s.sl j y q
        refine ⟨w, q1, ?_⟩
        simp only [Ne.symm hj, if_false]
        cases y with
        | un => trivial
        | sh d => obtain ⟨v, e1, r⟩ := q2; exact ⟨v, e1, r.mono hun_l⟩
        | bo d => exact q2
        | ow d => obtain ⟨p, e1, hf, r⟩ := q2; exact ⟨p, e1, hf, r.mono hun_l rfl⟩
        | dp d => exact q2
        | an d => exact q2
        | ex c => exact q2
  cases x with
  | ow d =>
    obtain ⟨p, hv, hf, r⟩ := h2
    obtain ⟨u, hu, hnt⟩ := r.cell
    have hFp := (s.own i p hf).1
    refine share (fun a => if a = p then some u else none) _ d hv (fun a w q => ?_) (fun a w q => ?_) ?_
    · by_cases ha : a = p
      · simp only [ha, if_true, Option.some.injEq] at q; subst q; rw [ha]; exact hu
      · simp only [ha, if_false] at q; cases q
    · by_cases ha : a = p
      · rw [ha]; exact .inr hf
      · simp only [ha, if_false] at q; cases q
    · refine r.rep hun_l ?_
      unfold hun
      rw [hFp, hu]
      simp
  | dp d =>
    obtain ⟨v, hv, G, q1, q2, r⟩ := h2
    exact share G v d hv q1 q2 (r.mono (hun_r s.fh q1))
  | _ => exact ⟨F, fp, Same.refl _, by simp only [frzS]; rw [same]; exact s⟩
theorem SR.frz (is : List Nat) : ∀ {δ : Dl} {F : Hp} {fp : Nat → Addr → Prop}, SR T Z H0 A δ σ F fp H → ∃ F' fp', Same F F' ∧ SR T Z H0 A (frzO is δ) σ F' fp' H := by
  induction is with
  | nil => intro δ F fp s; exact ⟨F, fp, Same.refl _, s⟩
  | cons i is ih =>
    intro δ F fp s
    unfold frzO
    rw [List.foldl_cons]
    cases e : δ[i]? with
    | none => exact ih s
    | some x =>
      obtain ⟨F1, fp1, e1, s1⟩ := s.frz1 i e
      obtain ⟨F2, fp2, e2, s2⟩ := ih s1
      exact ⟨F2, fp2, e1.trans e2, s2⟩
/-- ahead of a statement some slots are shared -/
theorem StS.frz (is : List Nat) (h1 : StS T Z W t k1) : StS T Z W t (fun δ => k1 (frzO is δ)) := by
  intro H0 A δ σ F fp H E s h
  obtain ⟨F', fp', e, s'⟩ := s.frz is
  exact h1 H0 A _ σ F' fp' H E s' (PostS.later h e)
theorem sd_frz (is : List Nat) (h : PDs X T Z W st k1) : PDs X T Z W st (fun δ => k1 (frzO is δ)) := by
  obtain ⟨t, p, ev⟩ := h
  exact ⟨t, p, ev.frz is⟩
end
end
end DD

set_option maxRecDepth 100000
namespace DD
noncomputable section
open PySem L2N
open L2 hiding XE Takes CX takes_of passes_call MkP PMk ps_raise mk_of ps_try_as pmk_own passAt

def noAn (δ : Dl) : Bool := δ.all fun x => match x with
  | .an _ => false
  | _ => true
section
variable {X : Cx} {T : Par} {Z : Hd} {W : WX} {H0 A : Hp} {δ : Dl} {σ : L2.St} {F H F' H' : Hp} {fp : Nat → Addr → Prop}
theorem noAn_get {i : Nat} {d : D} (h : noAn δ = true) (e : δ[i]? = some (.an d)) : False := by
  unfold noAn at h
  rw [List.all_eq_true] at h
  have := h _ (List.mem_of_getElem? e)
  cases this
/-- one cell changes -/
theorem SR.mut (s : SR T Z H0 A δ σ F fp H) {p : Addr} {o o' : HO} {δ' : Dl} (hp : H p = some o) (ho : ¬ isTup o) (ho' : ¬ isTup o') (hF : F p = none) (h0 : H0 p = none) (hl : δ'.length = δ.length)
    (hsl : ∀ (j : Nat) y, δ'[j]? = some y → (δ[j]? = some y ∧ ¬ fp j p ∧ ∀ d, y ≠ .an d) ∨ ∃ w, σ[j]? = some w ∧ SlotR T Z A F (upd H p o') (fp j) y w) : SR T Z H0 A δ' σ F fp (upd H p o') := by
  have keep : ∀ {a u}, a ≠ p → H a = some u → upd H p o' a = some u := fun {a u} n e => by rw [upd_ne n]; exact e
  refine ⟨fun a u e => keep (ne_of_none e h0) (s.h0 a u e), s.ah, fun a u e => keep (ne_of_none e hF) (s.fh a u e), s.fn, fun i a h => ?_, s.sep, fun j y e => ?_, by rw [hl]; exact s.len⟩
  · obtain ⟨q1, q2, u, q3, q4⟩ := s.own i a h
    by_cases ha : a = p
    · exact ⟨q1, q2, o', by rw [ha]; exact upd_same, ho'⟩
    · exact ⟨q1, q2, u, keep ha q3, q4⟩
  · rcases hsl j y e with ⟨e1, n1, n2⟩ | h
    · obtain ⟨w, h1, h2⟩ := s.sl j y e1
      refine ⟨w, h1, ?_⟩
      cases y with
      | un => trivial
      | sh d => exact h2
      | bo d => exact h2
      | ow d =>
        obtain ⟨q, e2, hf, r⟩ := h2
        have hq : q ≠ p := fun z => n1 (by rw [← z]; exact hf)
        exact ⟨q, e2, hf, r.mono (Same.refl _) (upd_ne hq)⟩
      | dp d =>
        obtain ⟨v, e2, G, g1, g2, r⟩ := h2
        refine ⟨v, e2, G, fun a u q => ?_, g2, r⟩
        refine keep (fun z => ?_) (g1 a u q)
        subst z
        rcases g2 a u q with t | t
        · have := g1 a u q
          rw [hp] at this; cases this
          exact ho t
        · exact n1 t
      | an d => exact absurd rfl (n2 d)
      | ex c => exact h2
    · exact h
/-- a slot is forgotten -/
theorem SR.unset (s : SR T Z H0 A δ σ F fp H) (i : Nat) : SR T Z H0 A (δ.set i .un) (σ.set i none) F fp H := by
  refine ⟨s.h0, s.ah, s.fh, s.fn, s.own, s.sep, fun j y e => ?_, by simp [s.len]⟩
  by_cases hj : i = j
  · subst hj
    have hlt : i < δ.length := by simpa using (List.getElem?_eq_some_iff.mp e).1
    rw [List.getElem?_set_self hlt] at e
    cases e
    exact ⟨none, List.getElem?_set_self (by rw [s.len]; exact hlt), trivial⟩
  · rw [List.getElem?_set_ne hj] at e ⊢
    exact s.sl j y e
/-- a slot holds anything for a while -/
theorem SR.setAn (s : SR T Z H0 A δ σ F fp H) (i : Nat) {v : V} {d : D} (hu : δ[i]? = some .un ∨ δ[i]? = none) (r : Rep T H v d) : SR T Z H0 A (δ.set i (.an d)) (σ.set i (some v)) F fp H := by
  refine ⟨s.h0, s.ah, s.fh, s.fn, s.own, s.sep, fun j y e => ?_, by simp [s.len]⟩
  by_cases hj : i = j
  · subst hj
    have hlt : i < δ.length := by simpa using (List.getElem?_eq_some_iff.mp e).1
    rw [List.getElem?_set_self hlt] at e
    cases e
    exact ⟨some v, List.getElem?_set_self (by rw [s.len]; exact hlt), v, rfl, r⟩
  · rw [List.getElem?_set_ne hj] at e ⊢
    exact s.sl j y e
theorem SR.setSh (s : SR T Z H0 A δ σ F fp H) (i : Nat) {v : V} {x : Slot} (hx : SlotR T Z A F H (fun _ => False) x (some v)) : SR T Z H0 A (δ.set i x) (σ.set i (some v)) F (fun j => if j = i then (fun _ => False) else fp j) H :=
  s.put i (S := fun _ => False) (fun _ z => z.elim) (fun _ _ _ _ z => z) hx
end

/-! ### what is walked -/
structure ItS (T : Par) (J : It) (B : Hp) (items : List D) : Prop where
  go : ∀ i H, Same B H → i < items.length → J.go i H
  yld : ∀ i H x H', Same B H → J.yld i H x H' → H' = H ∧ ∀ d, items[i]? = some d → Rep T B x d
  stop : ∀ i H, Same B H → items.length ≤ i → J.stop i H
inductive ItR where
  | ok (items : List D) (k : Kd) | er (c : Ex) | no
def baseOk (A F B : Hp) : Kd → Prop
  | .st => Same B F
  | .bw => Same B A
  | _ => True
def PostI (T : Par) (A F H : Hp) (W : WX) (σ : L2.St) (R : It → Hp → Prop) : ItR → Prop
  | .ok items k => ∀ J B F' H', Grow F H F' H' → Same B H' → baseOk A F' B k → ItS T J B items → R J H'
  | .er c => ∀ F' H', Grow F H F' H' → W (.ref (T.cx c)) none σ H'
  | .no => False
def EvI (T : Par) (Z : Hd) (W : WX) (t : TI) (f : Dl → ItR) : Prop := ∀ H0 A δ σ F fp H (R : It → Hp → Prop), SR T Z H0 A δ σ F fp H → PostI T A F H W σ R (f δ) → t σ H R
def PDi (X : Cx) (T : Par) (Z : Hd) (W : WX) (tg iter : Expr) (f : Dl → ItR) : Prop := ∃ wi, PI X tg iter wi ∧ EvI T Z W wi f
def noH : Hp := fun _ => none
theorem noH_same {H : Hp} : Same noH H := fun _ _ e => nomatch e
section
variable {X : Cx} {T : Par} {Z : Hd} {W : WX} {tg e a b c : Expr} {f1 f2 f3 : Dl → Res} {fa : Dl → ResA} {p pos : Pos}
def lstI (f : Dl → Res) : Dl → ItR := fun δ => match f δ with
  | .ok (.lst ds) k => .ok ds (kIx (.lst ds) k)
  | .er c => .er c
  | _ => .no
def tupI (f : Dl → Res) : Dl → ItR := fun δ => match f δ with
  | .ok (.tup ds) k => .ok ds (kIx (.tup ds) k)
  | .er c => .er c
  | _ => .no
theorem its_list {K : PySem.W.Frag} {B : Hp} {q : Addr} {vs : List V} {ds : List D} (h : B q = some (.lst vs)) (r : Reps T B vs ds) : ItS T (Itl K q) B ds where
  go := fun i H hB hi => by
    have hi' : i < vs.length := by rw [r.length]; exact hi
    exact ⟨vs, vs[i], SqL.of (hB _ _ h), List.getElem?_eq_getElem hi'⟩
  yld := fun i H x H' hB y => ⟨y.1, fun d e => by
    obtain ⟨v, h1, h2⟩ := r.get e
    have := y.2 vs (SqL.of (hB _ _ h))
    rw [h1] at this; cases this
    exact h2⟩
  stop := fun i H hB hi => ⟨vs, SqL.of (hB _ _ h), by rw [r.length]; exact hi⟩
theorem its_tup {K : PySem.W.Frag} {B : Hp} {q : Addr} {vs : List V} {ds : List D} (h : B q = some (.tup vs)) (r : Reps T B vs ds) : ItS T (Itt K q) B ds where
  go := fun i H hB hi => by
    have hi' : i < vs.length := by rw [r.length]; exact hi
    exact ⟨vs, vs[i], SqT.of (hB _ _ h), List.getElem?_eq_getElem hi'⟩
  yld := fun i H x H' hB y => ⟨y.1, fun d e => by
    obtain ⟨v, h1, h2⟩ := r.get e
    have := y.2 vs (SqT.of (hB _ _ h))
    rw [h1] at this; cases this
    exact h2⟩
  stop := fun i H hB hi => ⟨vs, SqT.of (hB _ _ h), by rw [r.length]; exact hi⟩
/-- a base for a result -/
theorem ResR.base {A F H F' H' : Hp} {k : Kd} {v : V} {d : D} (r : ResR T A F' H' H k v d) (g : Grow F H F' H') (hA : Same A H') : ∃ B F2, Grow F H F2 H' ∧ Same B H' ∧ baseOk A F2 B (kIx d k) ∧ Rep T B v d := by
  unfold kIx
  by_cases hk : stK d k = true
  · obtain ⟨F2, e1, e2, e3, r2⟩ := r.share hA g.fh hk
    rw [if_pos hk]
    exact ⟨F2, F2, ⟨g.ff.trans e1, g.hh, e2, fun a o q => by
      rcases e3 a o q with z | z | z
      · exact g.nw a o z
      · exact .inr (.inl z)
      · exact .inr (.inr z)⟩, e2, Same.refl _, r2⟩
  · rw [if_neg hk]
    cases k with
    | any => exact ⟨H', F', g, Same.refl _, trivial, r⟩
    | bw => exact ⟨A, F', g, hA, Same.refl _, r⟩
    | st => exact absurd rfl hk
    | tp => exact absurd rfl hk
    | dp => exact absurd rfl hk
theorem id_list (he : PDe X T Z W e f1) (hK : X.K = T.K := by rfl) : PDi X T Z W tg e (lstI f1) := by
  obtain ⟨t, pe, ev⟩ := he
  refine ⟨_, pi_list pe, ?_⟩
  rw [hK]
  intro H0 A δ σ F fp H R s h
  refine ev H0 A δ σ F fp H _ s ?_
  unfold lstI at h
  cases hf : f1 δ with
  | no => rw [hf] at h; exact h.elim
  | er c => rw [hf] at h; exact h
  | ok d k =>
    rw [hf] at h
    cases d with
    | lst ds =>
      intro v F' H' g r
      have s1 := s.grow g
      obtain ⟨B, F2, g2, hB, hb, rB⟩ := r.base g s1.aH
      rw [Rep] at rB
      obtain ⟨q, vs, rfl, e1, e2⟩ := rB
      exact ⟨q, rfl, ⟨vs, SqL.of (hB _ _ e1)⟩, h _ B F2 H' g2 hB hb (its_list e1 e2)⟩
    | _ => exact h.elim
theorem id_tup (he : PDe X T Z W e f1) (hK : X.K = T.K := by rfl) : PDi X T Z W tg e (tupI f1) := by
  obtain ⟨t, pe, ev⟩ := he
  refine ⟨_, pi_tup pe, ?_⟩
  rw [hK]
  intro H0 A δ σ F fp H R s h
  refine ev H0 A δ σ F fp H _ s ?_
  unfold tupI at h
  cases hf : f1 δ with
  | no => rw [hf] at h; exact h.elim
  | er c => rw [hf] at h; exact h
  | ok d k =>
    rw [hf] at h
    cases d with
    | tup ds =>
      intro v F' H' g r
      have s1 := s.grow g
      obtain ⟨B, F2, g2, hB, hb, rB⟩ := r.base g s1.aH
      rw [Rep] at rB
      obtain ⟨q, vs, rfl, e1, e2⟩ := rB
      exact ⟨q, rfl, ⟨vs, SqT.of (hB _ _ e1)⟩, h _ B F2 H' g2 hB hb (its_tup e1 e2)⟩
    | _ => exact h.elim
/-- a text, sign by sign -/
def sgns (s : Str) : List D := s.cps.toList.map fun c => .str ⟨#[c]⟩
def strI (f : Dl → Res) : Dl → ItR := fun δ => match f δ with
  | .ok (.str s) _ => .ok (sgns s) .st
  | .er c => .er c
  | _ => .no
theorem id_str (he : PDe X T Z W e f1) : PDi X T Z W tg e (strI f1) := by
  obtain ⟨t, pe, ev⟩ := he
  refine ⟨_, pi_str pe, ?_⟩
  intro H0 A δ σ F fp H R s h
  refine ev H0 A δ σ F fp H _ s ?_
  unfold strI at h
  cases hf : f1 δ with
  | no => rw [hf] at h; exact h.elim
  | er c => rw [hf] at h; exact h
  | ok d k =>
    rw [hf] at h
    cases d with
    | str z =>
      intro v F' H' g r
      have s1 := s.grow g
      have rv := r.rep s1.aH s1.fh
      rw [Rep] at rv
      refine ⟨z, rv, h _ noH F' H' g noH_same noH_same ⟨fun i H _ hi => ?_, fun i H x H' _ y => ⟨y.1, fun d e => ?_⟩, fun i H _ hi => ?_⟩⟩
      · show i < z.cps.size
        simpa [sgns] using hi
      · obtain ⟨c, h1, h2⟩ := y.2
        subst h2
        simp only [sgns, List.getElem?_map, Option.map_eq_some_iff] at e
        obtain ⟨c', e1, e2⟩ := e
        subst e2
        rw [Rep]
        have : z.cps.toList[i]? = some c := by rw [Array.getElem?_toList]; exact h1
        rw [this] at e1; cases e1
        rfl
      · show z.cps.size ≤ i
        simpa [sgns] using hi
    | _ => exact h.elim
/-- whole numbers from lo on, n of them, by c -/
def rng (lo c : Int) (n : Nat) : List D := (List.range n).map fun i => .int (lo + (i : Nat) * c)
noncomputable def smallR (i : Int) : Bool := @decide (-(2 ^ 62) ≤ i) (Classical.propDecidable _) && @decide (i < 2 ^ 62) (Classical.propDecidable _)
def rng1I (f : Dl → Res) : Dl → ItR := fun δ => match f δ with
  | .ok (.int j) _ => if smallR j = true then .ok (rng 0 1 j.toNat) .st else .no
  | .er c => .er c
  | _ => .no
def rng2I (f g : Dl → Res) : Dl → ItR := fun δ => match f δ with
  | .ok (.int i) _ => (match g δ with
    | .ok (.int j) _ => if smallR i = true ∧ smallR j = true then .ok (rng i 1 (j - i).toNat) .st else .no
    | .er c => .er c
    | _ => .no)
  | .er c => .er c
  | _ => .no
theorem its_rng {lo : Int} {n : Nat} : ItS T (Itr lo n) noH (rng lo 1 n) := by
  refine ⟨fun i H _ hi => ?_, fun i H x H' _ y => ⟨y.1, fun d e => ?_⟩, fun i H _ hi => ?_⟩
  · show i < n
    simpa [rng] using hi
  · have := y.2
    subst this
    simp only [rng, List.getElem?_map, Option.map_eq_some_iff] at e
    obtain ⟨j, e1, e2⟩ := e
    subst e2
    rw [Rep]
    have hj : j = i := by
      have := List.getElem?_eq_some_iff.mp e1
      obtain ⟨h1, h2⟩ := this
      simpa using h2.symm
    subst hj
    rw [Int.mul_one]
  · show n ≤ i
    simpa [rng] using hi
theorem id_range1 (ha : PDe X T Z W a f1) (hm : X.mg "range" = none) (hg : Gl X "range" := by rfl) (hs : starEach [a] X.env = [(false, eval a X.env)] := by rfl) : PDi X T Z W tg (.Call (.Name "range" p) [a] [] pos) (rng1I f1) := by
  obtain ⟨t, pe, ev⟩ := ha
  refine ⟨_, pi_range1 hg hm (pa_cons pe pa_nil hs) hs, ?_⟩
  intro H0 A δ σ F fp H R s h
  refine ev H0 A δ σ F fp H _ s ?_
  unfold rng1I at h
  cases hf : f1 δ with
  | no => rw [hf] at h; exact h.elim
  | er c => rw [hf] at h; exact h
  | ok d k =>
    rw [hf] at h
    cases d with
    | int j =>
      intro v F' H' g r
      have s1 := s.grow g
      have rv := r.rep s1.aH s1.fh
      rw [Rep] at rv
      subst rv
      simp only at h
      split at h
      · rename_i hj
        simp only [smallR, Bool.and_eq_true, decide_eq_true_eq] at hj
        exact ⟨j, rfl, hj.1, hj.2, h _ noH F' H' g noH_same noH_same its_rng⟩
      · exact h.elim
    | _ => exact h.elim
theorem id_range2 (ha : PDe X T Z W a f1) (hb : PDe X T Z W b f2) (hm : X.mg "range" = none) (hg : Gl X "range" := by rfl) (hs : starEach [a, b] X.env = [(false, eval a X.env), (false, eval b X.env)] := by rfl) (hs2 : starEach [b] X.env = [(false, eval b X.env)] := by rfl) :
    PDi X T Z W tg (.Call (.Name "range" p) [a, b] [] pos) (rng2I f1 f2) := by
  obtain ⟨t, pe, ev⟩ := ha
  obtain ⟨u, pe2, ev2⟩ := hb
  refine ⟨_, pi_range2 hg hm (pa_cons pe (pa_cons pe2 pa_nil hs2) (by rw [hs, hs2])) hs hs2, ?_⟩
  intro H0 A δ σ F fp H R s h
  refine ev H0 A δ σ F fp H _ s ?_
  unfold rng2I at h
  cases hf : f1 δ with
  | no => rw [hf] at h; exact h.elim
  | er c => rw [hf] at h; exact h
  | ok d k =>
    rw [hf] at h
    cases d with
    | int i =>
      intro v F' H' g r
      have s1 := s.grow g
      have rv := r.rep s1.aH s1.fh
      rw [Rep] at rv
      subst rv
      simp only at h
      refine ev2 H0 A δ σ F' fp H' _ s1 ?_
      cases hf2 : f2 δ with
      | no => rw [hf2] at h; exact h.elim
      | er c => rw [hf2] at h; exact fun F2 H2 g2 => h F2 H2 (g.trans g2)
      | ok d2 k2 =>
        rw [hf2] at h
        cases d2 with
        | int j =>
          intro w F2 H2 g2 r2
          have s2 := s1.grow g2
          have rw' := r2.rep s2.aH s2.fh
          rw [Rep] at rw'
          subst rw'
          simp only at h
          split at h
          · rename_i hj
            simp only [smallR, Bool.and_eq_true, decide_eq_true_eq] at hj
            exact ⟨i, j, rfl, ⟨hj.1.1, hj.1.2, hj.2.1, hj.2.2⟩, h _ noH F2 H2 (g.trans g2) noH_same noH_same its_rng⟩
          · exact h.elim
        | _ => exact h.elim
    | _ => exact h.elim
end

/-! ### list comprehensions -/
def compL (i : Nat) (p : Dl → ResB) (f : Dl → Res) (δ : Dl) : List D → List D → Option (List D)
  | [], acc => some acc
  | d :: ds, acc => match p (δ.set i (.an d)) with
    | .ok true => (match f (δ.set i (.an d)) with
      | .ok x k => if stK x k = true ∧ acc.length < sizeLine then compL i p f δ ds (acc ++ [x]) else none
      | _ => none)
    | .ok false => compL i p f δ ds acc
    | _ => none
def compR (it : Dl → ItR) (i : Nat) (p : Dl → ResB) (f : Dl → Res) : Dl → Res := fun δ => match it δ with
  | .ok items _ => if noAn (δ.set i .un) = true then (match compL i p f (δ.set i .un) items [] with
    | some acc => .ok (.lst acc) .tp
    | none => .no) else .no
  | .er c => .er c
  | .no => .no
def noW : WX := fun _ _ _ _ => False
section
variable {X : Cx} {T : Par} {Z : Hd} {W : WX} {tg e a b c elt iter : Expr} {f1 f2 f3 fe : Dl → Res} {fi : Dl → ItR} {ft : Dl → ResB} {p pos : Pos} {ifs : List Expr}
theorem wipe_set {σ : L2.St} {i : Nat} {x : Option V} : wipe ((wipe σ [i]).set i x) [i] = wipe σ [i] := by
  simp [wipe]
/-- the reading of a comprehension, its parts told -/
theorem ev_lc {wi : TI} {tt : TT} {te : TE} (i : Nat) (ei : EvI T Z W wi fi) (et : EvB T Z noW tt ft) (ee : EvS T Z noW te fe) : EvS T Z W (tLc wi (gName i) tt te [i]) (compR fi i ft fe) := by
  intro H0 A δ σ F fp H Q s h
  refine ei H0 A δ σ F fp H _ s ?_
  unfold compR at h
  cases hf : fi δ with
  | no => rw [hf] at h; exact h.elim
  | er c => rw [hf] at h; exact h
  | ok items k =>
    rw [hf] at h
    simp only at h
    split at h
    case isFalse => exact h.elim
    rename_i hna
    cases hc : compL i ft fe (δ.set i .un) items [] with
    | none => rw [hc] at h; exact h.elim
    | some fin =>
      rw [hc] at h
      intro J B F1 H1 g1 hB hb its D hD
      have s1 := (s.grow g1).unset i
      have hBD : B D = none := hB.free hD
      -- between two turns
      refine ⟨fun j m H2 => m = items.length - j ∧ j ≤ items.length ∧ ∃ F2 vs acc, SR T Z H0 A (δ.set i .un) (σ.set i none) F2 fp H2 ∧ Grow F1 H1 F2 H2 ∧ F2 D = none ∧ H2 D = some (.lst vs) ∧ Reps T F2 vs acc ∧
        compL i ft fe (δ.set i .un) (items.drop j) acc = some fin, ⟨items.length, by simp, Nat.zero_le _, F1, [], [], ?_, Grow.cell g1.fh hD, g1.fh.free hD, upd_same, by simp [Reps], by simpa using hc⟩, ?_⟩
      · exact s1.grow (Grow.cell g1.fh hD)
      · rintro j m H2 ⟨rfl, hj, F2, vs, acc, s2, g2, hF2, hH2, r2, c2⟩
        have hB2 : Same B H2 := hB.trans g2.hh
        by_cases hlt : j < items.length
        · refine .inr ⟨its.go j H2 hB2 hlt, fun H3 => ∃ F3 vs3 acc3, SR T Z H0 A (δ.set i .un) (σ.set i none) F3 fp H3 ∧ Grow F1 H1 F3 H3 ∧ F3 D = none ∧ H3 D = some (.lst vs3) ∧ Reps T F3 vs3 acc3 ∧
            compL i ft fe (δ.set i .un) (items.drop (j + 1)) acc3 = some fin, fun H3 ⟨F3, vs3, acc3, q⟩ => ⟨items.length - (j + 1), by omega, rfl, hlt, F3, vs3, acc3, q⟩, fun x H3 y => ?_⟩
          obtain ⟨e1, e2⟩ := its.yld j H2 x H3 hB2 y
          subst e1
          have e3 := e2 _ (List.getElem?_eq_getElem hlt)
          have ed : items.drop j = items[j] :: items.drop (j + 1) := (List.drop_eq_getElem_cons hlt)
          rw [ed] at c2
          unfold compL at c2
          have s3 : SR T Z H0 A ((δ.set i .un).set i (.an items[j])) ((σ.set i none).set i (some x)) F2 fp H3 := s2.setAn i (by
            by_cases hi : i < δ.length
            · exact .inl (List.getElem?_set_self hi)
            · exact .inr (by rw [List.getElem?_eq_none]; simpa using hi)) (e3.mono hB2)
          show (wipe ((wipe σ [i]).set i (some x)) [i] = wipe σ [i]) ∧ tt _ _ _
          refine ⟨wipe_set, ?_⟩
          refine et H0 A _ _ F2 fp H3 _ s3 ?_
          have back : ∀ {F4 H4}, Grow F2 H3 F4 H4 → SR T Z H0 A (δ.set i .un) (σ.set i none) F4 fp H4 := fun g4 => s2.grow g4
          cases ht : ft ((δ.set i .un).set i (.an items[j])) with
          | no => rw [ht] at c2; cases c2
          | er c => rw [ht] at c2; cases c2
          | ok bb =>
            rw [ht] at c2
            cases bb with
            | false =>
              intro F4 H4 g4
              refine iteF ?_
              exact ⟨F4, vs, acc, back g4, g2.trans g4, g4.own hF2 hH2 (fun ⟨_, z⟩ => nomatch z), g4.hh _ _ hH2, r2.mono g4.ff, c2⟩
            | true =>
              intro F4 H4 g4
              refine iteT ?_
              refine ee H0 A _ _ F4 fp H4 _ (s3.grow g4) ?_
              simp only at c2
              cases he : fe ((δ.set i .un).set i (.an items[j])) with
              | no => rw [he] at c2; cases c2
              | er c => rw [he] at c2; cases c2
              | ok xd kd =>
                rw [he] at c2
                simp only at c2
                split at c2
                case isFalse => cases c2
                rename_i hk
                intro v F5 H5 g5 r5
                have s5 := (s3.grow g4).grow g5
                obtain ⟨F6, q1, q2, q3, r6⟩ := r5.share s5.aH s5.fh hk.1
                have g46 : Grow F2 H3 F6 H5 := ⟨(g4.ff.trans g5.ff).trans q1, g4.hh.trans g5.hh, q2, fun a o q => by
                  rcases q3 a o q with z | z | z
                  · exact (g4.trans g5).nw a o z
                  · exact .inr (.inl (g4.hh.free z))
                  · exact .inr (.inr z)⟩
                have s6 := back g46
                have hH5 : H5 D = some (.lst vs) := g46.hh _ _ hH2
                have hF6 : F6 D = none := g46.own hF2 hH2 (fun ⟨_, z⟩ => nomatch z)
                have hH0 : H0 D = none := s.h0.free (g1.hh.free hD)
                have hfp : ∀ jj, ¬ fp jj D := fun jj z => by
                  obtain ⟨_, _, o, w, _⟩ := s.own jj D z
                  rw [g1.hh.free hD] at w; cases w
                refine ⟨vs, hH5, by rw [r2.length]; exact hk.2, F6, vs ++ [v], acc ++ [xd], ?_, ?_, hF6, upd_same, (r2.mono g46.ff).append (by simp [Reps, r6]), c2⟩
                · refine s6.mut (o := .lst vs) hH5 (fun ⟨_, z⟩ => nomatch z) (fun ⟨_, z⟩ => nomatch z) hF6 hH0 rfl fun jj y ey => .inl ⟨ey, hfp jj, fun d z => ?_⟩
                  subst z
                  exact noAn_get hna ey
                · have gg := g2.trans g46
                  refine ⟨gg.ff, fun a o q => ?_, fun a o q => ?_, gg.nw⟩
                  · rw [upd_ne (ne_of_none q hD)]; exact gg.hh _ _ q
                  · rw [upd_ne (ne_of_none q hF6)]; exact gg.fh _ _ q
        · have e : j = items.length := by omega
          subst e
          refine .inl ⟨its.stop _ H2 hB2 (Nat.le_refl _), ?_⟩
          rw [List.drop_length] at c2
          unfold compL at c2
          cases c2
          refine h (.ref D) F2 H2 (g1.trans g2) ⟨D, rfl, hF2, g1.hh.free hD, vs, hH2, r2⟩
/-- for all blocks one reading -/
theorem ev_all {ι : Type} {f : Dl → Res} {Y : ι → Cx} {e : Expr} (h : ∀ i, PDe (Y i) T Z W e f) : ∃ t, (∀ i, PE (Y i) e t) ∧ EvS T Z W t f :=
  ⟨fun σ H Q => ∀ i, ∃ t, PE (Y i) e t ∧ t σ H Q, fun i => ⟨fun pins s σ H Q I w => by
    obtain ⟨t, p, q⟩ := w i
    exact p.run pins s σ H Q I q⟩, fun H0 A δ σ F fp H Q s w i => by
    obtain ⟨t, p, ev⟩ := h i
    exact ⟨t, p, ev H0 A δ σ F fp H Q s w⟩⟩
def PDts (X : Cx) (T : Par) (Z : Hd) (W : WX) (ifs : List Expr) (f : Dl → ResB) : Prop := ∃ t, PTs X ifs t ∧ EvB T Z W t f
theorem ev_allB {ι : Type} {f : Dl → ResB} {Y : ι → Cx} {es : List Expr} (h : ∀ i, PDts (Y i) T Z W es f) : ∃ t, (∀ i, PTs (Y i) es t) ∧ EvB T Z W t f :=
  ⟨fun σ H Q => ∀ i, ∃ t, PTs (Y i) es t ∧ t σ H Q, fun i => ⟨fun pins s σ H Q I w => by
    obtain ⟨t, p, q⟩ := w i
    exact p.run pins s σ H Q I q⟩, fun H0 A δ σ F fp H Q s w i => by
    obtain ⟨t, p, ev⟩ := h i
    exact ⟨t, p, ev H0 A δ σ F fp H Q s w⟩⟩
def yesR : Dl → ResB := fun _ => .ok true
theorem td_nil : PDts X T Z W [] yesR := ⟨_, pts_nil, fun H0 A δ σ F fp H Q s h => h F H (Grow.refl s.fh)⟩
theorem td_one {f : Dl → ResB} (h : PDt X T Z W c f) : PDts X T Z W [c] f := by
  obtain ⟨t, p, e⟩ := h
  exact ⟨t, pts_one p, e⟩
/-- the blocks of a comprehension -/
abbrev Blk := Shared × Hp × Addr × List (Str × Addr) × List Addr
abbrev blkX (X : Cx) (scope : Scope) (b : Blk) : Cx := X.blk b.1 b.2.1 scope (compEnvC scope b.2.2.2.1 b.2.2.1 X.env) b.2.2.2.2
theorem pd_lc {x : Str} {scope : Scope} {tpos : Pos} (i : Nat) (hN : X.N.Nodup) (hi : PDi X T Z W (.Name x tpos) iter fi) (ok : BlkOk X.N X.env.scope scope [(x, i)])
    (hg : ∀ b : Blk, PG (blkX X scope b) (.Name x tpos) (gName i)) (ht : ∀ b : Blk, PDts (blkX X scope b) T Z noW ifs ft) (he : ∀ b : Blk, PDe (blkX X scope b) T Z noW elt fe) (hc : X.calm = true := by rfl) (hs : ∀ y, foldedSetIterable iter X.env y = pure y := by intro _; rfl) :
    PDe X T Z W (.ListComp elt [⟨.Name x tpos, iter, ifs, 0⟩] scope pos) (compR fi i ft fe) := by
  obtain ⟨wi, pi, ei⟩ := hi
  obtain ⟨te, pe, ee⟩ := ev_all he
  obtain ⟨tt, pt, et⟩ := ev_allB ht
  exact ⟨_, pe_lc hc hN pi ok (fun s H C cl fp => hg (s, H, C, cl, fp)) (fun s H C cl fp => pt (s, H, C, cl, fp)) (fun s H C cl fp => pe (s, H, C, cl, fp)) hs, ev_lc i ei et ee⟩
/-- y = [..] -/
theorem sd_setLc {x y : Str} {scope : Scope} {tpos py spos : Pos} (j i : Nat) (hN : X.N.Nodup) (hsw : swapsWith (.ListComp elt [⟨.Name x tpos, iter, ifs, 0⟩] scope pos) (some (.Name y py)) spos.line X.env = pure true)
    (hi : PDi X T Z W (.Name x tpos) iter fi) (ok : BlkOk X.N X.env.scope scope [(x, i)])
    (hg : ∀ b : Blk, PG (blkX X scope b) (.Name x tpos) (gName i)) (ht : ∀ b : Blk, PDts (blkX X scope b) T Z noW ifs ft) (he : ∀ b : Blk, PDe (blkX X scope b) T Z noW elt fe) (hy : X.N[j]? = some y := by rfl) (hyl : X.env.scope.names.lookup y = some .local := by rfl) (hc : X.calm = true := by rfl) (hs : ∀ y, foldedSetIterable iter X.env y = pure y := by intro _; rfl) :
    PDs X T Z W (.Assign [.Name y py] (.ListComp elt [⟨.Name x tpos, iter, ifs, 0⟩] scope pos) spos) (setO j (compR fi i ft fe)) := by
  obtain ⟨wi, pi, ei⟩ := hi
  obtain ⟨te, pe, ee⟩ := ev_all he
  obtain ⟨tt, pt, et⟩ := ev_allB ht
  exact ⟨_, ps_setLc hc hN hy hyl hsw pi ok (fun s H C cl fp => hg (s, H, C, cl, fp)) (fun s H C cl fp => pt (s, H, C, cl, fp)) (fun s H C cl fp => pe (s, H, C, cl, fp)) hs, ss_set (ev_lc i ei et ee) j⟩
end
end
end DD

set_option maxRecDepth 100000
namespace DD
noncomputable section
open PySem L2N
open L2 hiding XE Takes CX takes_of passes_call MkP PMk ps_raise mk_of ps_try_as pmk_own passAt

/-! ### for -/
def itemS (d : D) (k : Kd) : Option Slot := if imm d = true then (match k with
    | .st => some (.sh d)
    | .bw => some (.sh d)
    | _ => none)
  else match k with
    | .st => some (.sh d)
    | .bw => some (.bo d)
    | _ => none
def forL (i : Nat) (k : Kd) (body : Dl → Out) : List D → Dl → Out
  | [], δ => .nx δ
  | d :: ds, δ => match itemS d k with
    | none => .no
    | some x => match body (δ.set i x) with
      | .nx δ' => forL i k body ds δ'
      | .ct δ' => forL i k body ds δ'
      | .bk δ' => .nx δ'
      | .rt d => .rt d
      | .er c δ' => .er c δ'
      | .no => .no
def forO (it : Dl → ItR) (i : Nat) (body : Dl → Out) : Dl → Out := fun δ => match it δ with
  | .ok items k => if k = .st ∨ k = .bw then forL i k body items δ else .no
  | .er c => .er c δ
  | .no => .no
section
variable {X : Cx} {T : Par} {Z : Hd} {W : WX} {H0 A : Hp} {δ : Dl} {σ : L2.St} {F H F' H' : Hp} {fp : Nat → Addr → Prop} {st : Stmt} {rest body : List Stmt} {t u : TS} {e a b c iter : Expr} {f1 f2 f3 : Dl → Res} {fi : Dl → ItR} {fa : Dl → ResA} {p1 : Dl → ResB} {k1 k2 : Dl → Out} {pos pos' : Pos}
theorem SR.item (s : SR T Z H0 A δ σ F fp H) (i : Nat) {k : Kd} {v : V} {d : D} {x : Slot} {B : Hp} (hb : baseOk A F B k) (hk : k ≠ .any) (r : Rep T B v d) (hx : itemS d k = some x) :
    ∃ F' fp', Same F F' ∧ SR T Z H0 A (δ.set i x) (σ.set i (some v)) F' fp' H := by
  have gt := Grow.tups s.fh
  have s2 := s.grow gt
  unfold itemS at hx
  split at hx
  · rename_i hi
    have rH : Rep T H v d := by
      cases k with
      | st => exact (Rep.mono hb r).mono s.fh
      | bw => exact (Rep.mono hb r).mono s.aH
      | _ => cases hx
    have rF : Rep T (hun F (tuF H)) v d := (rH.imm hi).mono (hun_r s.fh (tuF_same H))
    cases k with
    | st => cases hx; exact ⟨_, _, gt.ff, s2.setSh i ⟨v, rfl, rF⟩⟩
    | bw => cases hx; exact ⟨_, _, gt.ff, s2.setSh i ⟨v, rfl, rF⟩⟩
    | _ => cases hx
  · cases k with
    | st => cases hx; exact ⟨F, _, Same.refl _, s.setSh i ⟨v, rfl, Rep.mono hb r⟩⟩
    | bw => cases hx; exact ⟨F, _, Same.refl _, s.setSh i ⟨v, rfl, Rep.mono hb r⟩⟩
    | _ => cases hx
theorem ss_for {wi : TI} {tb : TS} (i : Nat) (ei : EvI T Z W wi fi) (eb : StS T Z W tb k1) : StS T Z W (tFor wi (gName i) tb) (forO fi i k1) := by
  intro H0 A δ σ F fp H E s h
  refine ei H0 A δ σ F fp H _ s ?_
  unfold forO at h
  cases hf : fi δ with
  | no => rw [hf] at h; exact h.elim
  | er c => rw [hf] at h; exact fun F' H' g => h σ F' fp H' g.ff (s.grow g)
  | ok items k =>
    rw [hf] at h
    simp only at h
    split at h
    case isFalse => exact h.elim
    rename_i hk0
    have hk : k ≠ .any := by rintro rfl; rcases hk0 with z | z <;> cases z
    intro J B F1 H1 g1 hB hb its
    have s1 := s.grow g1
    refine ⟨fun j m σ2 H2 => m = items.length - j ∧ j ≤ items.length ∧ ∃ δ2 F2 fp2, SR T Z H0 A δ2 σ2 F2 fp2 H2 ∧ Same F1 F2 ∧ PostS T Z H0 A W E F2 (forL i k k1 (items.drop j) δ2),
      ⟨items.length, by simp, Nat.zero_le _, δ, F1, fp, s1, Same.refl _, by simpa using h.later g1.ff⟩, ?_⟩
    rintro j m σ2 H2 ⟨rfl, hj, δ2, F2, fp2, s2, e2, h2⟩
    have hb2 : baseOk A F2 B k := by
      cases k with
      | st => exact Same.trans hb e2
      | bw => exact hb
      | _ => trivial
    have hB2 : Same B H2 := by
      cases k with
      | st => exact Same.trans hb2 s2.fh
      | bw => exact Same.trans hb s2.aH
      | any => exact absurd rfl hk
      | tp => rcases hk0 with z | z <;> cases z
      | dp => rcases hk0 with z | z <;> cases z
    by_cases hlt : j < items.length
    · refine .inr ⟨its.go j H2 hB2 hlt, fun σ3 H3 => ∃ δ3 F3 fp3, SR T Z H0 A δ3 σ3 F3 fp3 H3 ∧ Same F1 F3 ∧ PostS T Z H0 A W E F3 (forL i k k1 (items.drop (j + 1)) δ3),
        fun σ3 H3 ⟨δ3, F3, fp3, q⟩ => ⟨items.length - (j + 1), by omega, rfl, hlt, δ3, F3, fp3, q⟩, fun x H3 y => ?_⟩
      obtain ⟨e1, e3⟩ := its.yld j H2 x H3 hB2 y
      subst e1
      have rx := e3 _ (List.getElem?_eq_getElem hlt)
      have ed : items.drop j = items[j] :: items.drop (j + 1) := List.drop_eq_getElem_cons hlt
      rw [ed] at h2
      unfold forL at h2
      cases hx : itemS items[j] k with
      | none => rw [hx] at h2; exact h2.elim
      | some sl =>
        rw [hx] at h2
        simp only at h2
        obtain ⟨F4, fp4, e4, s4⟩ := s2.item i hb2 hk rx hx
        refine eb H0 A _ _ F4 fp4 H3 _ s4 ?_
        have h4 := h2.later e4
        cases hbd : k1 (δ2.set i sl) with
        | nx δ' =>
          rw [hbd] at h4
          exact fun σ' F' fp' H' e s' => ⟨δ', F', fp', s', (e2.trans e4).trans e, h4.later e⟩
        | ct δ' =>
          rw [hbd] at h4
          exact fun σ' F' fp' H' e s' => ⟨δ', F', fp', s', (e2.trans e4).trans e, h4.later e⟩
        | bk δ' => rw [hbd] at h4; exact h4
        | rt d => rw [hbd] at h4; exact h4
        | er c δ' => rw [hbd] at h4; exact h4
        | no => rw [hbd] at h4; exact h4
    · have e : j = items.length := by omega
      subst e
      refine .inl ⟨its.stop _ H2 hB2 (Nat.le_refl _), ?_⟩
      rw [List.drop_length] at h2
      exact h2 σ2 F2 fp2 H2 (Same.refl _) s2
theorem sd_for {x : Str} {tpos : Pos} (i : Nat) (hp : PassesOwn (model X.prog X.w) X.A X.env X.xe) (hN : X.N.Nodup) (hi : PDi X T Z W (.Name x tpos) iter fi) (hb : PDss X T Z W body k1) (hx : X.N[i]? = some x := by rfl) (hl : Loc X.env.scope x := by first | exact Or.inl rfl | exact Or.inr rfl) (hc : X.calm = true := by rfl)
    (hf : X.fn x = true ∨ X.env.scope.names.lookup x = some .local := by first | exact .inl rfl | exact .inr rfl) (hs : ∀ y, foldedSetIterable iter X.env y = pure y := by intro _; rfl) : PDs X T Z W (.For (.Name x tpos) iter body [] pos) (forO fi i k1) := by
  obtain ⟨wi, pi, ei⟩ := hi
  obtain ⟨tb, pb, eb⟩ := hb
  exact ⟨_, ps_for hp hc pi (pg_name hN hx hl hf) pb hs, ss_for i ei eb⟩

/-! ### while -/
def whL (p : Dl → ResB) (body : Dl → Out) : Nat → Dl → Out
  | 0, _ => .no
  | n + 1, δ => match p δ with
    | .ok false => .nx δ
    | .ok true => (match body δ with
      | .nx δ' => whL p body n δ'
      | .ct δ' => whL p body n δ'
      | .bk δ' => .nx δ'
      | .rt d => .rt d
      | .er c δ' => .er c δ'
      | .no => .no)
    | .er c => .er c δ
    | .no => .no
theorem ss_while {tc : TT} {tb : TS} (n : Nat) (ec : EvB T Z W tc p1) (eb : StS T Z W tb k1) : StS T Z W (tWhile tc tb) (whL p1 k1 n) := by
  intro H0 A δ σ F fp H E s h
  refine ⟨fun m σ2 H2 => ∃ δ2 F2 fp2, SR T Z H0 A δ2 σ2 F2 fp2 H2 ∧ Same F F2 ∧ PostS T Z H0 A W E F2 (whL p1 k1 m δ2), ⟨n, δ, F, fp, s, Same.refl _, h⟩, ?_⟩
  rintro m σ2 H2 ⟨δ2, F2, fp2, s2, e2, h2⟩
  cases m with
  | zero => exact h2.elim
  | succ m =>
    unfold whL at h2
    refine ec H0 A δ2 σ2 F2 fp2 H2 _ s2 ?_
    cases hp : p1 δ2 with
    | no => rw [hp] at h2; exact h2.elim
    | er c => rw [hp] at h2; exact fun F' H' g => h2 σ2 F' fp2 H' g.ff (s2.grow g)
    | ok b =>
      rw [hp] at h2
      intro F3 H3 g3
      have s3 := s2.grow g3
      cases b with
      | false => exact iteF (h2 σ2 F3 fp2 H3 g3.ff s3)
      | true =>
        refine iteT ⟨fun σ3 H3 => ∃ δ3 F3 fp3, SR T Z H0 A δ3 σ3 F3 fp3 H3 ∧ Same F F3 ∧ PostS T Z H0 A W E F3 (whL p1 k1 m δ3), fun σ3 H3 ⟨δ3, F3, fp3, q⟩ => ⟨m, Nat.lt_succ_self _, δ3, F3, fp3, q⟩, ?_⟩
        refine eb H0 A _ _ F3 fp2 H3 _ s3 ?_
        simp only at h2
        have h4 := h2.later g3.ff
        cases hbd : k1 δ2 with
        | nx δ' =>
          rw [hbd] at h4
          exact fun σ' F' fp' H' e s' => ⟨δ', F', fp', s', (e2.trans g3.ff).trans e, h4.later e⟩
        | ct δ' =>
          rw [hbd] at h4
          exact fun σ' F' fp' H' e s' => ⟨δ', F', fp', s', (e2.trans g3.ff).trans e, h4.later e⟩
        | bk δ' => rw [hbd] at h4; exact h4
        | rt d => rw [hbd] at h4; exact h4
        | er c δ' => rw [hbd] at h4; exact h4
        | no => rw [hbd] at h4; exact h4
theorem sd_while (n : Nat) (hp : PassesOwn (model X.prog X.w) X.A X.env X.xe) (hc : PDt X T Z W c p1) (hb : PDss X T Z W body k1) : PDs X T Z W (.While c body [] pos) (whL p1 k1 n) := by
  obtain ⟨tc, pc, ec⟩ := hc
  obtain ⟨tb, pb, eb⟩ := hb
  exact ⟨_, ps_while hp pc pb, ss_while n ec eb⟩

/-! ### lists and dicts of one's own are changed -/
/-- the cell of slot i -/
theorem SR.ow (s : SR T Z H0 A δ σ F fp H) {i : Nat} {d : D} (e : δ[i]? = some (.ow d)) : ∃ p, σ[i]? = some (some (.ref p)) ∧ fp i p ∧ OwnTop T F H p d := by
  obtain ⟨o, h1, p, rfl, h2, h3⟩ := s.sl i _ e
  exact ⟨p, h1, h2, h3⟩
theorem SR.write (s : SR T Z H0 A δ σ F fp H) {i : Nat} {p : Addr} {d' : D} {o' : HO} (na : noAn δ = true) (hi : i < δ.length) (e : σ[i]? = some (some (.ref p))) (hf : fp i p) (ht : OwnTop T F (upd H p o') p d') :
    SR T Z H0 A (δ.set i (.ow d')) σ F fp (upd H p o') := by
  obtain ⟨q1, q2, o, q3, q4⟩ := s.own i p hf
  obtain ⟨w, hw, hn⟩ := ht.cell
  rw [upd_same] at hw
  cases hw
  refine s.mut q3 q4 hn q1 q2 (by simp) fun j y ey => ?_
  by_cases hj : i = j
  · subst hj
    rw [List.getElem?_set_self hi] at ey
    cases ey
    exact .inr ⟨_, e, p, rfl, hf, ht⟩
  · rw [List.getElem?_set_ne hj] at ey
    exact .inl ⟨ey, fun z => hj (s.sep _ _ _ hf z), fun d z => by subst z; exact noAn_get na ey⟩
/-- xs.append(e) -/
def appO (i : Nat) (f : Dl → Res) : Dl → Out := fun δ => match δ[i]? with
  | some (.ow (.lst ds)) => (match f δ with
    | .ok d k => if stK d k = true ∧ ds.length < sizeLine ∧ noAn δ = true then .nx (δ.set i (.ow (.lst (ds ++ [d])))) else .no
    | .er c => .er c δ
    | .no => .no)
  | _ => .no
theorem PostE.ofS {T : Par} {Z : Hd} {H0 A : Hp} {W : WX} {E : Ends} {δ : Dl} {σ : L2.St} {F H : Hp} {fp : Nat → Addr → Prop} {c : Ex} (h : PostS T Z H0 A W E F (.er c δ)) (s : SR T Z H0 A δ σ F fp H) : ∀ F' H', Grow F H F' H' → W (.ref (T.cx c)) none σ H' :=
  fun F' H' g => h σ F' fp H' g.ff (s.grow g)
theorem ResR.shareG {A F H F' H' : Hp} {k : Kd} {v : V} {d : D} (r : ResR T A F' H' H k v d) (g : Grow F H F' H') (hA : Same A H') (hs : stK d k = true) : ∃ F2, Grow F H F2 H' ∧ Rep T F2 v d := by
  obtain ⟨F2, e1, e2, e3, r2⟩ := r.share hA g.fh hs
  exact ⟨F2, ⟨g.ff.trans e1, g.hh, e2, fun a o q => by
    rcases e3 a o q with z | z | z
    · exact g.nw a o z
    · exact .inr (.inl z)
    · exact .inr (.inr z)⟩, r2⟩
theorem sd_append (i : Nat) {x : Str} {xpos apos cpos : Pos} (he : PDe X T Z W e f1) (hN : X.N[i]? = some x := by rfl) (hv : Vis X.env.scope x := by first | exact Or.inl rfl | exact Or.inr (Or.inl rfl) | exact Or.inr (Or.inr rfl))
    (hs : swapsWith (.Call (.Attribute (.Name x xpos) "append" apos) [e] [] cpos) none pos.line X.env = pure false := by rfl)
    (hbase : attributeBase (.Name x xpos) "append" X.env (eval (.Name x xpos) X.env) = eval (.Name x xpos) X.env := by rfl)
    (hfew : ((backTo cpos (starEach [e] X.env)).all (fun x => !x.1) && (backToKw cpos (keywordEach [] X.env)).all (fun x => x.1.isSome)
      && decide (([e] : List Expr).length + ([] : List Keyword).length + (if ([] : List Keyword).isEmpty then 0 else 1) < 30)) = true := by rfl)
    (hline : (apos.endLine == cpos.line) = true := by rfl) (hst : starEach (e :: []) X.env = (false, eval e X.env) :: starEach [] X.env := by rfl) (hd : (x == ("__debug__" : Str)) = false := by decide) (hcd : (x == ("__classdict__" : Str)) = false := by decide) :
    PDs X T Z W (.Expr (.Call (.Attribute (.Name x xpos) "append" apos) [e] [] cpos) pos) (appO i f1) := by
  obtain ⟨t, pe, ev⟩ := he
  refine ⟨_, ps_expr (pe_bm PySem.F.plainAttrs_list PySem.F.slot_list_append PySem.F.type_list_append mt_append (pe_var hN hv hd hcd) (pa_cons pe pa_nil hst) hbase hfew hline hst rfl) hs, ?_⟩
  intro H0 A δ σ F fp H E s h
  unfold appO at h
  cases hi : δ[i]? with
  | none => rw [hi] at h; exact h.elim
  | some y =>
    rw [hi] at h
    match y, hi, h with
    | .ow (.lst ds), hi, h =>
      obtain ⟨p, e1, hf, vs, hp, r⟩ := s.ow hi
      refine ⟨.ref p, e1, .inl ⟨rfl, vs, SqL.of hp⟩, ?_⟩
      refine ev H0 A δ σ F fp H _ s ?_
      simp only at h
      cases hfe : f1 δ with
      | no => rw [hfe] at h; exact h.elim
      | er c => rw [hfe] at h; exact PostE.ofS h s
      | ok d k =>
        rw [hfe] at h
        simp only at h
        split at h
        case isFalse => exact h.elim
        rename_i hk
        intro v F' H' g r'
        have s' := s.grow g
        obtain ⟨F2, g2, r2⟩ := r'.shareG g s'.aH hk.1
        have s2 := s.grow g2
        refine ⟨p, vs, v, rfl, rfl, g.hh _ _ hp, by rw [r.length]; exact hk.2.1, ?_⟩
        refine h σ F2 fp _ g2.ff (s2.write hk.2.2 (List.getElem?_eq_some_iff.mp hi).1 e1 hf ⟨_, upd_same, (r.mono g2.ff).append (by simp [Reps, r2])⟩)
/-- xs[k] = e -/
def setiO (i : Nat) (fx f : Dl → Res) : Dl → Out := fun δ => match f δ with
  | .ok d k => (match δ[i]? with
    | some (.ow (.lst ds)) => (match fx δ with
      | .ok (.int j) _ => (match ixN ds.length j with
        | some n => if stK d k = true ∧ noAn δ = true then .nx (δ.set i (.ow (.lst (ds.set n d)))) else .no
        | none => .no)
      | .er c => .er c δ
      | _ => .no)
    | _ => .no)
  | .er c => .er c δ
  | .no => .no
theorem sd_seti (i : Nat) {x : Str} {xpos : Pos} {ix : Expr} {spos : Pos} (he : PDe X T Z W e f1) (hx : PDe X T Z W ix f2) (hN : X.N[i]? = some x := by rfl) (hv : Vis X.env.scope x := by first | exact Or.inl rfl | exact Or.inr (Or.inl rfl) | exact Or.inr (Or.inr rfl))
    (ha : ∀ v, assign (.Subscript (.Name x xpos) ix spos) X.env v = (do
      let ov ← holding [v] (eval (.Name x xpos) X.env)
      let iv ← holding [v, ov] (eval ix X.env)
      standAt spos
      holding [v, ov, iv] (setItem ov iv v)
      release [v, ov, iv] []) := by intro _; rfl)
    (hs : swapsWithSole [.Subscript (.Name x xpos) ix spos] e pos.line X.env = pure false := by rfl) (hw : swappedStores [.Subscript (.Name x xpos) ix spos] e X.env = pure none := by rfl)
    (h1 : (assignEach [.Subscript (.Name x xpos) ix spos] X.env).map (·.2) = [assign (.Subscript (.Name x xpos) ix spos) X.env] := by rfl) (hd : (x == ("__debug__" : Str)) = false := by decide) (hcd : (x == ("__classdict__" : Str)) = false := by decide) :
    PDs X T Z W (.Assign [.Subscript (.Name x xpos) ix spos] e pos) (setiO i f2 f1) := by
  obtain ⟨t, pe, ev⟩ := he
  obtain ⟨u, px, ex⟩ := hx
  refine ⟨_, ps_asg pe (pg_sub (pe_var hN hv hd hcd) px set_list ha) hs hw h1, ?_⟩
  intro H0 A δ σ F fp H E s h
  unfold setiO at h
  refine ev.stm s h (fun c hc => by rw [hc]) (fun hc => by rw [hc]) fun d kd v F' H' hf g r => ?_
  rw [hf] at h
  simp only at h
  cases hi : δ[i]? with
  | none => rw [hi] at h; exact h.elim
  | some y =>
    rw [hi] at h
    match y, hi, h with
    | .ow (.lst ds), hi, h =>
      have s' := s.grow g
      obtain ⟨p, e1, hfp, vs, hp, rr⟩ := s'.ow hi
      refine ⟨.ref p, e1, ?_⟩
      simp only at h
      refine ex H0 A δ σ F' fp H' _ s' ?_
      cases hfx : f2 δ with
      | no => rw [hfx] at h; exact h.elim
      | er c => rw [hfx] at h; exact PostE.ofS (h.later g.ff) s'
      | ok dj kj =>
        rw [hfx] at h
        cases dj with
        | int j =>
          simp only at h
          cases hn : ixN ds.length j with
          | none => rw [hn] at h; exact h.elim
          | some n =>
            rw [hn] at h
            simp only at h
            split at h
            case isFalse => exact h.elim
            rename_i hk
            intro w F2 H2 g2 r2
            have s2 := s'.grow g2
            have rw' := r2.rep s2.aH s2.fh
            rw [Rep] at rw'
            subst rw'
            have r' := r.grow g2
            obtain ⟨F3, g3, r3⟩ := r'.shareG (g.trans g2) s2.aH hk.1
            have s3 := s.grow g3
            obtain ⟨p3, e3, hfp3, vs3, hp3, rr3⟩ := s3.ow hi
            rw [e1] at e3; cases e3
            refine ⟨p, vs3, j, n, rfl, rfl, hp3, by rw [rr3.length]; exact hn, ?_⟩
            exact h σ F3 fp _ g3.ff (s3.write hk.2 (List.getElem?_eq_some_iff.mp hi).1 e1 hfp3 ⟨_, upd_same, Reps.set r3 n rr3⟩)
        | _ => exact h.elim
/-- d[k] = e -/
def putS {κ : Type} [DecidableEq κ] (kvs : List (κ × Sc)) (k : κ) (v : Sc) : List (κ × Sc) :=
  if (kvs.any fun kv => decide (kv.1 = k)) = true then kvs.map (fun kv => if kv.1 = k then (kv.1, v) else kv) else kvs ++ [(k, v)]
theorem putK_putS {κ : Type} [DecidableEq κ] (kvs : List (κ × Sc)) (k : κ) (v : Sc) : putK (kvs.map fun kv => (kv.1, kv.2.v)) k v.v = (putS kvs k v).map fun kv => (kv.1, kv.2.v) := by
  unfold putK putS
  rw [List.any_map]
  have e : ((fun kv : κ × V => decide (kv.1 = k)) ∘ fun kv : κ × Sc => (kv.1, kv.2.v)) = fun kv => decide (kv.1 = k) := rfl
  rw [e]
  split
  · rw [List.map_map, List.map_map]
    congr 1
    funext kv
    show (if kv.1 = k then (kv.1, v.v) else (kv.1, kv.2.v)) = _
    by_cases h : kv.1 = k
    · simp [h]
    · simp [h]
  · simp
def scOf : D → Option Sc
  | .bl b => some (.bl b)
  | .int i => some (.int i)
  | _ => none
def dput (d e : D) (v : Sc) : Option D := match d with
  | .dt kvs => (match e with
    | .tup ds => (match keysD ds with
      | some k => if kvs.length < sizeLine then some (.dt (putS kvs k v)) else none
      | none => none)
    | _ => none)
  | .dk kvs => (match keyD e with
    | some k => if kvs.length < sizeLine then some (.dk (putS kvs k v)) else none
    | none => none)
  | _ => none
def dputO (i : Nat) (fk f : Dl → Res) : Dl → Out := fun δ => match f δ with
  | .ok d _ => (match scOf d with
    | some v => (match δ[i]? with
      | some (.ow m) => (match fk δ with
        | .ok kd _ => (match dput m kd v with
          | some m' => if noAn δ = true then .nx (δ.set i (.ow m')) else .no
          | none => .no)
        | .er c => .er c δ
        | .no => .no)
      | _ => .no)
    | none => .no)
  | .er c => .er c δ
  | .no => .no
theorem sd_dput (i : Nat) {x : Str} {xpos : Pos} {ix : Expr} {spos : Pos} (hu : X.A.units + 1 < cLine) (he : PDe X T Z W e f1) (hx : PDe X T Z W ix f2) (hN : X.N[i]? = some x := by rfl) (hv : Vis X.env.scope x := by first | exact Or.inl rfl | exact Or.inr (Or.inl rfl) | exact Or.inr (Or.inr rfl))
    (hs : swapsWith e (some (.Subscript (.Name x xpos) ix spos)) pos.line X.env = pure false := by rfl) (hd : (x == ("__debug__" : Str)) = false := by decide) (hcd : (x == ("__classdict__" : Str)) = false := by decide) :
    PDs X T Z W (.Assign [.Subscript (.Name x xpos) ix spos] e pos) (dputO i f2 f1) := by
  obtain ⟨t, pe, ev⟩ := he
  obtain ⟨u, px, ex⟩ := hx
  refine ⟨_, ps_dput hu (pe_var hN hv hd hcd) px pe hs, ?_⟩
  intro H0 A δ σ F fp H E s h
  unfold dputO at h
  refine ev.stm s h (fun c hc => by rw [hc]) (fun hc => by rw [hc]) fun d kd v F' H' hf g r => ?_
  rw [hf] at h
  simp only at h
  cases hsc : scOf d with
  | none => rw [hsc] at h; exact h.elim
  | some sv =>
    rw [hsc] at h
    simp only at h
    cases hi : δ[i]? with
    | none => rw [hi] at h; exact h.elim
    | some y =>
      rw [hi] at h
      cases y with
      | ow m =>
        have s' := s.grow g
        have hvv : v = sv.v := by
          have rv := r.rep s'.aH s'.fh
          cases d with
          | bl b => cases hsc; rw [Rep] at rv; exact rv
          | int b => cases hsc; rw [Rep] at rv; exact rv
          | _ => cases hsc
        subst hvv
        obtain ⟨p, e1, hfp, top⟩ := s'.ow hi
        refine ⟨.ref p, e1, ?_⟩
        simp only at h
        refine ex H0 A δ σ F' fp H' _ s' ?_
        cases hfx : f2 δ with
        | no => rw [hfx] at h; exact h.elim
        | er c => rw [hfx] at h; exact PostE.ofS (h.later g.ff) s'
        | ok dk kk =>
          rw [hfx] at h
          simp only at h
          cases hm : dput m dk sv with
          | none => rw [hm] at h; exact h.elim
          | some m' =>
            rw [hm] at h
            simp only at h
            split at h
            case isFalse => exact h.elim
            rename_i hna
            intro w F2 H2 g2 r2
            have s2 := s'.grow g2
            have rk := r2.rep s2.aH s2.fh
            obtain ⟨p2, e2, hfp2, top2⟩ := s2.ow hi
            rw [e1] at e2; cases e2
            have fin : ∀ o', OwnTop T F2 (upd H2 p o') p m' → E.nx σ (upd H2 p o') := fun o' ht =>
              h σ F2 fp _ (g.trans g2).ff (s2.write hna (List.getElem?_eq_some_iff.mp hi).1 e1 hfp ht)
            cases m with
            | dt kvs =>
              simp only [dput] at hm
              split at hm
              · rename_i ds
                split at hm
                · rename_i k hk
                  split at hm
                  · rename_i hl
                    cases hm
                    rw [Rep] at rk
                    obtain ⟨q, vs, rfl, q1, q2⟩ := rk
                    rw [keysD_reps q2 hk] at q1
                    refine ⟨p, _, rfl, DPut.t top2 q1 (by simpa using hl), fin _ ?_⟩
                    show upd _ _ _ _ = _
                    rw [upd_same, putK_putS]
                  · cases hm
                · cases hm
              · cases hm
            | dk kvs =>
              simp only [dput] at hm
              split at hm
              · rename_i k hk
                split at hm
                · rename_i hl
                  cases hm
                  rw [keyD_rep rk hk]
                  refine ⟨p, _, rfl, DPut.k top2 (by simpa using hl), fin _ ?_⟩
                  show upd _ _ _ _ = _
                  rw [upd_same, putK_putS]
                · cases hm
              · cases hm
            | _ => cases hm
      | _ => exact h.elim
end
end
end DD

set_option maxRecDepth 100000
namespace DD
noncomputable section
open PySem L2N
open L2 hiding XE Takes CX takes_of passes_call MkP PMk ps_raise mk_of ps_try_as pmk_own passAt

section
variable {X : Cx} {T : Par} {Z : Hd} {W : WX} {a b c e o : Expr} {es : List Expr} {f1 f2 f3 : Dl → Res} {fa : Dl → ResA} {pos apos cpos p : Pos} {x : Str}

/-! ### products -/
def gMul : D → D → Opt
  | .int i, .int j => if (smallI i || smallI j) = true then some (.int (i * j), .st) else none
  | .str s, .int j => if s.length ≤ 16 ∧ -(2 ^ 63) ≤ j ∧ j ≤ 1048576 then some (.str (Txt.mul s j), .st) else none
  | .lst ds, .int j => if imms ds = true ∧ -(2 ^ 63) ≤ j ∧ j < 2 ^ 63 ∧ ds.length * j.toNat ≤ sizeLine then some (.lst (List.replicate j.toNat ds).flatten, .tp) else none
  | _, _ => none
def rMulI : R2 := rI CMul fun i j => .int (i * j)
def rMulS : R2 := fun x y H Q => ∃ s j, x = .str s ∧ y = .int j ∧ s.length ≤ 16 ∧ -(2 ^ 63) ≤ j ∧ j ≤ 1048576 ∧ Q (.str (Txt.mul s j)) H
def rMulA : R2 := fun x y H Q => rMulI x y H Q ∨ (fun x y H Q => rMulS x y H Q ∨ rRep x y H Q) x y H Q
theorem op_mulS : OpR X (binaryOp .Mult) rMulS := by
  intro pins s σ H x y v u Q I rx ry h
  obtain ⟨z, j, rfl, rfl, h1, h2, h3, q⟩ := h
  obtain ⟨t, rfl⟩ := rx
  obtain ⟨t', rfl⟩ := ry
  exact SB.mul (PyProof.Rows.mulOk_of 16 1048576 h1 h3 h2 (by decide) (by decide)) fun t' k => ⟨.str _, H, I.tok k, ⟨_, rfl⟩, q⟩
theorem op_mulA : OpR X (binaryOp .Mult) rMulA := OpR.or (r1 := rMulI) op_mul (OpR.or (r1 := rMulS) (r2 := rRep) op_mulS op_rep)
theorem reps_rep {T : Par} {F : Hp} {vs : List V} {ds : List D} (h : Reps T F vs ds) : ∀ n : Nat, Reps T F (List.replicate n vs).flatten (List.replicate n ds).flatten
  | 0 => by simp [Reps]
  | n + 1 => by
    simp only [List.replicate_succ, List.flatten_cons]
    exact h.append (reps_rep h n)
theorem imms_rep {ds : List D} (h : imms ds = true) : ∀ n : Nat, imms (List.replicate n ds).flatten = true
  | 0 => by simp [imms]
  | n + 1 => by
    simp only [List.replicate_succ, List.flatten_cons]
    exact imms_append h (imms_rep h n)
theorem os_mulA : OpS T rMulA gMul := by
  intro A F H Q x y d e hA hF rx ry h
  cases e with
  | int j =>
    rw [Rep] at ry
    subst ry
    cases d with
    | int i =>
      rw [Rep] at rx
      subst rx
      simp only [gMul] at h
      split at h
      · rename_i hc
        refine .inl ⟨i, j, rfl, rfl, ?_, post_st hF h rfl⟩
        unfold CMul
        simpa [smallI, Bool.or_eq_true, Bool.and_eq_true] using hc
      · exact h.elim
    | str s =>
      rw [Rep] at rx
      subst rx
      simp only [gMul] at h
      split at h
      · rename_i hc
        exact .inr (.inl ⟨s, j, rfl, rfl, hc.1, hc.2.1, hc.2.2, post_st hF h rfl⟩)
      · exact h.elim
    | lst ds =>
      rw [Rep] at rx
      obtain ⟨q, vs, rfl, e1, e2⟩ := rx
      simp only [gMul] at h
      split at h
      · rename_i hc
        exact .inr (.inr ⟨q, j, vs, rfl, rfl, e1, hc.2.1, hc.2.2.1, by rw [e2.length]; exact hc.2.2.2, post_lstI hF h (imms_rep hc.1 _) (reps_rep e2 _)⟩)
      · exact h.elim
    | _ => exact h.elim
  | _ => cases d <;> exact h.elim
theorem pd_mulA (ha : PDe X T Z W a f1) (hb : PDe X T Z W b f2) : PDe X T Z W (.BinOp a .Mult b pos) (opR gMul f1 f2) := pd_op op_mulA os_mulA ha hb

/-! ### isinstance of a built-in class -/
def tyD : D → Option String
  | .non => some "NoneType"
  | .bl _ => some "bool"
  | .int _ => some "int"
  | .str _ => some "str"
  | .lst _ => some "list"
  | .tup _ => some "tuple"
  | .dt _ => some "dict"
  | .dk _ => some "dict"
  | _ => none
def gIsi (ty : String) (d : D) : Opt := match tyD d with
  | some t => (kitB t ty).map fun b => (.bl b, .st)
  | none => none
theorem tyD_ty {T : Par} {H : Hp} {v : V} {d : D} {t : String} (r : Rep T H v d) (h : tyD d = some t) : TyX T.K H v (.type t) := by
  cases d with
  | non => cases h; rw [Rep] at r; subst r; exact .base .non
  | bl b => cases h; rw [Rep] at r; subst r; exact .base (.bl b)
  | int b => cases h; rw [Rep] at r; subst r; exact .base (.int b)
  | str b => cases h; rw [Rep] at r; subst r; exact .base (.str b)
  | lst b => cases h; rw [Rep] at r; obtain ⟨q, vs, rfl, h1, _⟩ := r; exact .base (.lst h1)
  | tup b => cases h; rw [Rep] at r; obtain ⟨q, vs, rfl, h1, _⟩ := r; exact .base (.tup h1)
  | dt b => cases h; rw [Rep] at r; obtain ⟨q, rfl, h1⟩ := r; exact .base (.dT h1)
  | dk b => cases h; rw [Rep] at r; obtain ⟨q, rfl, h1⟩ := r; exact .base (.dK h1)
  | _ => cases h
theorem pd_isi {n : String} {y : Str} {p1 p2 : Pos} (ha : PDe X T Z W a f1) (hm : X.mg "isinstance" = none) (hmT : X.mg y = none) (hvT : bootBuiltins y = some (.type n)) (hK : X.K = T.K := by rfl) (hg : Gl X "isinstance" := by rfl) (hgT : Gl X y := by rfl)
    (hn : y ≠ "__name__" := by decide) (hdb : (y == ("__debug__" : Str)) = false := by decide)
    (he : starEach [a, .Name y p1] X.env = (false, eval a X.env) :: starEach [.Name y p1] X.env := by rfl) (he2 : starEach [.Name y p1] X.env = (false, eval (.Name y p1) X.env) :: starEach [] X.env := by rfl) (hpl : (backTo pos (starEach [.Name y p1] X.env)).any (·.1) = false := by rfl)
    (hboot : bootBuiltins "isinstance" = some (.builtin "isinstance") := by decide +kernel) : PDe X T Z W (.Call (.Name "isinstance" p2) [a, .Name y p1] [] pos) (unR (gIsi n) f1) := by
  obtain ⟨ta, pa, ea⟩ := ha
  refine ⟨_, pe_callB call_isi hg hm hboot (pa_cons pa (pa_cons (pe_bltn (v := .ty n) hgT hmT hvT rfl hn hdb) pa_nil he2) he) (by decide) (by decide) he hpl, ?_⟩
  rw [hK]
  refine ea.un (r := fun x H Q => rIsi T.K [x, .ty n] H Q) fun A F H Q x d hA hF rx h => ?_
  unfold gIsi at h
  cases ht : tyD d with
  | none => rw [ht] at h; exact h.elim
  | some t =>
    rw [ht] at h
    simp only at h
    cases hb : kitB t n with
    | none => rw [hb] at h; exact h.elim
    | some bb =>
      rw [hb] at h
      exact ⟨x, .ty n, .type t, .type n, bb, rfl, .ty n, tyD_ty rx ht, kit_ty hb, post_st hF h rfl⟩

/-! ### other built-ins -/
def gList : List D → Opt
  | [.lst ds] => if imms ds = true then some (.lst ds, .tp) else none
  | [.tup ds] => if imms ds = true then some (.lst ds, .tp) else none
  | _ => none
theorem cs_list : CallS T (fun xs H Q => ∃ p ys, xs = [.ref p] ∧ (SqL T.K H p ys ∨ SqT T.K H p ys) ∧ ∀ l, H l = none → Q (.ref l) (upd H l (.lst ys))) gList := by
  intro A F H Q vs ds hA hF rs h
  unfold gList at h
  split at h
  · rename_i l
    obtain ⟨v, rfl, rv⟩ := reps1 rs
    rw [Rep] at rv
    obtain ⟨q, ws, rfl, h1, h2⟩ := rv
    split at h
    · rename_i hi
      exact ⟨q, ws, rfl, .inl (SqL.of h1), post_lstI hF h hi h2⟩
    · exact h.elim
  · rename_i l
    obtain ⟨v, rfl, rv⟩ := reps1 rs
    rw [Rep] at rv
    obtain ⟨q, ws, rfl, h1, h2⟩ := rv
    split at h
    · rename_i hi
      exact ⟨q, ws, rfl, .inr (SqT.of h1), post_lstI hF h hi h2⟩
    · exact h.elim
  · exact h.elim
def gInt : List D → Opt
  | [.int i] => some (.int i, .st)
  | [.bl k] => some (.int (if k then 1 else 0), .st)
  | [.str s] => if s.length ≤ 640 then (PySem.intText? s).map fun n => (.int n, .st) else none
  | _ => none
theorem cs_int : CallS T (fun xs H Q => ((∃ i, xs = [.int i] ∧ Q (.int i) H) ∨ ∃ k, xs = [.bl k] ∧ Q (.int (if k then 1 else 0)) H) ∨ ∃ a n, xs = [.str a] ∧ PySem.intText? a = some n ∧ a.length ≤ 640 ∧ Q (.int n) H) gInt := by
  intro A F H Q vs ds hA hF rs h
  unfold gInt at h
  split at h
  · obtain ⟨v, rfl, rv⟩ := reps1 rs
    rw [Rep] at rv
    subst rv
    exact .inl (.inl ⟨_, rfl, post_st hF h rfl⟩)
  · obtain ⟨v, rfl, rv⟩ := reps1 rs
    rw [Rep] at rv
    subst rv
    exact .inl (.inr ⟨_, rfl, post_st hF h rfl⟩)
  · rename_i s
    obtain ⟨v, rfl, rv⟩ := reps1 rs
    rw [Rep] at rv
    subst rv
    split at h
    · rename_i hl
      cases hn : PySem.intText? s with
      | none => rw [hn] at h; exact h.elim
      | some n =>
        rw [hn] at h
        exact .inr ⟨s, n, rfl, hn, hl, post_st hF h rfl⟩
    · exact h.elim
  · exact h.elim
def gStrI : List D → Opt
  | [.int i] => if i.natAbs.log2 < 1920 then some (.str (toString i), .st) else none
  | _ => none
theorem cs_strI : CallS T (fun xs H Q => ∃ i, xs = [.int i] ∧ i.natAbs.log2 < 1920 ∧ Q (.str (toString i)) H) gStrI := by
  intro A F H Q vs ds hA hF rs h
  unfold gStrI at h
  split at h
  · obtain ⟨v, rfl, rv⟩ := reps1 rs
    rw [Rep] at rv
    subst rv
    split at h
    · rename_i hl
      exact ⟨_, rfl, hl, post_st hF h rfl⟩
    · exact h.elim
  · exact h.elim
def gMax2 : List D → Opt
  | [.int i, .int j] => some (.int (if j > i then j else i), .st)
  | _ => none
def gMin2 : List D → Opt
  | [.int i, .int j] => some (.int (if j < i then j else i), .st)
  | _ => none
theorem cs_max2 : CallS T (fun xs H Q => ∃ i j, xs = [.int i, .int j] ∧ Q (.int (if j > i then j else i)) H) gMax2 := by
  intro A F H Q vs ds hA hF rs h
  unfold gMax2 at h
  split at h
  · obtain ⟨v, w, rfl, rv, rw'⟩ := reps2 rs
    rw [Rep] at rv rw'
    subst rv rw'
    exact ⟨_, _, rfl, post_st hF h rfl⟩
  · exact h.elim
theorem cs_min2 : CallS T (fun xs H Q => ∃ i j, xs = [.int i, .int j] ∧ Q (.int (if j < i then j else i)) H) gMin2 := by
  intro A F H Q vs ds hA hF rs h
  unfold gMin2 at h
  split at h
  · obtain ⟨v, w, rfl, rv, rw'⟩ := reps2 rs
    rw [Rep] at rv rw'
    subst rv rw'
    exact ⟨_, _, rfl, post_st hF h rfl⟩
  · exact h.elim
/-- texts, bools, whole numbers of a list -/
def strsD : List D → Option (List Str)
  | [] => some []
  | .str s :: ds => (strsD ds).map (s :: ·)
  | _ :: _ => none
def blsD : List D → Option (List Bool)
  | [] => some []
  | .bl s :: ds => (blsD ds).map (s :: ·)
  | _ :: _ => none
def intsD : List D → Option (List Int)
  | [] => some []
  | .int s :: ds => (intsD ds).map (s :: ·)
  | _ :: _ => none
theorem strsD_eq : ∀ {ds : List D} {ss : List Str}, strsD ds = some ss → ds = ss.map D.str
  | [], ss, h => by simp only [strsD, Option.some.injEq] at h; subst h; rfl
  | .str s :: ds, ss, h => by
    simp only [strsD, Option.map_eq_some_iff] at h
    obtain ⟨r, h1, rfl⟩ := h
    rw [strsD_eq h1]; rfl
theorem blsD_eq : ∀ {ds : List D} {ss : List Bool}, blsD ds = some ss → ds = ss.map D.bl
  | [], ss, h => by simp only [blsD, Option.some.injEq] at h; subst h; rfl
  | .bl s :: ds, ss, h => by
    simp only [blsD, Option.map_eq_some_iff] at h
    obtain ⟨r, h1, rfl⟩ := h
    rw [blsD_eq h1]; rfl
theorem intsD_eq : ∀ {ds : List D} {ss : List Int}, intsD ds = some ss → ds = ss.map D.int
  | [], ss, h => by simp only [intsD, Option.some.injEq] at h; subst h; rfl
  | .int s :: ds, ss, h => by
    simp only [intsD, Option.map_eq_some_iff] at h
    obtain ⟨r, h1, rfl⟩ := h
    rw [intsD_eq h1]; rfl
theorem strsD_map : ∀ ss : List Str, strsD (ss.map D.str) = some ss
  | [] => rfl
  | s :: ss => by simp [strsD, strsD_map ss]
theorem blsD_map : ∀ ss : List Bool, blsD (ss.map D.bl) = some ss
  | [] => rfl
  | s :: ss => by simp [blsD, blsD_map ss]
theorem intsD_map : ∀ ss : List Int, intsD (ss.map D.int) = some ss
  | [] => rfl
  | s :: ss => by simp [intsD, intsD_map ss]
def gSum : List D → Opt
  | [.lst ds] => (intsD ds).map fun ns => (.int ns.sum, .st)
  | _ => none
theorem cs_sum : CallS T (rSum T.K) gSum := by
  intro A F H Q vs ds hA hF rs h
  unfold gSum at h
  split at h
  · rename_i l
    obtain ⟨v, rfl, rv⟩ := reps1 rs
    rw [Rep] at rv
    obtain ⟨q, ws, rfl, h1, h2⟩ := rv
    cases hn : intsD l with
    | none => rw [hn] at h; exact h.elim
    | some ns =>
      rw [hn] at h
      rw [intsD_eq hn] at h2
      rw [h2.ints] at h1
      exact ⟨q, ns, rfl, SqL.of h1, post_st hF h rfl⟩
  · exact h.elim
def gAll : List D → Opt
  | [.lst ds] => (blsD ds).map fun ns => (.bl (ns.all id), .st)
  | _ => none
theorem cs_all : CallS T (rAll T.K) gAll := by
  intro A F H Q vs ds hA hF rs h
  unfold gAll at h
  split at h
  · rename_i l
    obtain ⟨v, rfl, rv⟩ := reps1 rs
    rw [Rep] at rv
    obtain ⟨q, ws, rfl, h1, h2⟩ := rv
    cases hn : blsD l with
    | none => rw [hn] at h; exact h.elim
    | some ns =>
      rw [hn] at h
      rw [blsD_eq hn] at h2
      rw [h2.bls] at h1
      exact ⟨q, ns, rfl, SqL.of h1, post_st hF h rfl⟩
  · exact h.elim
/-- the least -/
def minL : List Int → Option Int
  | [] => none
  | n :: ns => match minL ns with
    | none => some n
    | some m => some (if n ≤ m then n else m)
theorem minL_spec : ∀ {ns : List Int} {m : Int}, minL ns = some m → m ∈ ns ∧ ∀ y ∈ ns, m ≤ y
  | n :: ns, m, h => by
    simp only [minL] at h
    cases hr : minL ns with
    | none =>
      rw [hr] at h
      cases ns with
      | nil => cases h; simp
      | cons k ks =>
        exfalso
        simp only [minL] at hr
        split at hr <;> cases hr
    | some k =>
      rw [hr] at h
      obtain ⟨h1, h2⟩ := minL_spec hr
      cases h
      split
      · rename_i hk
        exact ⟨by simp, fun y hy => by
          rcases List.mem_cons.mp hy with rfl | hy
          · exact Int.le_refl _
          · exact Int.le_trans hk (h2 y hy)⟩
      · rename_i hk
        exact ⟨by simp [h1], fun y hy => by
          rcases List.mem_cons.mp hy with rfl | hy
          · omega
          · exact h2 y hy⟩
def gMin : List D → Opt
  | [.lst ds] => (intsD ds).bind fun ns => (minL ns).map fun m => (.int m, .st)
  | _ => none
theorem cs_min : CallS T (rMin T.K) gMin := by
  intro A F H Q vs ds hA hF rs h
  unfold gMin at h
  split at h
  · rename_i l
    obtain ⟨v, rfl, rv⟩ := reps1 rs
    rw [Rep] at rv
    obtain ⟨q, ws, rfl, h1, h2⟩ := rv
    cases hn : intsD l with
    | none => rw [hn] at h; exact h.elim
    | some ns =>
      rw [hn] at h
      simp only [Option.bind_some] at h
      cases hm : minL ns with
      | none => rw [hm] at h; exact h.elim
      | some m =>
        rw [hm] at h
        rw [intsD_eq hn] at h2
        rw [h2.ints] at h1
        obtain ⟨m1, m2⟩ := minL_spec hm
        refine ⟨q, ns, rfl, SqL.of h1, List.length_pos_of_mem m1, fun k k1 k2 => ?_⟩
        have : k = m := Int.le_antisymm (by have := m2 k k1; have := k2 m m1; omega) (by have := m2 k k1; omega)
        subst this
        exact post_st hF h rfl
  · exact h.elim

/-! ### methods of texts -/
def Mt1S (T : Par) (r : V → List V → Hp → VK → Prop) (g : D → D → Opt) : Prop := ∀ A F H Q z y d e, Same A H → Same F H → z = .str d → Rep T H y e → PostO T A F H Q (g (.str d) e) → r z [y] H Q
def isStr : D → Bool
  | .str _ => true
  | _ => false
def m1R (g : D → D → Opt) (f1 f2 : Dl → Res) : Dl → Res := fun δ => bindR (f1 δ) fun d _ => if isStr d = true then bindR (f2 δ) fun e _ => optR (g d e) else .no
theorem EvS.m1 {ta tb : TE} {r : V → List V → Hp → VK → Prop} {g : D → D → Opt} (ea : EvS T Z W ta f1) (eb : EvS T Z W tb f2) (hr : Mt1S T r g) : EvS T Z W (tM1 r ta tb) (m1R g f1 f2) := by
  intro H0 A δ σ F fp H Q s h
  unfold m1R at h
  refine ea.then_ s h _ fun d k v F1 H1 _ g1 s1 r1 h1 => ?_
  cases d with
  | str z =>
    have rv := r1.rep s1.aH s1.fh
    rw [Rep] at rv
    subst rv
    refine ⟨⟨z, rfl⟩, ?_⟩
    refine eb.then_ s1 (h1.later g1) _ fun e k2 u F2 H2 _ g2 s2 r2 h2 => ?_
    exact hr A F2 H2 Q _ u z e s2.aH s2.fh rfl (r2.rep s2.aH s2.fh) (h2.later g2).opt
  | _ => exact h1.elim
def gJoin : D → D → Opt
  | .str a, .lst ds => (strsD ds).bind fun ss => if (ss.map (·.length)).sum + ss.length * a.length ≤ 16777216 then some (.str (Txt.join a ss), .st) else none
  | _, _ => none
theorem pd_join (ha : PDe X T Z W a f1) (hb : PDe X T Z W b f2) (hs : starEach [b] X.env = [(false, eval b X.env)] := by rfl) (hbase : attributeBase a "join" X.env (eval a X.env) = eval a X.env := by rfl) (hline : (apos.endLine == cpos.line) = true := by rfl) (hK : X.K = T.K := by rfl) :
    PDe X T Z W (.Call (.Attribute a "join" apos) [b] [] cpos) (m1R gJoin f1 f2) := by
  obtain ⟨ta, pa, ea⟩ := ha
  obtain ⟨tb, pb, eb⟩ := hb
  refine ⟨_, pe_join pa pb hs hbase hline, ea.m1 eb ?_⟩
  rw [hK]
  intro A F H Q z y d e hA hF rz ry h
  cases e with
  | lst ds =>
    rw [Rep] at ry
    obtain ⟨q, ws, rfl, h1, h2⟩ := ry
    simp only [gJoin] at h
    cases hn : strsD ds with
    | none => rw [hn] at h; exact h.elim
    | some ss =>
      rw [hn] at h
      simp only [Option.bind_some] at h
      split at h
      · rename_i hl
        rw [strsD_eq hn] at h2
        rw [h2.strs] at h1
        exact ⟨d, q, ss, rz, rfl, .inl (SqL.of h1), hl, post_st hF h rfl⟩
      · exact h.elim
  | _ => exact h.elim
def gSplit : D → D → Opt
  | .str a, .str b => if (b.length == 0) = false ∧ a.length + 2 ≤ sizeLine then some (.lst ((Txt.split a b).map D.str), .tp) else none
  | _, _ => none
theorem pd_split (ha : PDe X T Z W a f1) (hb : PDe X T Z W b f2) (hs : starEach [b] X.env = [(false, eval b X.env)] := by rfl) (hbase : attributeBase a "split" X.env (eval a X.env) = eval a X.env := by rfl) (hline : (apos.endLine == cpos.line) = true := by rfl) :
    PDe X T Z W (.Call (.Attribute a "split" apos) [b] [] cpos) (m1R gSplit f1 f2) := by
  obtain ⟨ta, pa, ea⟩ := ha
  obtain ⟨tb, pb, eb⟩ := hb
  refine ⟨_, pe_split pa pb hs hbase hline, ea.m1 eb ?_⟩
  intro A F H Q z y d e hA hF rz ry h
  cases e with
  | str w =>
    rw [Rep] at ry
    subst ry
    simp only [gSplit] at h
    split at h
    · rename_i hl
      exact ⟨d, w, rz, rfl, hl.1, hl.2, post_lst hF h (Reps.of_strs _)⟩
    · exact h.elim
  | _ => exact h.elim
def gUpper : D → Opt
  | .str a => if a.length ≤ 5592405 then some (.str (Txt.upper a), .st) else none
  | _ => none
theorem pd_upper (ha : PDe X T Z W a f1) (hbase : attributeBase a "upper" X.env (eval a X.env) = eval a X.env := by rfl) (hline : (apos.endLine == cpos.line) = true := by rfl) :
    PDe X T Z W (.Call (.Attribute a "upper" apos) [] [] cpos) (unR gUpper f1) := by
  obtain ⟨ta, pa, ea⟩ := ha
  refine ⟨_, pe_upper pa hbase hline, ea.un (r := fun x H Q => (∃ a, x = .str a) ∧ ∃ a, x = .str a ∧ ([] : List V) = [] ∧ a.length ≤ 5592405 ∧ Q (.str (Txt.upper a)) H) fun A F H Q x d hA hF rx h => ?_⟩
  cases d with
  | str w =>
    rw [Rep] at rx
    subst rx
    simp only [gUpper] at h
    split at h
    · rename_i hl
      exact ⟨⟨w, rfl⟩, w, rfl, rfl, hl, post_st hF h rfl⟩
    · exact h.elim
  | _ => exact h.elim
end

/-! ### a def of the program -/
inductive Ret where
  | ok (d : D) | er (c : Ex) | no
/-- its promise, from what it computes -/
def spOf (T : Par) (g : List D → Ret) : Sp := fun vs H0 Q E => ∃ A ds, Same A H0 ∧ Reps T A vs ds ∧ match g ds with
  | .ok d => ∀ v F' H', Same H0 H' → Same F' H' → (∀ a o, F' a = some o → H0 a = none ∨ isTup o) → Rep T F' v d → Q v H'
  | .er c => ∀ H', Same H0 H' → E (.ref (T.cx c)) none H'
  | .no => False
def outR : Out → Ret
  | .rt d => .ok d
  | .nx _ => .ok .non
  | .er c _ => .er c
  | _ => .no
/-- what a def with n parameters and m further names computes -/
def defR (n m : Nat) (f : Dl → Out) (ds : List D) : Ret := if ds.length = n then outR (f (ds.map Slot.bo ++ List.replicate m .un)) else .no
def callR (g : List D → Ret) (fa : Dl → ResA) : Dl → Res := fun δ => match fa δ with
  | .ok ds _ => (match g ds with
    | .ok d => .ok d .dp
    | .er c => .er c
    | .no => .no)
  | .er c => .er c
  | .no => .no
theorem sp_len {T : Par} {n m : Nat} {f : Dl → Out} {vs : List V} {H : Hp} {Q : VK} {E : XK} (h : spOf T (defR n m f) vs H Q E) : vs.length = n := by
  obtain ⟨A, ds, _, r, h⟩ := h
  rw [r.length]
  unfold defR at h
  by_cases e : ds.length = n
  · exact e
  · rw [if_neg e] at h; exact h.elim
theorem start_eq {N : List Str} {vs : List V} {n m : Nat} (hv : vs.length = n) (hN : N.length = n + m) : L2.start N vs = vs.map some ++ List.replicate m none := by
  unfold L2.start
  congr 2
  omega
theorem sr_start {T : Par} {Z : Hd} {A H : Hp} {vs : List V} {ds : List D} {m : Nat} (hA : Same A H) (r : Reps T A vs ds) : SR T Z H A (ds.map Slot.bo ++ List.replicate m .un) (vs.map some ++ List.replicate m none) noH (fun _ _ => False) H := by
  have hl := r.length
  have hl2 : (vs.map some ++ List.replicate m (none : Option V)).length = (ds.map Slot.bo ++ List.replicate m Slot.un).length := by simp [hl]
  refine ⟨Same.refl _, hA, noH_same, (fun a o e => nomatch e), fun _ _ z => False.elim z, fun _ _ _ z _ => False.elim z, fun i x e => ?_, hl2⟩
  by_cases hi : i < ds.length
  · rw [List.getElem?_append_left (by simpa using hi), List.getElem?_map, List.getElem?_eq_getElem hi] at e
    cases e
    obtain ⟨v, e1, e2⟩ := r.get (List.getElem?_eq_getElem hi)
    refine ⟨some v, ?_, v, rfl, e2⟩
    rw [List.getElem?_append_left (by simpa [hl] using hi), List.getElem?_map, e1]
    rfl
  · rw [List.getElem?_append_right (by simpa using hi), List.getElem?_replicate] at e
    split at e
    · rename_i hm
      cases e
      refine ⟨none, ?_, trivial⟩
      rw [List.getElem?_append_right (by simp [hl]; omega), List.getElem?_replicate, if_pos (by simp [hl] at hm ⊢; omega)]
    · cases e
def Z0 : Hd := ⟨0, .none, none⟩
def wE (E : XK) : WX := fun cls d _ H => E cls d H
section
variable {P : Program} {w : World} {K : PySem.W.Frag} {mg : Str → Option Value} {base : Heap}
theorem okXN {P : Program} {w : World} {K : PySem.W.Frag} {mg : Str → Option Value} {base : Heap} {x qual : Str} {st : Stmt} {f : Addr} {fd : FuncData} {N ps : List Str} {k : Nat} {sp : Sp} (F : Fun K x qual st f fd) (S : FnScope N ps (defScope st)) (len : ∀ vs H Q E, sp vs H Q E → vs.length = ps.length)
    (hbody : ∀ (cdv : Value) (A : Around) (outer : List Env) (s : Shared) (H : Hp) (vs : List V) (Q : VK) (E : XK), Room k (A.deeper (PyProof.Rows.envOfC qual (defScope st) s.heap.objs.size f cdv)) → sp vs H Q E →
      ∃ t, PSs (cxOf (L2N.CX P w) P w K mg base N qual (defScope st) f cdv A outer s H E) (defBody st) t ∧ t { nx := fun _ H' => Q .non H', rt := Q } (L2.start N vs) H) : FnOk P w K mg base (L2N.CX P w) (k + 1) f fd ps sp := by
  obtain ⟨oc, od, kV, doc, pm, an, cdv, ct, osl, rfl, lk, hcd⟩ := F.ex
  exact fn_of lk hcd S len fun A outer s H vs Q E hr hsp => hbody cdv A outer s H vs Q E hr hsp
/-- THE RULE for a def -/
theorem fn_def {T : Par} {x qual : Str} {st : Stmt} {f : Addr} {fd : FuncData} {N ps : List Str} {k n m : Nat} {g : Dl → Out} (F : Fun K x qual st f fd) (S : FnScope N ps (defScope st)) (hn : ps.length = n) (hN : N.length = n + m)
    (hb : ∀ (cdv : Value) (A : Around) (outer : List Env) (s : Shared) (H : Hp) (E : XK), Room k (A.deeper (PyProof.Rows.envOfC qual (defScope st) s.heap.objs.size f cdv)) →
      PDss (cxOf (L2N.CX P w) P w K mg base N qual (defScope st) f cdv A outer s H E) T Z0 (wE E) (defBody st) g) : FnOk P w K mg base (L2N.CX P w) (k + 1) f fd ps (spOf T (defR n m g)) := by
  refine okXN F S (fun vs H Q E h => (sp_len h).trans hn.symm) fun cdv A outer s H vs Q E hr h => ?_
  obtain ⟨t, p, ev⟩ := hb cdv A outer s H E hr
  refine ⟨t, p, ?_⟩
  have hl := sp_len h
  obtain ⟨B, ds, hB, r, h⟩ := h
  rw [start_eq hl hN]
  refine ev H B _ _ noH _ H _ (sr_start hB r) ?_
  unfold defR at h
  rw [if_pos (by rw [← r.length]; exact hl)] at h
  cases hg : g (ds.map Slot.bo ++ List.replicate m .un) with
  | nx δ => rw [hg] at h; exact fun σ F' fp H' e s' => h .non F' H' s'.h0 s'.fh s'.fn (by rw [Rep])
  | rt d => rw [hg] at h; exact fun v F' H' e1 e2 e3 e4 => h v F' H' e1 e2 e3 e4
  | bk δ => rw [hg] at h; exact h.elim
  | ct δ => rw [hg] at h; exact h.elim
  | er c δ => rw [hg] at h; exact fun σ F' fp H' e s' => h H' s'.h0
  | no => rw [hg] at h; exact h.elim
end
section
variable {X : Cx} {T : Par} {Z : Hd} {W : WX} {a b c e o : Expr} {es : List Expr} {f1 f2 f3 : Dl → Res} {fa : Dl → ResA} {pos apos cpos p : Pos} {x : Str} {k : Nat} {f : Addr} {fd : FuncData} {ps : List Str} {g : List D → Ret}
theorem ev_call {t : TA} (ea : EvA T Z W t fa) : EvS T Z W (tCallS (spOf T g) (WE W) t) (callR g fa) := by
  intro H0 A δ σ F fp H Q s h
  refine ea H0 A δ σ F fp H _ s ?_
  unfold callR at h
  cases hf : fa δ with
  | no => rw [hf] at h; exact h.elim
  | er c => rw [hf] at h; exact h
  | ok ds st =>
    rw [hf] at h
    intro vs F' H' g' rs
    have r' : Reps T H' vs ds := by
      by_cases h2 : st = true
      · rw [if_pos h2] at rs; exact rs.mono g'.fh
      · rw [if_neg h2] at rs; exact rs
    refine ⟨H', ds, Same.refl _, r', ?_⟩
    simp only at h
    cases hg : g ds with
    | no => rw [hg] at h; exact h.elim
    | er c => rw [hg] at h; exact fun H2 e => h F' H2 ⟨g'.ff, g'.hh.trans e, g'.fh.trans e, g'.nw⟩
    | ok d =>
      rw [hg] at h
      intro v F2 H2 e1 e2 e3 r
      refine h v F' H2 ⟨g'.ff, g'.hh.trans e1, g'.fh.trans e1, g'.nw⟩ ⟨F2, e2, fun a u q => ?_, r⟩
      rcases e3 a u q with z | z
      · exact .inr ⟨g'.fh.free z, g'.hh.free z⟩
      · exact .inl z
theorem pd_call (F : FnOk X.prog X.w X.K X.mg X.base (L2N.CX X.prog X.w) k f fd ps (spOf T g)) (hr : Room k X.A) (hm : X.mg x = some (.ref f)) (hk : PySem.W.keepIn X.K (.ref f) = true) (hb : Binds X.K fd ps []) (tk : Takes X W) (ha : PDa X T Z W (e :: es) fa) (hg : Gl X x := by rfl)
    (hdb : (x == ("__debug__" : Str)) = false := by decide) (he : starEach (e :: es) X.env = (false, eval e X.env) :: starEach es X.env := by rfl) (hpl : (backTo pos (starEach es X.env)).any (·.1) = false := by rfl) : PDe X T Z W (.Call (.Name x p) (e :: es) [] pos) (callR g fa) := by
  obtain ⟨t, pa, ea⟩ := ha
  exact ⟨_, pe_callS F hr hg hm hk hb (fun σ => passAt tk σ) pa hdb he hpl, ev_call ea⟩
end
end
end DD

set_option maxRecDepth 100000
namespace DD
noncomputable section
open PySem L2N
open L2 hiding XE Takes CX takes_of passes_call MkP PMk ps_raise mk_of ps_try_as pmk_own passAt HdsOk ps_try_many ps_try_only

/-! ### try .. except -/
def noEx (δ : Dl) : Bool := δ.all fun x => match x with
  | .ex _ => false
  | _ => true
section
variable {X : Cx} {T : Par} {Z Z' : Hd} {W : WX} {H0 A : Hp} {δ : Dl} {σ : L2.St} {F H : Hp} {fp : Nat → Addr → Prop}
theorem SR.reZ (s : SR T Z H0 A δ σ F fp H) (h : noEx δ = true) : SR T Z' H0 A δ σ F fp H :=
  ⟨s.h0, s.ah, s.fh, s.fn, s.own, s.sep, fun i y e => by
    obtain ⟨o, h1, h2⟩ := s.sl i y e
    refine ⟨o, h1, ?_⟩
    cases y with
    | ex c =>
      unfold noEx at h
      rw [List.all_eq_true] at h
      have := h _ (List.mem_of_getElem? e)
      cases this
    | un => exact h2
    | sh d => exact h2
    | bo d => exact h2
    | ow d => exact h2
    | dp d => exact h2
    | an d => exact h2, s.len⟩
end
/-- behind a suite: j the slot of the clause's name, if it has one -/
def unO (j : Option Nat) (δ : Dl) : Dl := match j with
  | some j => δ.set j .un
  | none => δ
def behO (j : Option Nat) : Out → Out
  | .nx δ => (match noEx (unO j δ) with
    | true => .nx (unO j δ)
    | false => .no)
  | .bk δ => (match noEx (unO j δ) with
    | true => .bk (unO j δ)
    | false => .no)
  | .ct δ => (match noEx (unO j δ) with
    | true => .ct (unO j δ)
    | false => .no)
  | .rt d => .rt d
  | _ => .no
def exO (j : Option Nat) (c : Ex) (δ : Dl) : Dl := match j with
  | some j => δ.set j (.ex c)
  | none => δ
/-- takes: which exceptions the clause names -/
def tryO (j : Option Nat) (takes : Ex → Bool) (body suite : Dl → Out) : Dl → Out := fun δ => match body δ with
  | .er c δ' => if takes c = true then (if noEx δ' = true then behO j (suite (exO j c δ')) else .no) else .er c δ'
  | o => o
section
variable {X : Cx} {T : Par} {Z : Hd} {W : WX} {body suite : List Stmt} {b₀ : Stmt} {x n : Str} {c : Value} {np pos pos' : Pos} {k1 k2 : Dl → Out} {takes : Ex → Bool}
/-- readings for all bodies of a try -/
theorem ev_allS {ι : Type} {f : Dl → Out} {Y : ι → Cx} {C : ι → Prop} {es : List Stmt} {Z' : Hd} (h : ∀ i, C i → PDss (Y i) T Z' W es f) : ∃ t, (∀ i, C i → PSs (Y i) es t) ∧ StS T Z' W t (fun δ => f δ) ∧ True :=
  ⟨fun D σ H => ∀ i, C i → ∃ t, PSs (Y i) es t ∧ t D σ H, fun i hc => ⟨fun pins s σ H D I w => by
    obtain ⟨t, p, q⟩ := w i hc
    exact p.run pins s σ H D I q⟩, fun H0 A δ σ F fp H D s w i hc => by
    obtain ⟨t, p, ev⟩ := h i hc
    exact ⟨t, p, ev H0 A δ σ F fp H D s w⟩, trivial⟩
theorem try_onlyN {tb : WX → TS} {ts : Addr → Value → Option Addr → TS} (hs : X.stack = X.env :: X.outer) (hf : X.env.frame = some X.env.locals) (hc : Names X x c) (tk : Takes X W)
    (hb : ∀ (W' : WX) (pn : List (Addr × Obj)) (xe : Value → Shared → Prop), Takes (X.tr pn xe) W' → PassesOwn (model X.prog X.w) X.A X.env xe → PSs (X.tr pn xe) body (tb W'))
    (hsu : ∀ (a : Addr) (oe : Obj) (cls : Value) (d : Option Addr) (pn : List (Addr × Obj)), Zn cls d oe → (∃ vs, oe.data = .fields vs) → PSs (X.suite a ((a, oe) :: pn)) (b₀ :: suite) (ts a cls d)) :
    PS X (.Try body [.ExceptHandler (some (.Name x np)) none (b₀ :: suite) pos'] [] [] pos) (fun D σ H => tb (wMany X.K W D [(c, ts)]) D σ H) :=
  ps_try_many hs hf tk hb (.cons hc hsu .nil)
theorem sd_try_only (hs : X.stack = X.env :: X.outer) (hf : X.env.frame = some X.env.locals) (hc : Names X x c) (tk : Takes X W) (ht : ∀ c', PySem.W.exmOne X.K (.ref (T.cx c')) c = some (takes c'))
    (hb : ∀ (W' : WX) (pn : List (Addr × Obj)) (xe : Value → Shared → Prop), Takes (X.tr pn xe) W' → PassesOwn (model X.prog X.w) X.A X.env xe → PDss (X.tr pn xe) T Z W' body k1)
    (hsu : ∀ (a : Addr) (oe : Obj) (cls : Value) (d : Option Addr) (pn : List (Addr × Obj)), Zn cls d oe → (∃ vs, oe.data = .fields vs) → PDss (X.suite a ((a, oe) :: pn)) T ⟨a, cls, d⟩ noW (b₀ :: suite) k2) :
    PDs X T Z W (.Try body [.ExceptHandler (some (.Name x np)) none (b₀ :: suite) pos'] [] [] pos) (tryO none takes k1 k2) := by
  let tb : WX → TS := fun W' D σ H => ∀ pn xe, Takes (X.tr pn xe) W' → PassesOwn (model X.prog X.w) X.A X.env xe → ∃ t, PSs (X.tr pn xe) body t ∧ t D σ H
  let ts : Addr → Value → Option Addr → TS := fun a cls d D σ H => ∀ oe pn, Zn cls d oe → (∃ vs, oe.data = .fields vs) → ∃ t, PSs (X.suite a ((a, oe) :: pn)) (b₀ :: suite) t ∧ t D σ H
  refine ⟨_, try_onlyN (tb := tb) (ts := ts) hs hf hc tk (fun W' pn xe h1 h2 => ⟨fun pins s σ H D I w => ?_⟩) (fun a oe cls d pn h1 h2 => ⟨fun pins s σ H D I w => ?_⟩), ?_⟩
  · obtain ⟨t, p, q⟩ := w pn xe h1 h2
    exact p.run pins s σ H D I q
  · obtain ⟨t, p, q⟩ := w oe pn h1 h2
    exact p.run pins s σ H D I q
  · intro H0 A δ σ F fp H E s h
    show tb _ E σ H
    intro pn xe h1 h2
    obtain ⟨t, p, ev⟩ := hb _ pn xe h1 h2
    refine ⟨t, p, ev H0 A δ σ F fp H E s ?_⟩
    unfold tryO at h
    cases hk : k1 δ with
    | nx δ' => rw [hk] at h; exact h
    | bk δ' => rw [hk] at h; exact h
    | ct δ' => rw [hk] at h; exact h
    | rt d => rw [hk] at h; exact h
    | no => rw [hk] at h; exact h
    | er c' δ' =>
      rw [hk] at h
      intro σ' F' fp' H' e s'
      refine ⟨takes c', ht c', fun hb' a na oe pn' z1 z2 => ?_, fun hb' => ?_⟩
      · simp only at h
        rw [if_pos hb'] at h
        split at h
        case isFalse => exact h.elim
        rename_i hne
        obtain ⟨t', p', ev'⟩ := hsu a oe (.ref (T.cx c')) none pn' z1 z2
        refine ⟨t', p', ev' H0 A δ' σ' F' fp' H' E (s'.reZ hne) ?_⟩
        have h := h.later e
        simp only [exO] at h
        cases hk2 : k2 δ' with
        | nx δ2 =>
          rw [hk2] at h
          simp only [behO, unO] at h
          cases hn2 : noEx δ2 with
          | true =>
            rw [hn2] at h
            exact fun σ2 F2 fp2 H2 e2 s2 => h σ2 F2 fp2 H2 e2 (s2.reZ hn2)
          | false => rw [hn2] at h; exact h.elim
        | bk δ2 =>
          rw [hk2] at h
          simp only [behO, unO] at h
          cases hn2 : noEx δ2 with
          | true =>
            rw [hn2] at h
            exact fun σ2 F2 fp2 H2 e2 s2 => h σ2 F2 fp2 H2 e2 (s2.reZ hn2)
          | false => rw [hn2] at h; exact h.elim
        | ct δ2 =>
          rw [hk2] at h
          simp only [behO, unO] at h
          cases hn2 : noEx δ2 with
          | true =>
            rw [hn2] at h
            exact fun σ2 F2 fp2 H2 e2 s2 => h σ2 F2 fp2 H2 e2 (s2.reZ hn2)
          | false => rw [hn2] at h; exact h.elim
        | rt d => rw [hk2] at h; exact h
        | er c2 δ2 => rw [hk2] at h; exact h.elim
        | no => rw [hk2] at h; exact h.elim
      · simp only at h
        rw [if_neg (by rw [hb']; decide)] at h
        exact h σ' F' fp' H' e s'
theorem sd_try_as (j : Nat) (hs : X.stack = X.env :: X.outer) (hf : X.env.frame = some X.env.locals) (hN : X.N.Nodup) (hj : X.N[j]? = some n) (hln : X.env.kindOf n = some .local) (hc : Names X x c) (tk : Takes X W) (ht : ∀ c', PySem.W.exmOne X.K (.ref (T.cx c')) c = some (takes c'))
    (hb : ∀ (W' : WX) (pn : List (Addr × Obj)) (xe : Value → Shared → Prop), Takes (X.tr pn xe) W' → PassesOwn (model X.prog X.w) X.A X.env xe → PDss (X.tr pn xe) T Z W' body k1)
    (hsu : ∀ (a : Addr) (oe : Obj) (cls : Value) (d : Option Addr) (pn : List (Addr × Obj)), Zn cls d oe → (∃ vs, oe.data = .fields vs) → PDss (X.suite a ((a, oe) :: pn)) T ⟨a, cls, d⟩ noW (b₀ :: suite) k2) :
    PDs X T Z W (.Try body [.ExceptHandler (some (.Name x np)) (some n) (b₀ :: suite) pos'] [] [] pos) (tryO (some j) takes k1 k2) := by
  let tb : WX → TS := fun W' D σ H => ∀ pn xe, Takes (X.tr pn xe) W' → PassesOwn (model X.prog X.w) X.A X.env xe → ∃ t, PSs (X.tr pn xe) body t ∧ t D σ H
  let ts : Addr → Value → Option Addr → TS := fun a cls d D σ H => ∀ oe pn, Zn cls d oe → (∃ vs, oe.data = .fields vs) → ∃ t, PSs (X.suite a ((a, oe) :: pn)) (b₀ :: suite) t ∧ t D σ H
  refine ⟨_, ps_try_as (i := j) (tb := tb) (ts := ts) hs hf hN hj hln hc tk (fun W' pn xe h1 h2 => ⟨fun pins s σ H D I w => ?_⟩) (fun a oe cls d pn h1 h2 => ⟨fun pins s σ H D I w => ?_⟩), ?_⟩
  · obtain ⟨t, p, q⟩ := w pn xe h1 h2
    exact p.run pins s σ H D I q
  · obtain ⟨t, p, q⟩ := w oe pn h1 h2
    exact p.run pins s σ H D I q
  · intro H0 A δ σ F fp H E s h
    show tb _ E σ H
    intro pn xe h1 h2
    obtain ⟨t, p, ev⟩ := hb _ pn xe h1 h2
    refine ⟨t, p, ev H0 A δ σ F fp H E s ?_⟩
    unfold tryO at h
    cases hk : k1 δ with
    | nx δ' => rw [hk] at h; exact h
    | bk δ' => rw [hk] at h; exact h
    | ct δ' => rw [hk] at h; exact h
    | rt d => rw [hk] at h; exact h
    | no => rw [hk] at h; exact h
    | er c' δ' =>
      rw [hk] at h
      intro σ' F' fp' H' e s'
      refine ⟨takes c', ht c', fun hb' a na oe pn' z1 z2 => ?_, fun hb' => ?_⟩
      · simp only at h
        rw [if_pos hb'] at h
        split at h
        case isFalse => exact h.elim
        rename_i hne
        obtain ⟨t', p', ev'⟩ := hsu a oe (.ref (T.cx c')) none pn' z1 z2
        have s2 : SR T ⟨a, .ref (T.cx c'), none⟩ H0 A (δ'.set j (.ex c')) (σ'.set j (some (.ref a))) F' _ H' := (s'.reZ hne).setSh j (x := .ex c') ⟨rfl, rfl, rfl⟩
        refine ⟨t', p', ev' H0 A _ _ F' _ H' _ s2 ?_⟩
        have h := h.later e
        simp only [exO] at h
        cases hk2 : k2 (δ'.set j (.ex c')) with
        | nx δ2 =>
          rw [hk2] at h
          simp only [behO, unO] at h
          cases hn2 : noEx (δ2.set j .un) with
          | true =>
            rw [hn2] at h
            exact fun σ2 F2 fp2 H2 e2 s2 => h _ F2 fp2 H2 e2 ((s2.unset j).reZ hn2)
          | false => rw [hn2] at h; exact h.elim
        | bk δ2 =>
          rw [hk2] at h
          simp only [behO, unO] at h
          cases hn2 : noEx (δ2.set j .un) with
          | true =>
            rw [hn2] at h
            exact fun σ2 F2 fp2 H2 e2 s2 => h _ F2 fp2 H2 e2 ((s2.unset j).reZ hn2)
          | false => rw [hn2] at h; exact h.elim
        | ct δ2 =>
          rw [hk2] at h
          simp only [behO, unO] at h
          cases hn2 : noEx (δ2.set j .un) with
          | true =>
            rw [hn2] at h
            exact fun σ2 F2 fp2 H2 e2 s2 => h _ F2 fp2 H2 e2 ((s2.unset j).reZ hn2)
          | false => rw [hn2] at h; exact h.elim
        | rt d => rw [hk2] at h; exact h
        | er c2 δ2 => rw [hk2] at h; exact h.elim
        | no => rw [hk2] at h; exact h.elim
      · simp only at h
        rw [if_neg (by rw [hb']; decide)] at h
        exact h σ' F' fp' H' e s'
end

/-! ### isinstance of the handled exception -/
def isER (i : Nat) (b : Ex → Bool) : Dl → Res := fun δ => match δ[i]? with
  | some (.ex c) => .ok (.bl (b c)) .st
  | _ => .no
section
variable {X : Cx} {T : Par} {W : WX} {a : Addr} {oe : Obj} {pn : List (Addr × Obj)} {cls : Value} {d : Option Addr} {b : Ex → Bool}
theorem pd_isE (i : Nat) {x y : Str} {v : V} {cv : Value} {p1 p2 p3 pos : Pos} (hz : Zn cls d oe) (hf : ∃ vs, oe.data = .fields vs) (hE : ∀ c, ExcC X.K (T.cx c)) (hb : ∀ c, PySem.W.kitOne X.K (.ref (T.cx c)) cv = some (b c))
    (hm : X.mg "isinstance" = none) (hc : PE (X.suite a ((a, oe) :: pn)) (.Name y p2) (tC v)) (hv : ∀ u, RelV v u → u = cv) (hN : X.N[i]? = some x := by rfl) (hvis : Vis X.env.scope x := by first | exact Or.inl rfl | exact Or.inr (Or.inl rfl) | exact Or.inr (Or.inr rfl)) (hd : (x == ("__debug__" : Str)) = false := by decide)
    (hcd : (x == ("__classdict__" : Str)) = false := by decide) (hg : Gl X "isinstance" := by rfl)
    (he : starEach [.Name x p1, .Name y p2] X.env = (false, eval (.Name x p1) X.env) :: starEach [.Name y p2] X.env := by rfl) (he2 : starEach [.Name y p2] X.env = (false, eval (.Name y p2) X.env) :: starEach [] X.env := by rfl) (hpl : (backTo pos (starEach [.Name y p2] X.env)).any (·.1) = false := by rfl)
    (hboot : bootBuiltins "isinstance" = some (.builtin "isinstance") := by decide +kernel) :
    PDe (X.suite a ((a, oe) :: pn)) T ⟨a, cls, d⟩ W (.Call (.Name "isinstance" p3) [.Name x p1, .Name y p2] [] pos) (isER i b) := by
  refine ⟨fun σ H Q => ∃ c, cls = .ref (T.cx c) ∧ d = none ∧ tCB (rIsE X.K (T.cx c) a) (tCons (tVar i) (tCons (tC v) tNil)) σ H Q, ⟨fun pins s σ H Q I h => ?_⟩, ?_⟩
  · obtain ⟨c, rfl, rfl, h⟩ := h
    have pv : PE (X.suite a ((a, oe) :: pn)) (.Name x p1) (tVar i) := pe_var hN hvis hd hcd
    exact (pe_callB (X := X.suite a ((a, oe) :: pn)) (call_isE (hE c) hz.zc hf) hg hm hboot (pa_cons pv (pa_cons hc pa_nil he2) he) (by decide) (by decide) he hpl).run pins s σ H Q I h
  · intro H0 A δ σ F fp H Q s h
    unfold isER at h
    cases e : δ[i]? with
    | none => rw [e] at h; exact h.elim
    | some y =>
      rw [e] at h
      cases y with
      | ex c =>
        obtain ⟨o, h1, h2, h3, h4⟩ := s.sl i _ e
        subst h2
        refine ⟨c, h3, h4, _, h1, v, cv, b c, rfl, hv, hb c, ?_⟩
        exact h (.bl (b c)) F H (Grow.refl s.fh) (by show Rep T F _ _; rw [Rep])
      | _ => exact h.elim
end

/-! ### a, b = e -/
def unpO (i j : Nat) (f : Dl → Res) : Dl → Out := fun δ => match f δ with
  | .ok (.tup [d, e]) k => if stK (.tup [d, e]) k = true then .nx ((δ.set i (.sh d)).set j (.sh e)) else .no
  | .er c => .er c δ
  | _ => .no
section
variable {X : Cx} {T : Par} {Z : Hd} {W : WX} {e : Expr} {f1 : Dl → Res} {pos : Pos}
theorem sd_unp {x y : Str} {px py pt : Pos} {kt : Nat} (i j : Nat) (hN : X.N.Nodup) (he : PDe X T Z W e f1) (hi : X.N[i]? = some x := by rfl) (hj : X.N[j]? = some y := by rfl) (hx : Loc X.env.scope x := by first | exact Or.inl rfl | exact Or.inr rfl) (hy : Loc X.env.scope y := by first | exact Or.inl rfl | exact Or.inr rfl)
    (hc : X.calm = true := by rfl) (hK : X.K = T.K := by rfl) (hfx : X.fn x = true ∨ X.env.scope.names.lookup x = some .local := by first | exact .inl rfl | exact .inr rfl) (hfy : X.fn y = true ∨ X.env.scope.names.lookup y = some .local := by first | exact .inl rfl | exact .inr rfl)
    (hn : (assignEach [.Name x px, .Name y py] X.env).length = 2 := by rfl) (hst : (assignEach [.Name x px, .Name y py] X.env).findIdx? (·.1) = none := by rfl)
    (hs1 : (assignEach [.Name x px, .Name y py] X.env).map (·.2) = assign (.Name x px) X.env :: (assignEach [.Name y py] X.env).map (·.2) := by rfl) (hs2 : (assignEach [.Name y py] X.env).map (·.2) = assign (.Name y py) X.env :: (assignEach [] X.env).map (·.2) := by rfl)
    (hs : swapsWithSole [.Tuple [.Name x px, .Name y py] kt pt] e pos.line X.env = pure false := by rfl) (hw : swappedStores [.Tuple [.Name x px, .Name y py] kt pt] e X.env = pure none := by rfl)
    (h1 : (assignEach [.Tuple [.Name x px, .Name y py] kt pt] X.env).map (·.2) = [assign (.Tuple [.Name x px, .Name y py] kt pt) X.env] := by rfl) :
    PDs X T Z W (.Assign [.Tuple [.Name x px, .Name y py] kt pt] e pos) (unpO i j f1) := by
  obtain ⟨t, pe, ev⟩ := he
  refine ⟨_, ps_asg pe (pg_tup (n := 2) hc (pgs_cons (pg_name hN hi hx hfx) (pgs_cons (pg_name hN hj hy hfy) pgs_nil hs2) hs1) hn hst) hs hw h1, ?_⟩
  rw [hK]
  intro H0 A δ σ F fp H E s h
  unfold unpO at h
  refine ev.stm s h (fun c hc => by rw [hc]) (fun hc => by rw [hc]) fun d kd v F' H' hf g r => ?_
  rw [hf] at h
  match d, h, r with
  | .tup [d, e], h, r =>
    simp only at h
    split at h
    case isFalse => exact h.elim
    rename_i hk
    have s' := s.grow g
    obtain ⟨F2, g2, r2⟩ := r.shareG g s'.aH hk
    rw [Rep] at r2
    obtain ⟨p, vs, rfl, e1, e2⟩ := r2
    have s2 := s.grow g2
    match vs, e2 with
    | [v1, v2], e2 =>
      simp only [Reps] at e2
      refine ⟨p, [v1, v2], rfl, SqT.of (g2.fh _ _ e1), rfl, v1, [v2], rfl, v2, [], rfl, rfl, ?_⟩
      exact h _ F2 _ _ g2.ff ((s2.setSh i (x := .sh d) ⟨v1, rfl, e2.1⟩).setSh j (x := .sh e) ⟨v2, rfl, e2.2.1⟩)
    | [], e2 => simp [Reps] at e2
    | [v1], e2 => simp [Reps] at e2
    | v1 :: v2 :: v3 :: r, e2 => simp [Reps] at e2
end
end
end DD

set_option maxRecDepth 100000
namespace DD
noncomputable section
open PySem L2N
open L2 hiding XE Takes CX takes_of passes_call MkP PMk ps_raise mk_of ps_try_as pmk_own passAt HdsOk ps_try_many ps_try_only

/-! ### short words -/
def arg1 (f : Dl → Res) : Dl → ResA := consR f nilR
def arg2 (f g : Dl → Res) : Dl → ResA := consR f (consR g nilR)
section
variable {X : Cx} {T : Par} {Z : Hd} {W : WX} {a b c e o : Expr} {es : List Expr} {f1 f2 f3 : Dl → Res} {fa : Dl → ResA} {pos apos cpos p : Pos} {x : Str}
theorem pd_len (ha : PDe X T Z W a f1) (hm : X.mg "len" = none) (hK : X.K = T.K := by rfl) (hg : Gl X "len" := by rfl) (he : starEach [a] X.env = (false, eval a X.env) :: starEach [] X.env := by rfl) (hpl : (backTo pos (starEach [] X.env)).any (·.1) = false := by rfl) :
    PDe X T Z W (.Call (.Name "len" p) [a] [] pos) (cbR gLen (arg1 f1)) := pd_callB (r := fun xs H Q => ∃ x n, xs = [x] ∧ LenV T.K x H n ∧ Q (.int n) H) (by rw [← hK]; exact call_len) cs_len hm (by decide +kernel) (ad_cons ha ad_nil he) hg (by decide) (by decide) he hpl
theorem pd_list (ha : PDe X T Z W a f1) (hm : X.mg "list" = none) (hK : X.K = T.K := by rfl) (hg : Gl X "list" := by rfl) (he : starEach [a] X.env = (false, eval a X.env) :: starEach [] X.env := by rfl) (hpl : (backTo pos (starEach [] X.env)).any (·.1) = false := by rfl) :
    PDe X T Z W (.Call (.Name "list" p) [a] [] pos) (cbR gList (arg1 f1)) := pd_callTy (r := fun xs H Q => ∃ p ys, xs = [.ref p] ∧ (SqL T.K H p ys ∨ SqT T.K H p ys) ∧ ∀ l, H l = none → Q (.ref l) (upd H l (.lst ys))) (by rw [← hK]; exact call_list_of) cs_list hm (by decide +kernel) (ad_cons ha ad_nil he) hg (by decide) (by decide) he hpl
theorem pd_intc (ha : PDe X T Z W a f1) (hm : X.mg "int" = none) (hg : Gl X "int" := by rfl) (he : starEach [a] X.env = (false, eval a X.env) :: starEach [] X.env := by rfl) (hpl : (backTo pos (starEach [] X.env)).any (·.1) = false := by rfl) :
    PDe X T Z W (.Call (.Name "int" p) [a] [] pos) (cbR gInt (arg1 f1)) := pd_callTy (CallR.or call_int1 call_int_str) cs_int hm (by decide +kernel) (ad_cons ha ad_nil he) hg (by decide) (by decide) he hpl
theorem pd_strI (ha : PDe X T Z W a f1) (hm : X.mg "str" = none) (hg : Gl X "str" := by rfl) (he : starEach [a] X.env = (false, eval a X.env) :: starEach [] X.env := by rfl) (hpl : (backTo pos (starEach [] X.env)).any (·.1) = false := by rfl) :
    PDe X T Z W (.Call (.Name "str" p) [a] [] pos) (cbR gStrI (arg1 f1)) := pd_callTy call_str_int cs_strI hm (by decide +kernel) (ad_cons ha ad_nil he) hg (by decide) (by decide) he hpl
theorem pd_sum (ha : PDe X T Z W a f1) (hm : X.mg "sum" = none) (hK : X.K = T.K := by rfl) (hc : X.calm = true := by rfl) (hg : Gl X "sum" := by rfl) (he : starEach [a] X.env = (false, eval a X.env) :: starEach [] X.env := by rfl) (hpl : (backTo pos (starEach [] X.env)).any (·.1) = false := by rfl) :
    PDe X T Z W (.Call (.Name "sum" p) [a] [] pos) (cbR gSum (arg1 f1)) := pd_callB (r := rSum T.K) (by rw [← hK]; exact cr_sum hc) cs_sum hm (by decide +kernel) (ad_cons ha ad_nil he) hg (by decide) (by decide) he hpl
theorem pd_all (ha : PDe X T Z W a f1) (hm : X.mg "all" = none) (hK : X.K = T.K := by rfl) (hc : X.calm = true := by rfl) (hg : Gl X "all" := by rfl) (he : starEach [a] X.env = (false, eval a X.env) :: starEach [] X.env := by rfl) (hpl : (backTo pos (starEach [] X.env)).any (·.1) = false := by rfl) :
    PDe X T Z W (.Call (.Name "all" p) [a] [] pos) (cbR gAll (arg1 f1)) := pd_callB (r := rAll T.K) (by rw [← hK]; exact cr_all hc) cs_all hm (by decide +kernel) (ad_cons ha ad_nil he) hg (by decide) (by decide) he hpl
theorem pd_min (ha : PDe X T Z W a f1) (hm : X.mg "min" = none) (hK : X.K = T.K := by rfl) (hc : X.calm = true := by rfl) (hg : Gl X "min" := by rfl) (he : starEach [a] X.env = (false, eval a X.env) :: starEach [] X.env := by rfl) (hpl : (backTo pos (starEach [] X.env)).any (·.1) = false := by rfl) :
    PDe X T Z W (.Call (.Name "min" p) [a] [] pos) (cbR gMin (arg1 f1)) := pd_callB (r := rMin T.K) (by rw [← hK]; exact cr_min hc) cs_min hm (by decide +kernel) (ad_cons ha ad_nil he) hg (by decide) (by decide) he hpl
theorem pd_min2 (ha : PDe X T Z W a f1) (hb : PDe X T Z W b f2) (hm : X.mg "min" = none) (hc : X.calm = true := by rfl) (hg : Gl X "min" := by rfl) (he : starEach [a, b] X.env = (false, eval a X.env) :: starEach [b] X.env := by rfl) (he2 : starEach [b] X.env = (false, eval b X.env) :: starEach [] X.env := by rfl) (hpl : (backTo pos (starEach [b] X.env)).any (·.1) = false := by rfl) :
    PDe X T Z W (.Call (.Name "min" p) [a, b] [] pos) (cbR gMin2 (arg2 f1 f2)) := pd_callB (call_min2 hc) cs_min2 hm (by decide +kernel) (ad_cons ha (ad_cons hb ad_nil he2) he) hg (by decide) (by decide) he hpl
theorem pd_max2 (ha : PDe X T Z W a f1) (hb : PDe X T Z W b f2) (hm : X.mg "max" = none) (hc : X.calm = true := by rfl) (hg : Gl X "max" := by rfl) (he : starEach [a, b] X.env = (false, eval a X.env) :: starEach [b] X.env := by rfl) (he2 : starEach [b] X.env = (false, eval b X.env) :: starEach [] X.env := by rfl) (hpl : (backTo pos (starEach [b] X.env)).any (·.1) = false := by rfl) :
    PDe X T Z W (.Call (.Name "max" p) [a, b] [] pos) (cbR gMax2 (arg2 f1 f2)) := pd_callB (call_max2 hc) cs_max2 hm (by decide +kernel) (ad_cons ha (ad_cons hb ad_nil he2) he) hg (by decide) (by decide) he hpl
end



section
variable {X : Cx} {T : Par} {Z : Hd} {W : WX} {x : Str} {pos : Pos} {t : Tok}
theorem pd_globI {i : Int} (hm : X.mg x = some (.int i t)) (hg : Gl X x := by rfl) (hdb : (x == ("__debug__" : Str)) = false := by decide) : PDe X T Z W (.Name x pos) (conR (.int i)) := pd_glob (v := .int i) hm ⟨t, rfl⟩ rfl hg hdb
theorem pd_globS {s : Str} (hm : X.mg x = some (.str s t)) (hg : Gl X x := by rfl) (hdb : (x == ("__debug__" : Str)) = false := by decide) : PDe X T Z W (.Name x pos) (conR (.str s)) := pd_glob (v := .str s) hm ⟨t, rfl⟩ rfl hg hdb
end

/-! ### tests that are comparisons -/
section
variable {X : Cx} {T : Par} {Z : Hd} {W : WX} {a b c : Expr} {f1 f2 f3 : Dl → Res} {pos : Pos}
theorem EvS.tst {ta : TE} (ea : EvS T Z W ta f1) : EvB T Z W (tB ta) (tstR f1) := by
  intro H0 A δ σ F fp H Q s h
  refine ea H0 A δ σ F fp H _ s ?_
  unfold tstR at h
  cases hf : f1 δ with
  | ok d k =>
    rw [hf] at h
    cases d with
    | bl c =>
      intro v F' H' g r
      have s1 := s.grow g
      have rv := r.rep s1.aH s1.fh
      rw [Rep] at rv
      exact ⟨c, rv, h F' H' g⟩
    | _ => exact h.elim
  | er c => rw [hf] at h; exact h
  | no => rw [hf] at h; exact h.elim
theorem td_cmp {op : CmpOp} {r : R2} {g : D → D → Opt} (ho : OpR X (compareOp op) r) (hr : OpS T r g) (ha : PDe X T Z W a f1) (hb : PDe X T Z W b f2) (hm : behindInMarks op b = false) : PDt X T Z W (.Compare a [op] [b] pos) (tstR (opR g f1 f2)) := by
  obtain ⟨ta, pa, ea⟩ := ha
  obtain ⟨tb, pb, eb⟩ := hb
  exact ⟨_, pt_cmpR ho pa pb hm, (ea.two eb hr).tst⟩
theorem td_lt (ha : PDe X T Z W a f1) (hb : PDe X T Z W b f2) : PDt X T Z W (.Compare a [.Lt] [b] pos) (tstR (opR gLt f1 f2)) := td_cmp op_lt os_lt ha hb (nobehind _ (by decide) (by decide))
theorem td_le (ha : PDe X T Z W a f1) (hb : PDe X T Z W b f2) : PDt X T Z W (.Compare a [.LtE] [b] pos) (tstR (opR gLe f1 f2)) := td_cmp op_le os_le ha hb (nobehind _ (by decide) (by decide))
theorem td_gt (ha : PDe X T Z W a f1) (hb : PDe X T Z W b f2) : PDt X T Z W (.Compare a [.Gt] [b] pos) (tstR (opR gGt f1 f2)) := td_cmp op_gt os_gt ha hb (nobehind _ (by decide) (by decide))
theorem td_ge (ha : PDe X T Z W a f1) (hb : PDe X T Z W b f2) : PDt X T Z W (.Compare a [.GtE] [b] pos) (tstR (opR gGe f1 f2)) := td_cmp op_ge os_ge ha hb (nobehind _ (by decide) (by decide))
theorem td_eq (hu : X.A.units + 64 < cLine) (ha : PDe X T Z W a f1) (hb : PDe X T Z W b f2) (hK : X.K = T.K := by rfl) : PDt X T Z W (.Compare a [.Eq] [b] pos) (tstR (opR gEq f1 f2)) := by
  refine td_cmp (r := rEqA T.K) ?_ os_eq ha hb (nobehind _ (by decide) (by decide))
  rw [← hK]
  exact OpR.or op_eq (op_eqD hu)
theorem td_ne (hu : X.A.units + 64 < cLine) (ha : PDe X T Z W a f1) (hb : PDe X T Z W b f2) (hK : X.K = T.K := by rfl) : PDt X T Z W (.Compare a [.NotEq] [b] pos) (tstR (opR gNe f1 f2)) := by
  refine td_cmp (r := rNeA T.K) ?_ os_ne ha hb (nobehind _ (by decide) (by decide))
  rw [← hK]
  exact OpR.or op_ne (op_neD hu)
theorem td_in (ha : PDe X T Z W a f1) (hb : PDe X T Z W b f2) (hm : behindInMarks .In b = false := by rfl) (hK : X.K = T.K := by rfl) : PDt X T Z W (.Compare a [.In] [b] pos) (tstR (opR gIn f1 f2)) := by
  refine td_cmp (r := rInA T.K false) ?_ os_in ha hb hm
  rw [← hK]
  exact OpR.or op_in_seq op_inSg
theorem td_notIn (ha : PDe X T Z W a f1) (hb : PDe X T Z W b f2) (hm : behindInMarks .NotIn b = false := by rfl) (hK : X.K = T.K := by rfl) : PDt X T Z W (.Compare a [.NotIn] [b] pos) (tstR (opR gNotIn f1 f2)) := by
  refine td_cmp (r := rInA T.K true) ?_ os_notIn ha hb hm
  rw [← hK]
  exact OpR.or op_notIn_seq op_ninSg
theorem td_isN {j pos'} (ha : PDe X T Z W a f1) : PDt X T Z W (.Compare a [.Is] [.Constant .none j pos'] pos) (tstR (unR gIsN f1)) := by
  obtain ⟨ta, pa, ea⟩ := ha
  refine ⟨_, pt_cmp (pc_isN pa), (ea.un (r := fun x H Q => Q (.bl (decide (x = .non))) H) fun A F H Q x d hA hF rx h => ?_).tst⟩
  show Q (.bl (decide (x = .non))) H
  rw [isNon_rep rx]
  exact post_st hF h rfl
theorem td_notN {j pos'} (ha : PDe X T Z W a f1) : PDt X T Z W (.Compare a [.IsNot] [.Constant .none j pos'] pos) (tstR (unR gNotN f1)) := by
  obtain ⟨ta, pa, ea⟩ := ha
  refine ⟨_, pt_cmp (pc_notN pa), (ea.un (r := fun x H Q => Q (.bl (!decide (x = .non))) H) fun A F H Q x d hA hF rx h => ?_).tst⟩
  show Q (.bl (!decide (x = .non))) H
  rw [isNon_rep rx]
  exact post_st hF h rfl
theorem EvS.din {ta tb : TE} (ea : EvS T Z W ta f1) (eb : EvS T Z W tb f2) : EvS T Z W (tDIn ta tb) (opR gDIn f1 f2) := by
  refine EvS.two (r := fun y x H Q => ∃ a o, x = .ref a ∧ DGet H a y o ∧ Q (.bl o.isSome) H) ea eb fun A F H Q y x d e hA hF ry rx h => ?_
  unfold gDIn at h
  cases hb : dgetB e d with
  | none => rw [hb] at h; exact h.elim
  | some r =>
    rw [hb] at h
    obtain ⟨p, rfl, q, _⟩ := dgetB_rule rx ry hb
    refine ⟨p, _, rfl, q, ?_⟩
    rw [Option.isSome_map]
    exact post_st hF h rfl
theorem EvS.dnotin {ta tb : TE} (ea : EvS T Z W ta f1) (eb : EvS T Z W tb f2) : EvS T Z W (tDNotIn ta tb) (opR gDNotIn f1 f2) := by
  refine EvS.two (r := fun y x H Q => ∃ a o, x = .ref a ∧ DGet H a y o ∧ Q (.bl (!o.isSome)) H) ea eb fun A F H Q y x d e hA hF ry rx h => ?_
  unfold gDNotIn at h
  cases hb : dgetB e d with
  | none => rw [hb] at h; exact h.elim
  | some r =>
    rw [hb] at h
    obtain ⟨p, rfl, q, _⟩ := dgetB_rule rx ry hb
    refine ⟨p, _, rfl, q, ?_⟩
    rw [Option.isSome_map]
    exact post_st hF h rfl
theorem td_din (hu : X.A.units + 1 < cLine) (ha : PDe X T Z W a f1) (hb : PDe X T Z W b f2) (h1 : behindInMarks .In b = false := by rfl) : PDt X T Z W (.Compare a [.In] [b] pos) (tstR (opR gDIn f1 f2)) := by
  obtain ⟨ta, pa, ea⟩ := ha
  obtain ⟨tb, pb, eb⟩ := hb
  exact ⟨_, pt_cmp (pc_din hu pa pb) h1, (ea.din eb).tst⟩
theorem td_dnotin (hu : X.A.units + 1 < cLine) (ha : PDe X T Z W a f1) (hb : PDe X T Z W b f2) (h1 : behindInMarks .NotIn b = false := by rfl) : PDt X T Z W (.Compare a [.NotIn] [b] pos) (tstR (opR gDNotIn f1 f2)) := by
  obtain ⟨ta, pa, ea⟩ := ha
  obtain ⟨tb, pb, eb⟩ := hb
  exact ⟨_, pt_cmp (pc_dnotin hu pa pb) h1, (ea.dnotin eb).tst⟩
theorem EvS.chain {r r' : R2} {g g' : D → D → Opt} {ta tb tc : TE} (hr : OpS T r g) (hr' : OpS T r' g') (ea : EvS T Z W ta f1) (eb : EvS T Z W tb f2) (ec : EvS T Z W tc f3) : EvS T Z W (tChain r r' ta tb tc) (chR g g' f1 f2 f3) := by
  intro H0 A δ σ F fp H Q s h
  unfold chR at h
  refine ea.then_ s h _ fun d k v F1 H1 _ g1 s1 r1 h1 => ?_
  have h1' := h1.later g1
  refine eb.then_ s1 h1' _ fun e k2 u F2 H2 _ g2 s2 r2 h2 => ?_
  have q := h2.later g2
  have rv := (r1.rep s1.aH s1.fh).mono g2.hh
  have ru := r2.rep s2.aH s2.fh
  refine hr A F2 H2 _ v u d e s2.aH s2.fh rv ru ?_
  split at q
  · rename_i hg
    rw [hg]
    intro z F3 H3 g3 r3
    have rz : Rep T F3 z (.bl true) := r3
    rw [Rep] at rz
    refine ⟨true, rz, iteT ?_⟩
    have s3 := s2.grow g3
    refine ec.then_ s3 (q.later g3) _ fun e3 k3 w F4 H4 _ g4 s4 r4 h4 => ?_
    exact hr' A F4 H4 Q u w e e3 s4.aH s4.fh ((ru.mono g3.hh).mono g4.hh) (r4.rep s4.aH s4.fh) (h4.later g4).opt
  · rename_i hg
    rw [hg]
    intro z F3 H3 g3 r3
    have rz : Rep T F3 z (.bl false) := r3
    rw [Rep] at rz
    refine ⟨false, rz, iteF ?_⟩
    exact post_st (d := .bl false) g3.fh ((q.later g3 : PostE T A F3 H3 W σ Q (optR (some (.bl false, .st)))).opt) rfl
  · exact q.elim
theorem td_chain {op op' : CmpOp} {r r' : R2} {g g' : D → D → Opt} (ho : OpR X (compareOp op) r) (hr : OpS T r g) (ho' : OpR X (compareOp op') r') (hr' : OpS T r' g') (ha : PDe X T Z W a f1) (hb : PDe X T Z W b f2) (hc : PDe X T Z W c f3)
    (hm : lastMarks [op, op'] [b, c] = false := by with_unfolding_all rfl) : PDt X T Z W (.Compare a [op, op'] [b, c] pos) (tstR (chR g g' f1 f2 f3)) := by
  obtain ⟨ta, pa, ea⟩ := ha
  obtain ⟨tb, pb, eb⟩ := hb
  obtain ⟨tc, pc, ec⟩ := hc
  exact ⟨_, pt_chain ho ho' pa pb pc hm, (EvS.chain hr hr' ea eb ec).tst⟩
end

/-- a def of the top and what it computes -/
structure DefAt (P : Program) (w : World) (K : PySem.W.Frag) (mg : Str → Option Value) (base : Heap) (T : Par) (x : Str) (k : Nat) (ps : List Str) (g : List D → Ret) : Prop where
  ex : ∃ f fd, mg x = some (.ref f) ∧ PySem.W.keepIn K (.ref f) = true ∧ Binds K fd ps [] ∧ FnOk P w K mg base (L2N.CX P w) k f fd ps (spOf T g)
section
variable {X : Cx} {T : Par} {Z : Hd} {W : WX} {e : Expr} {es : List Expr} {fa : Dl → ResA} {pos p : Pos} {x : Str} {k k' : Nat} {ps : List Str} {g : List D → Ret}
theorem pd_callD (G : DefAt X.prog X.w X.K X.mg X.base T x k ps g) (hr : Room k' X.A) (hk : k ≤ k') (tk : Takes X W) (ha : PDa X T Z W (e :: es) fa) (hg : Gl X x := by rfl)
    (hdb : (x == ("__debug__" : Str)) = false := by decide) (he : starEach (e :: es) X.env = (false, eval e X.env) :: starEach es X.env := by rfl) (hpl : (backTo pos (starEach es X.env)).any (·.1) = false := by rfl) : PDe X T Z W (.Call (.Name x p) (e :: es) [] pos) (callR g fa) := by
  obtain ⟨f, fd, h1, h2, h3, h4⟩ := G.ex
  exact pd_call h4 (hr.mono hk) h1 h2 h3 tk ha hg hdb he hpl
end

/-- what the top says of an exception's class -/
structure ExcAt (K : PySem.W.Frag) (mg : Str → Option Value) (T : Par) (x : Str) (c : Ex) : Prop where
  g : mg x = some (.ref (T.cx c))
  x : PySem.W.excIn K (T.cx c) [.type "ValueError", .type "Exception", .type "BaseException", .type "object"] "ValueError.__new__" = true
  k : PySem.W.keepIn K (.ref (T.cx c)) = true
  b : PySem.W.subIn K (.ref (T.cx c)) (.type "BaseException") = some true
  t : PySem.W.typeIn K (.ref (T.cx c)) = some (.type "type")
section
variable {X : Cx} {T : Par} {Z : Hd} {W : WX} {x m : Str} {c : Ex} {p p2 pos pos2 : Pos} {j : Nat}
theorem sd_raiseD (E : ExcAt X.K X.mg T x c) (tk : Takes X W) (hc : X.calm = true := by rfl) (hg : Gl X x := by rfl) (hdb : (x == ("__debug__" : Str)) = false := by decide) :
    PDs X T Z W (.Raise (some (.Call (.Name x p) [.Constant (.str m) j p2] [] pos)) none pos2) (raiO c) :=
  sd_raise hc tk (pmk_own PySem.F.excBase_ValueError E.x E.g E.k (raises_own E.b E.t) hg hdb)
end
def seqF (k1 k2 : Dl → Out) : Dl → Out := fun δ => seqO (k1 δ) k2
def frzF (is : List Nat) (k : Dl → Out) : Dl → Out := fun δ => k (frzO is δ)
section
variable {X : Cx} {T : Par} {Z : Hd} {W : WX} {st : Stmt} {rest : List Stmt} {k1 k2 : Dl → Out}
theorem sd_seq (h1 : PDs X T Z W st k1) (h2 : PDss X T Z W rest k2) : PDss X T Z W (st :: rest) (seqF k1 k2) := sd_cons h1 h2
theorem sd_frzF (is : List Nat) (h : PDs X T Z W st k1) : PDs X T Z W st (frzF is k1) := sd_frz is h
end
end
end DD

set_option maxRecDepth 100000
namespace DD
noncomputable section
open PySem L2N
open L2 hiding XE Takes CX takes_of passes_call MkP PMk ps_raise mk_of ps_try_as pmk_own passAt HdsOk ps_try_many ps_try_only

def takeAll : Ex → Bool := fun _ => true
def takeOnly (x : Ex) : Ex → Bool := fun c => decide (c = x)
/-- a class that except clauses and isinstance name -/
structure ClsAt (K : PySem.W.Frag) (mg : Str → Option Value) (T : Par) (x : Str) (takes : Ex → Bool) : Prop where
  ex : ∃ C, mg x = some (.ref C) ∧ (∀ c, PySem.W.exmOne K (.ref (T.cx c)) (.ref C) = some (takes c)) ∧ ∀ c, PySem.W.kitOne K (.ref (T.cx c)) (.ref C) = some (takes c)
section
variable {X : Cx} {T : Par} {Z : Hd} {W : WX} {body suite : List Stmt} {b₀ : Stmt} {x n : Str} {np pos pos' : Pos} {k1 k2 : Dl → Out} {takes : Ex → Bool}
theorem sd_tryD (C : ClsAt X.K X.mg T x takes) (tk : Takes X W)
    (hb : ∀ (W' : WX) (pn : List (Addr × Obj)) (xe : Value → Shared → Prop), Takes (X.tr pn xe) W' → PassesOwn (model X.prog X.w) X.A X.env xe → PDss (X.tr pn xe) T Z W' body k1)
    (hsu : ∀ (a : Addr) (oe : Obj) (cls : Value) (d : Option Addr) (pn : List (Addr × Obj)), Zn cls d oe → (∃ vs, oe.data = .fields vs) → PDss (X.suite a ((a, oe) :: pn)) T ⟨a, cls, d⟩ noW (b₀ :: suite) k2)
    (hs : X.stack = X.env :: X.outer := by rfl) (hf : X.env.frame = some X.env.locals := by rfl) (hg : Gl X x := by rfl) (hdb : (x == ("__debug__" : Str)) = false := by decide) :
    PDs X T Z W (.Try body [.ExceptHandler (some (.Name x np)) none (b₀ :: suite) pos'] [] [] pos) (tryO none takes k1 k2) := by
  obtain ⟨C, h1, h2, _⟩ := C.ex
  exact sd_try_only hs hf ⟨hg, hdb, .inl h1⟩ tk h2 hb hsu
theorem sd_tryA (j : Nat) (hN : X.N.Nodup) (C : ClsAt X.K X.mg T x takes) (tk : Takes X W)
    (hb : ∀ (W' : WX) (pn : List (Addr × Obj)) (xe : Value → Shared → Prop), Takes (X.tr pn xe) W' → PassesOwn (model X.prog X.w) X.A X.env xe → PDss (X.tr pn xe) T Z W' body k1)
    (hsu : ∀ (a : Addr) (oe : Obj) (cls : Value) (d : Option Addr) (pn : List (Addr × Obj)), Zn cls d oe → (∃ vs, oe.data = .fields vs) → PDss (X.suite a ((a, oe) :: pn)) T ⟨a, cls, d⟩ noW (b₀ :: suite) k2)
    (hj : X.N[j]? = some n := by rfl) (hln : X.env.kindOf n = some .local := by rfl) (hs : X.stack = X.env :: X.outer := by rfl) (hf : X.env.frame = some X.env.locals := by rfl) (hg : Gl X x := by rfl) (hdb : (x == ("__debug__" : Str)) = false := by decide) :
    PDs X T Z W (.Try body [.ExceptHandler (some (.Name x np)) (some n) (b₀ :: suite) pos'] [] [] pos) (tryO (some j) takes k1 k2) := by
  obtain ⟨C, h1, h2, _⟩ := C.ex
  exact sd_try_as j hs hf hN hj hln ⟨hg, hdb, .inl h1⟩ tk h2 hb hsu
end
section
variable {X : Cx} {T : Par} {W : WX} {a : Addr} {oe : Obj} {pn : List (Addr × Obj)} {cls : Value} {d : Option Addr} {b : Ex → Bool}
theorem pd_isEO (i : Nat) {x y : Str} {p1 p2 p3 pos : Pos} (hz : Zn cls d oe) (hf : ∃ vs, oe.data = .fields vs) (hE : ∀ c, ExcC X.K (T.cx c)) (C : ClsAt X.K X.mg T y b) (hm : X.mg "isinstance" = none)
    (hN : X.N[i]? = some x := by rfl) (hvis : Vis X.env.scope x := by first | exact Or.inl rfl | exact Or.inr (Or.inl rfl) | exact Or.inr (Or.inr rfl)) (hd : (x == ("__debug__" : Str)) = false := by decide)
    (hcd : (x == ("__classdict__" : Str)) = false := by decide) (hg : Gl X "isinstance" := by rfl) (hgy : Gl X y := by rfl) (hdy : (y == ("__debug__" : Str)) = false := by decide)
    (he : starEach [.Name x p1, .Name y p2] X.env = (false, eval (.Name x p1) X.env) :: starEach [.Name y p2] X.env := by rfl) (he2 : starEach [.Name y p2] X.env = (false, eval (.Name y p2) X.env) :: starEach [] X.env := by rfl) (hpl : (backTo pos (starEach [.Name y p2] X.env)).any (·.1) = false := by rfl) :
    PDe (X.suite a ((a, oe) :: pn)) T ⟨a, cls, d⟩ W (.Call (.Name "isinstance" p3) [.Name x p1, .Name y p2] [] pos) (isER i b) := by
  obtain ⟨C, h1, _, h3⟩ := C.ex
  exact pd_isE i (v := .ref C) (cv := .ref C) hz hf hE h3 hm (pe_glob (X := X.suite a ((a, oe) :: pn)) hgy h1 rfl hdy) (fun u r => r) hN hvis hd hcd hg he he2 hpl
theorem pd_isEV (i : Nat) {x : Str} {p1 p2 p3 pos : Pos} (hz : Zn cls d oe) (hf : ∃ vs, oe.data = .fields vs) (hE : ∀ c, ExcC X.K (T.cx c)) (hk : ∀ c, PySem.W.kitOne X.K (.ref (T.cx c)) (.type "ValueError") = some true) (hm : X.mg "isinstance" = none) (hmV : X.mg "ValueError" = none)
    (hN : X.N[i]? = some x := by rfl) (hvis : Vis X.env.scope x := by first | exact Or.inl rfl | exact Or.inr (Or.inl rfl) | exact Or.inr (Or.inr rfl)) (hd : (x == ("__debug__" : Str)) = false := by decide)
    (hcd : (x == ("__classdict__" : Str)) = false := by decide) (hg : Gl X "isinstance" := by rfl) (hgy : Gl X "ValueError" := by rfl)
    (he : starEach [.Name x p1, .Name "ValueError" p2] X.env = (false, eval (.Name x p1) X.env) :: starEach [.Name "ValueError" p2] X.env := by rfl) (he2 : starEach [.Name "ValueError" p2] X.env = (false, eval (.Name "ValueError" p2) X.env) :: starEach [] X.env := by rfl) (hpl : (backTo pos (starEach [.Name "ValueError" p2] X.env)).any (·.1) = false := by rfl) :
    PDe (X.suite a ((a, oe) :: pn)) T ⟨a, cls, d⟩ W (.Call (.Name "isinstance" p3) [.Name x p1, .Name "ValueError" p2] [] pos) (isER i takeAll) :=
  pd_isE i (v := .ty "ValueError") (cv := .type "ValueError") hz hf hE hk hm (pe_bltn (X := X.suite a ((a, oe) :: pn)) hgy hmV (by decide +kernel) rfl (by decide) (by decide)) (fun u r => r) hN hvis hd hcd hg he he2 hpl
end
end
end DD

set_option maxRecDepth 100000
namespace DD
noncomputable section
open PySem L2N
open L2 hiding XE Takes CX takes_of passes_call MkP PMk ps_raise mk_of ps_try_as pmk_own passAt HdsOk ps_try_many ps_try_only
/-- the law's promise: a list of at most 63 ints is handed in, True comes out -/
def spL (K : PySem.W.Frag) : Sp := fun vs H Q _ => ∃ (a : Addr) (ns : List Int), vs = [.ref a] ∧ SqL K H a (ns.map V.int) ∧ ns.length ≤ 63 ∧ ∀ H', Q (.bl true) H'
theorem law_ok {P : Program} {w : World} {mg : Str → Option Value} {base : Heap} {T : Par} {f : Addr} {fd : FuncData} {k : Nat} {g : List D → Ret} (G : FnOk P w T.K mg base (L2N.CX P w) k f fd ["_law_script"] (spOf T g))
    (ht : ∀ ns : List Int, ns.length ≤ 63 → g [.scr ns] = .ok (.bl true)) : FnOk P w T.K mg base (L2N.CX P w) k f fd ["_law_script"] (spL T.K) := G.imp fun vs H Q E h => by
  obtain ⟨a, ns, rfl, h1, h2, h3⟩ := h
  refine ⟨H, [.scr ns], Same.refl _, ?_, ?_⟩
  · rw [Reps, Rep]
    exact ⟨⟨a, rfl, h1⟩, by simp [Reps]⟩
  · rw [ht ns h2]
    intro v F' H' _ _ _ r
    rw [Rep] at r
    subst r
    exact h3 H'
theorem kit_ref {K : PySem.W.Frag} {t : Value} {C : Addr} {b : Bool} (hd : PySem.W.hasDictIn K C = true) (ht : PySem.W.typeIn K (.ref C) = some (.type "type")) (h4 : PySem.W.subIn K t (.ref C) = some b) (hs : PySem.W.subIn K (.ref C) (.ref C) = some true) : PySem.W.kitOne K t (.ref C) = some b := by
  obtain ⟨cd, hc, _⟩ := PySem.W.any_some hd
  unfold PySem.W.kitOne
  by_cases e : (t == Value.ref C) = true
  · rw [if_pos e]
    have e' : t = Value.ref C := beq_iff_eq.mp e
    rw [e', hs] at h4
    exact h4
  · rw [if_neg e]
    have e2 : ((PySem.W.clsIn K C).isSome && PySem.W.typeIn K (.ref C) == some (.type "type")) = true := by rw [hc, ht] <;> rfl
    show (if ((PySem.W.clsIn K C).isSome && PySem.W.typeIn K (.ref C) == some (.type "type")) = true then PySem.W.subIn K t (.ref C) else none) = some b
    rw [if_pos e2]
    exact h4
theorem kit_val {K : PySem.W.Frag} {a : Addr} (h : PySem.W.subIn K (.ref a) (.type "ValueError") = some true) : PySem.W.kitOne K (.ref a) (.type "ValueError") = some true := by
  unfold PySem.W.kitOne
  rw [if_neg (by simp)]
  show (if PySem.W.kitMeta "ValueError" = true then PySem.W.subIn K (.ref a) (.type "ValueError") else none) = some true
  rw [if_pos (by decide +kernel)]
  exact h
end
end DD

set_option maxRecDepth 100000
/-! # Tariffs: reading, their methods, putting a row, making one -/
namespace DD
noncomputable section
open PySem L2N
open L2 hiding XE Takes CX takes_of passes_call MkP PMk ps_raise mk_of ps_try_as pmk_own passAt HdsOk ps_try_many ps_try_only
abbrev Rw := Str × Str × Int
/-- what the class Tariff is -/
structure TarC (K : PySem.W.Frag) (mg : Str → Option Value) (C : Addr) : Prop where
  cl : Cls K C
  nR : NoAttr K C fRows
  nT : NoAttr K C fTable
  gl : mg "Tariff" = some (.ref C)
def rowsD (rows : List Rw) : D := .lst (rows.map rowD)
def tabK (rows : List Rw) : List (List Key × Sc) := rows.map fun r => ([.inr r.1, .inr r.2.1], .int r.2.2)
def tabD (rows : List Rw) : D := .dt (tabK rows)
theorem tab_kv (rows : List Rw) : rowsKv rows = (tabK rows).map fun kv => (kv.1, kv.2.v) := by
  unfold rowsKv tabK
  rw [List.map_map]
  rfl
theorem ft_ne : (fTable == fRows) = false := by decide +kernel
theorem fr_ne : (fRows == fTable) = false := by decide +kernel
theorem look_rows {l t : V} : List.lookup fRows [(fRows, l), (fTable, t)] = some l := by
  rw [List.lookup_cons_self]
theorem look_tab {l t : V} : List.lookup fTable [(fRows, l), (fTable, t)] = some t := by
  rw [List.lookup_cons, ft_ne, List.lookup_cons_self]
theorem tar_parts {T : Par} {B : Hp} {v : V} {rows : List Rw} (r : Rep T B v (.tar rows)) : ∃ p dx l t, v = .ref p ∧ B p = some (.ins T.C dx [(fRows, .ref l), (fTable, .ref t)]) ∧ Rep T B (.ref l) (rowsD rows) ∧ Rep T B (.ref t) (tabD rows) := by
  rw [Rep] at r
  obtain ⟨p, dx, l, t, vs, rfl, h⟩ := r
  refine ⟨p, dx, l, t, rfl, h.ins, ?_, ?_⟩
  · rw [rowsD, Rep]
    exact ⟨l, vs, rfl, h.lst, h.rws.reps⟩
  · rw [tabD, Rep]
    exact ⟨t, rfl, by rw [h.tab, tab_kv]⟩
def gRows : D → Option D
  | .tar rows => some (rowsD rows)
  | _ => none
def gTab : D → Option D
  | .tar rows => some (tabD rows)
  | _ => none
/-- e.rows, e.table -/
def fldR (g : D → Option D) (f : Dl → Res) : Dl → Res := fun δ => bindR (f δ) fun d k => match g d with
  | some x => .ok x (kIx d k)
  | none => .no
section
variable {X : Cx} {T : Par} {Z : Hd} {W : WX} {e o a b c : Expr} {es : List Expr} {f1 f2 f3 : Dl → Res} {fa : Dl → ResA} {pos apos cpos : Pos}
theorem ev_fld {K : PySem.W.Frag} {ta : TE} {f : Str} {g : D → Option D} (ea : EvS T Z W ta f1)
    (hg : ∀ d x, g d = some x → ∀ B v, Rep T B v d → ∃ p C dx fs z, v = .ref p ∧ B p = some (.ins C dx fs) ∧ Cls K C ∧ NoAttr K C f ∧ fs.lookup f = some z ∧ Rep T B z x) : EvS T Z W (tFld K ta f) (fldR g f1) := by
  intro H0 A δ σ F fp H Q s h
  unfold fldR at h
  refine ea.then_ s h _ fun d k v F1 H1 _ g1 s1 r1 h1 => ?_
  cases hx : g d with
  | none => rw [hx] at h1; exact h1.elim
  | some x =>
    rw [hx] at h1
    have go : ∀ (F2 B : Hp), Grow F H F2 H1 → Same B H1 → Rep T B v d → (∀ z x, Rep T B z x → ResR T A F2 H1 H (kIx d k) z x) → ∃ a C dx fs u, v = .ref a ∧ H1 a = some (.ins C dx fs) ∧ Cls K C ∧ NoAttr K C f ∧ fs.lookup f = some u ∧ Q u H1 := by
      intro F2 B g2 hB rB hz
      obtain ⟨p, C, dx, fs, z, e1, e2, e3, e4, e5, e6⟩ := hg d x hx B v rB
      exact ⟨p, C, dx, fs, z, e1, hB _ _ e2, e3, e4, e5, h1 z F2 H1 g2 (hz z x e6)⟩
    by_cases hk : stK d k = true
    · obtain ⟨F2, g2, r2⟩ := r1.shareG g1 s1.aH hk
      refine go F2 F2 g2 g2.fh r2 fun z x rz => ?_
      unfold kIx
      rw [if_pos hk]
      exact rz
    · unfold kIx at go
      rw [if_neg hk] at go
      cases k with
      | any => exact go F1 H1 g1 (Same.refl _) r1 fun z x rz => rz
      | bw => exact go F1 A g1 s1.aH r1 fun z x rz => rz
      | st => exact absurd rfl hk
      | tp => exact absurd rfl hk
      | dp => exact absurd rfl hk
theorem pd_rows (C : TarC X.K X.mg T.C) (ha : PDe X T Z W e f1) (hb : attributeBase e fRows X.env (eval e X.env) = eval e X.env := by rfl) : PDe X T Z W (.Attribute e fRows pos) (fldR gRows f1) := by
  obtain ⟨ta, pa, ea⟩ := ha
  refine ⟨_, pe_fld pa hb, ev_fld ea fun d x hx B v r => ?_⟩
  cases d with
  | tar rows =>
    cases hx
    obtain ⟨p, dx, l, t, e1, e2, e3, _⟩ := tar_parts r
    exact ⟨p, _, dx, _, _, e1, e2, C.cl, C.nR, look_rows, e3⟩
  | _ => cases hx
theorem pd_table (C : TarC X.K X.mg T.C) (ha : PDe X T Z W e f1) (hb : attributeBase e fTable X.env (eval e X.env) = eval e X.env := by rfl) : PDe X T Z W (.Attribute e fTable pos) (fldR gTab f1) := by
  obtain ⟨ta, pa, ea⟩ := ha
  refine ⟨_, pe_fld pa hb, ev_fld ea fun d x hx B v r => ?_⟩
  cases d with
  | tar rows =>
    cases hx
    obtain ⟨p, dx, l, t, e1, e2, _, e3⟩ := tar_parts r
    exact ⟨p, _, dx, _, _, e1, e2, C.cl, C.nT, look_tab, e3⟩
  | _ => cases hx
/-! ### methods that only read -/
def reR (r : Ret) : Res := match r with
  | .ok d => .ok d .dp
  | .er c => .er c
  | .no => .no
theorem spOf_post {A F H F1 H1 : Hp} {σ : L2.St} {Q : VK} {g : List D → Ret} {vs : List V} {ds : List D} (g1 : Grow F H F1 H1) (r : Reps T H1 vs ds) (h : PostE T A F H W σ Q (reR (g ds))) : spOf T g vs H1 Q (WE W σ) := by
  refine ⟨H1, ds, Same.refl _, r, ?_⟩
  cases hg : g ds with
  | no => rw [hg] at h; exact h.elim
  | er c => rw [hg] at h; exact fun H2 e => h F1 H2 ⟨g1.ff, g1.hh.trans e, g1.fh.trans e, g1.nw⟩
  | ok d =>
    rw [hg] at h
    intro v F2 H2 e1 e2 e3 r
    refine h v F1 H2 ⟨g1.ff, g1.hh.trans e1, g1.fh.trans e1, g1.nw⟩ ⟨F2, e2, fun a u q => ?_, r⟩
    rcases e3 a u q with z | z
    · exact .inr ⟨g1.fh.free z, g1.hh.free z⟩
    · exact .inl z
/-- what a call of a method asks: an error leaves at the slots σ -/
def tMethW (C : Addr) (m : Str) (sp : Sp) (E : L2.St → XK) (ta : TE) (t : TA) : TE := fun σ H Q => ta σ H fun x H1 =>
  ∃ a dx fs, x = .ref a ∧ H1 a = some (.ins C dx fs) ∧ fs.lookup m = none ∧ t σ H1 fun vs H2 => sp (x :: vs) H2 Q (E σ)
section
variable {CX : CXT} {k : Nat} {f C : Addr} {fd : FuncData} {ps : List Str} {sp : Sp} {E : L2.St → XK} {m : Str} {ta : TE} {t : TA} {pl : Sem Bool}
theorem pe_methW (he : PE X o ta) (c : Cls X.K C) (hm : Meth X.K C m f) (G : FnOk X.prog X.w X.K X.mg X.base CX k f fd ps sp) (hr : Room k X.A) (hb : Binds X.K fd ps []) (hx : ∀ σ, PassesAt CX X σ (E σ)) (ha : PA X (e :: es) t)
    (hst : starEach (e :: es) X.env = (false, eval e X.env) :: starEach es X.env := by rfl) (hpl : (backTo pos (starEach es X.env)).any (fun q => q.1) = false := by rfl)
    (ht : eval (.Call (.Attribute o m apos) (e :: es) [] pos) X.env = (do
      let v ← eval o X.env
      standAt apos.atName
      let (q, first) ← holding [v] (getMethod v m pl)
      callWith pos q first (backTo pos (starEach (e :: es) X.env)) (backToKw pos (keywordEach [] X.env))) := by rfl) : PE X (.Call (.Attribute o m apos) (e :: es) [] pos) (tMethW C m sp E ta t) := by
  refine ⟨fun pins s σ H Q I h => PySem.W.methodCall_KW (pl := pl) (thn (he.run pins s σ H _ I h) ?_) ht⟩
  rintro u s1 ⟨x, H1, I1, rx, p, dx, fs, rfl, ea, l, q⟩
  obtain rfl : u = Value.ref p := rx
  refine getmeth_ok I1 ea c hm l ?_
  refine PySem.W.callWith_K (first := [.ref p]) (h₀ := X.base) I.ok.mod.kin hm.kp (thn (ha.run pos pins s1 σ H1 _ I1 q) ?_) hst hpl
  rintro us s2 ⟨vs, H2, I2, r, q2⟩
  exact ⟨I2.kIn, run_fnS (us := .ref p :: us) (vs := .ref p :: vs) G hr hb (hx σ) I2 (.cons rfl r) q2⟩
theorem pe_methW0 (he : PE X o ta) (c : Cls X.K C) (hm : Meth X.K C m f) (G : FnOk X.prog X.w X.K X.mg X.base CX k f fd ps sp) (hr : Room k X.A) (hb : Binds X.K fd ps []) (hx : ∀ σ, PassesAt CX X σ (E σ))
    (ht : eval (.Call (.Attribute o m apos) [] [] pos) X.env = (do
      let v ← eval o X.env
      standAt apos.atName
      let (q, first) ← holding [v] (getMethod v m pl)
      callWith pos q first (backTo pos (starEach [] X.env)) (backToKw pos (keywordEach [] X.env))) := by rfl) : PE X (.Call (.Attribute o m apos) [] [] pos) (tMethW C m sp E ta tNil) := by
  refine ⟨fun pins s σ H Q I h => PySem.W.methodCall_KW (pl := pl) (thn (he.run pins s σ H _ I h) ?_) ht⟩
  rintro u s1 ⟨x, H1, I1, rx, p, dx, fs, rfl, ea, l, q⟩
  obtain rfl : u = Value.ref p := rx
  refine getmeth_ok I1 ea c hm l ?_
  exact PySem.W.callWith_K0 (first := [.ref p]) I1.kIn hm.kp (run_fnS (us := [.ref p]) (vs := [.ref p]) G hr hb (hx σ) I1 (.cons rfl .nil) q)
end
def mtArg (g : List D → Ret) (rows : List Rw) (r : ResA) : Res := match r with
  | .ok ds _ => reR (g (.tar rows :: ds))
  | .er c => .er c
  | .no => .no
def mthR (g : List D → Ret) (fo : Dl → Res) (fa : Dl → ResA) : Dl → Res := fun δ => bindR (fo δ) fun d _ => match d with
  | .tar rows => mtArg g rows (fa δ)
  | _ => .no
theorem look_no {l t : V} {m : Str} (h1 : (m == fRows) = false) (h2 : (m == fTable) = false) : List.lookup m [(fRows, l), (fTable, t)] = none := by
  rw [List.lookup_cons, h1, List.lookup_cons, h2]
  rfl
theorem ev_meth {g : List D → Ret} {m : Str} {ta : TE} {t : TA} (h1 : (m == fRows) = false) (h2 : (m == fTable) = false) (eo : EvS T Z W ta f1) (ea : EvA T Z W t fa) : EvS T Z W (tMethW T.C m (spOf T g) (WE W) ta t) (mthR g f1 fa) := by
  intro H0 A δ σ F fp H Q s h
  unfold mthR at h
  refine eo.then_ s h _ fun d k v F1 H1 _ g1 s1 r1 hq => ?_
  cases d with
  | tar rows =>
    have rv := r1.rep s1.aH s1.fh
    obtain ⟨p, dx, l, tt, rfl, e2, _, _⟩ := tar_parts rv
    refine ⟨p, dx, _, rfl, e2, look_no h1 h2, ea H0 A δ σ F1 fp H1 _ s1 ?_⟩
    cases hf : fa δ with
    | no => rw [hf] at hq; exact hq.elim
    | er c => rw [hf] at hq; exact fun F' H' g' => hq F' H' (g1.trans g')
    | ok ds st =>
      rw [hf] at hq
      intro vs F2 H2 g2 rs
      have r' : Reps T H2 vs ds := by
        by_cases z : st = true
        · rw [if_pos z] at rs; exact rs.mono g2.fh
        · rw [if_neg z] at rs; exact rs
      exact spOf_post (ds := .tar rows :: ds) (g1.trans g2) (by rw [Reps]; exact ⟨rv.mono g2.hh, r'⟩) hq
  | _ => exact hq.elim
theorem pd_meth {m : Str} {k : Nat} {f : Addr} {fd : FuncData} {ps : List Str} {g : List D → Ret} {pl : Sem Bool} (C : TarC X.K X.mg T.C) (hm : Meth X.K T.C m f) (G : FnOk X.prog X.w X.K X.mg X.base (L2N.CX X.prog X.w) k f fd ps (spOf T g)) (hr : Room k X.A) (hb : Binds X.K fd ps []) (tk : Takes X W)
    (ho : PDe X T Z W o f1) (ha : PDa X T Z W (e :: es) fa) (h1 : (m == fRows) = false := by decide +kernel) (h2 : (m == fTable) = false := by decide +kernel)
    (hst : starEach (e :: es) X.env = (false, eval e X.env) :: starEach es X.env := by rfl) (hpl : (backTo pos (starEach es X.env)).any (fun q => q.1) = false := by rfl)
    (ht : eval (.Call (.Attribute o m apos) (e :: es) [] pos) X.env = (do
      let v ← eval o X.env
      standAt apos.atName
      let (q, first) ← holding [v] (getMethod v m pl)
      callWith pos q first (backTo pos (starEach (e :: es) X.env)) (backToKw pos (keywordEach [] X.env))) := by rfl) : PDe X T Z W (.Call (.Attribute o m apos) (e :: es) [] pos) (mthR g f1 fa) := by
  obtain ⟨ta, po, eo⟩ := ho
  obtain ⟨t, pa, ea⟩ := ha
  exact ⟨_, pe_methW po C.cl hm G hr hb (fun σ => passAt tk σ) pa hst hpl ht, ev_meth h1 h2 eo ea⟩
theorem ea_nil : EvA T Z W tNil nilR := by
  intro H0 A δ σ F fp H Q s h
  exact h [] F H (Grow.refl s.fh) (by simp [Reps])
theorem pd_meth0 {m : Str} {k : Nat} {f : Addr} {fd : FuncData} {ps : List Str} {g : List D → Ret} {pl : Sem Bool} (C : TarC X.K X.mg T.C) (hm : Meth X.K T.C m f) (G : FnOk X.prog X.w X.K X.mg X.base (L2N.CX X.prog X.w) k f fd ps (spOf T g)) (hr : Room k X.A) (hb : Binds X.K fd ps []) (tk : Takes X W)
    (ho : PDe X T Z W o f1) (h1 : (m == fRows) = false := by decide +kernel) (h2 : (m == fTable) = false := by decide +kernel)
    (ht : eval (.Call (.Attribute o m apos) [] [] pos) X.env = (do
      let v ← eval o X.env
      standAt apos.atName
      let (q, first) ← holding [v] (getMethod v m pl)
      callWith pos q first (backTo pos (starEach [] X.env)) (backToKw pos (keywordEach [] X.env))) := by rfl) : PDe X T Z W (.Call (.Attribute o m apos) [] [] pos) (mthR g f1 nilR) := by
  obtain ⟨ta, po, eo⟩ := ho
  exact ⟨_, pe_methW0 po C.cl hm G hr hb (fun σ => passAt tk σ) ht, ev_meth h1 h2 eo ea_nil⟩
end
end
end DD

set_option maxRecDepth 100000
namespace DD
noncomputable section
open PySem L2N
open L2 hiding XE Takes CX takes_of passes_call MkP PMk ps_raise mk_of ps_try_as pmk_own passAt HdsOk ps_try_many ps_try_only
/-- what putting a row gives -/
inductive RetM where
  | ok (rows : List Rw) | er (c : Ex) | no
theorem rep_flat {T : Par} {F : Hp} {v w : V} {d : D} (r : Rep T F v d) (h : flatV? d = some w) : v = w := by
  cases d <;> first | (cases h; done) | (rw [Rep] at r; cases h; exact r)
theorem rep_flat_of {T : Par} {F : Hp} {w : V} {d : D} (h : flatV? d = some w) : Rep T F w d := by
  cases d <;> first | (cases h; done) | (cases h; rw [Rep])
/-- its promise: only the two cells l and t are written -/
def spPut (T : Par) (g : List Rw → D → D → D → RetM) : Sp := fun vs H Q E => ∃ p dx l t ws rows a b c va vb vc, vs = [.ref p, va, vb, vc] ∧ flatV? a = some va ∧ flatV? b = some vb ∧ flatV? c = some vc ∧ TarAt T.C H p dx l t ws rows ∧
  match g rows a b c with
  | .ok rows' => ∀ H' ws', (∀ x o, x ≠ l → x ≠ t → H x = some o → H' x = some o) → TarAt T.C H' p dx l t ws' rows' → Q .non H'
  | .er e => ∀ H', Same H H' → E (.ref (T.cx e)) none H'
  | .no => False
/-- a tariff's own cells and all tuples -/
def tarG (H : Hp) (p dx l t : Addr) : Hp := fun a => if a = p ∨ a = dx ∨ a = l ∨ a = t then H a else tuF H a
theorem tarG_same {H : Hp} {p dx l t : Addr} : Same (tarG H p dx l t) H := fun a o e => by
  unfold tarG at e
  split at e
  · exact e
  · exact (tuF_inv e).1
theorem tarG_rows {H : Hp} {p dx l t : Addr} : ∀ {vs : List V} {rows : List Rw}, RowsAt H vs rows → RowsAt (tarG H p dx l t) vs rows
  | [], [], _ => trivial
  | v :: vs, r :: rs, h => by
    obtain ⟨⟨q, h1, h2⟩, h3⟩ := h
    refine ⟨⟨q, h1, ?_⟩, tarG_rows h3⟩
    unfold tarG
    split
    · exact h2
    · exact tuF_some h2
  | [], _ :: _, h => h.elim
  | _ :: _, [], h => h.elim
theorem tarG_at {C : Addr} {H : Hp} {p dx l t : Addr} {vs : List V} {rows : List Rw} (h : TarAt C H p dx l t vs rows) : TarAt C (tarG H p dx l t) p dx l t vs rows :=
  ⟨by unfold tarG; rw [if_pos (Or.inl rfl)]; exact h.ins, by unfold tarG; rw [if_pos (Or.inr (Or.inl rfl))]; exact h.own, by unfold tarG; rw [if_pos (Or.inr (Or.inr (Or.inl rfl)))]; exact h.lst,
    by unfold tarG; rw [if_pos (Or.inr (Or.inr (Or.inr rfl)))]; exact h.tab, tarG_rows h.rws⟩
theorem tarG_inv {H : Hp} {p dx l t a : Addr} {u : HO} (e : tarG H p dx l t a = some u) : isTup u ∨ a = p ∨ a = dx ∨ a = l ∨ a = t := by
  unfold tarG at e
  split at e
  · rename_i h; exact .inr h
  · exact .inl (tuF_inv e).2
/-- what a slot holds is exchanged for another, in place -/
theorem SR.swap {T : Par} {Z : Hd} {H0 A F H H' G' : Hp} {δ : Dl} {σ : L2.St} {fp : Nat → Addr → Prop} (s : SR T Z H0 A δ σ F fp H) {i : Nat} {d d' : D} {v : V} (na : noAn δ = true) (e : δ[i]? = some (.dp d)) (ev : σ[i]? = some (some v))
    (hk : ∀ a o, ¬ fp i a → H a = some o → H' a = some o) (hG : Same G' H') (hn : ∀ a u, G' a = some u → isTup u ∨ fp i a ∨ H a = none) (r : Rep T G' v d') : ∃ fp', SR T Z H0 A (δ.set i (.dp d')) σ F fp' H' := by
  have nf : ∀ a, F a ≠ none → ¬ fp i a := fun a h z => h (s.own i a z).1
  have n0 : ∀ a, H0 a ≠ none → ¬ fp i a := fun a h z => h (s.own i a z).2.1
  have hi := (List.getElem?_eq_some_iff.mp e).1
  refine ⟨fun j a => if j = i then (∃ u, G' a = some u ∧ ¬ isTup u) else fp j a, fun a o q => hk a o (n0 a (by rw [q]; exact fun z => nomatch z)) (s.h0 a o q), s.ah, fun a o q => hk a o (nf a (by rw [q]; exact fun z => nomatch z)) (s.fh a o q), s.fn, ?_, ?_, ?_, by simp [s.len]⟩
  · intro j a h
    by_cases hj : j = i
    · simp only [hj, if_true] at h
      obtain ⟨u, h1, h2⟩ := h
      rcases hn a u h1 with z | z | z
      · exact absurd z h2
      · obtain ⟨q1, q2, _⟩ := s.own i a z
        exact ⟨q1, q2, u, hG _ _ h1, h2⟩
      · exact ⟨s.fh.free z, s.h0.free z, u, hG _ _ h1, h2⟩
    · simp only [hj, if_false] at h
      obtain ⟨q1, q2, o, q3, q4⟩ := s.own j a h
      exact ⟨q1, q2, o, hk a o (fun z => hj (s.sep _ _ _ h z)) q3, q4⟩
  · intro j k a h1 h2
    have mix : ∀ j, j ≠ i → fp j a → ¬ ∃ u, G' a = some u ∧ ¬ isTup u := fun j hj h ⟨u, q1, q2⟩ => by
      obtain ⟨_, _, o, q3, _⟩ := s.own j a h
      rcases hn a u q1 with z | z | z
      · exact q2 z
      · exact hj (s.sep _ _ _ h z)
      · rw [q3] at z; cases z
    by_cases hj : j = i
    · by_cases hk' : k = i
      · rw [hj, hk']
      · simp only [hj, if_true] at h1
        simp only [hk', if_false] at h2
        exact (mix k hk' h2 h1).elim
    · by_cases hk' : k = i
      · simp only [hk', if_true] at h2
        simp only [hj, if_false] at h1
        exact (mix j hj h1 h2).elim
      · simp only [hj, if_false] at h1
        simp only [hk', if_false] at h2
        exact s.sep j k a h1 h2
  · intro j y q
    by_cases hj : j = i
    · subst hj
      rw [List.getElem?_set_self hi] at q
      cases q
      refine ⟨some v, ev, v, rfl, G', hG, fun a u h => ?_, r⟩
      by_cases t : isTup u
      · exact .inl t
      · exact .inr (by simp only [if_true]; exact ⟨u, h, t⟩)
    · rw [List.getElem?_set_ne (Ne.symm hj)] at q
      obtain ⟨o, h1, h2⟩ := s.sl j y q
      refine ⟨o, h1, ?_⟩
      cases y with
      | un => trivial
      | sh d => exact h2
      | bo d => exact h2
      | ow d =>
        obtain ⟨p, e1, hf, r⟩ := h2
        obtain ⟨u, hu, _⟩ := r.cell
        have hp := hk p u (fun z => hj (s.sep _ _ _ hf z)) hu
        exact ⟨p, e1, by simp only [hj, if_false]; exact hf, r.mono (Same.refl _) (hp.trans hu.symm)⟩
      | dp d =>
        obtain ⟨v, e1, G, h3, h4, r⟩ := h2
        refine ⟨v, e1, G, fun a u q => ?_, fun a u q => (h4 a u q).imp id fun z => by simp only [hj, if_false]; exact z, r⟩
        have hu := h3 a u q
        refine hk a u (fun z => ?_) hu
        obtain ⟨_, _, o, q3, q4⟩ := s.own i a z
        rw [hu] at q3
        cases q3
        rcases h4 a u q with t | t
        · exact q4 t
        · exact hj (s.sep _ _ _ t z)
      | an d => exact (noAn_get na q).elim
      | ex c => exact h2
def putA (g : List Rw → D → D → D → RetM) (i : Nat) (rows : List Rw) (δ : Dl) : ResA → Out
  | .ok [a, b, c] _ => if (flatV? a).isSome = true ∧ (flatV? b).isSome = true ∧ (flatV? c).isSome = true ∧ noAn δ = true then (match g rows a b c with
    | .ok rows' => .nx (δ.set i (.dp (.tar rows')))
    | .er e => .er e δ
    | .no => .no) else .no
  | .er e => .er e δ
  | _ => .no
/-- x.put(a, b, c) -/
def putO (g : List Rw → D → D → D → RetM) (i : Nat) (fa : Dl → ResA) : Dl → Out := fun δ => match δ[i]? with
  | some (.dp (.tar rows)) => putA g i rows δ (fa δ)
  | _ => .no
section
variable {X : Cx} {T : Par} {Z : Hd} {W : WX} {e o a b c : Expr} {es : List Expr} {f1 f2 f3 : Dl → Res} {fa : Dl → ResA} {pos apos cpos xpos : Pos}
theorem sd_put (i : Nat) {x m : Str} {k : Nat} {f : Addr} {fd : FuncData} {ps : List Str} {g : List Rw → D → D → D → RetM} {pl : Sem Bool} (C : TarC X.K X.mg T.C) (hm : Meth X.K T.C m f) (G : FnOk X.prog X.w X.K X.mg X.base (L2N.CX X.prog X.w) k f fd ps (spPut T g)) (hr : Room k X.A) (hb : Binds X.K fd ps []) (tk : Takes X W)
    (ha : PDa X T Z W (e :: es) fa) (hN : X.N[i]? = some x := by rfl) (hv : Vis X.env.scope x := by first | exact Or.inl rfl | exact Or.inr (Or.inl rfl) | exact Or.inr (Or.inr rfl)) (hd : (x == ("__debug__" : Str)) = false := by decide) (hcd : (x == ("__classdict__" : Str)) = false := by decide)
    (h1 : (m == fRows) = false := by decide +kernel) (h2 : (m == fTable) = false := by decide +kernel) (hs : swapsWith (.Call (.Attribute (.Name x xpos) m apos) (e :: es) [] cpos) none pos.line X.env = pure false := by rfl)
    (hst : starEach (e :: es) X.env = (false, eval e X.env) :: starEach es X.env := by rfl) (hpl : (backTo cpos (starEach es X.env)).any (fun q => q.1) = false := by rfl)
    (ht : eval (.Call (.Attribute (.Name x xpos) m apos) (e :: es) [] cpos) X.env = (do
      let v ← eval (.Name x xpos) X.env
      standAt apos.atName
      let (q, first) ← holding [v] (getMethod v m pl)
      callWith cpos q first (backTo cpos (starEach (e :: es) X.env)) (backToKw cpos (keywordEach [] X.env))) := by rfl) :
    PDs X T Z W (.Expr (.Call (.Attribute (.Name x xpos) m apos) (e :: es) [] cpos) pos) (putO g i fa) := by
  obtain ⟨t, pa, ea⟩ := ha
  refine ⟨_, ps_expr (pe_methW (pe_var hN hv hd hcd) C.cl hm G hr hb (fun σ => passAt tk σ) pa hst hpl ht) hs, ?_⟩
  intro H0 A δ σ F fp H E s h
  unfold putO at h
  cases hi : δ[i]? with
  | none => rw [hi] at h; exact h.elim
  | some y =>
    rw [hi] at h
    match y, hi, h with
    | .dp (.tar rows), hi, h =>
      obtain ⟨_, e1, v, rfl, B, b1, b2, r⟩ := s.sl i _ hi
      rw [Rep] at r
      obtain ⟨p, dx, l, tt, vs, rfl, at_⟩ := r
      have atH := at_.mono b1
      have own : ∀ z u, B z = some u → ¬ isTup u → fp i z := fun z u q n => (b2 z u q).resolve_left n
      have fpp : fp i p := own _ _ at_.ins fun ⟨_, z⟩ => nomatch z
      have fpd : fp i dx := own _ _ at_.own fun ⟨_, z⟩ => nomatch z
      have fpl : fp i l := own _ _ at_.lst fun ⟨_, z⟩ => nomatch z
      have fpt : fp i tt := own _ _ at_.tab fun ⟨_, z⟩ => nomatch z
      refine ⟨.ref p, e1, p, dx, _, rfl, atH.ins, look_no h1 h2, ea H0 A δ σ F fp H _ s ?_⟩
      simp only at h
      cases hf : fa δ with
      | no => rw [hf] at h; exact h.elim
      | er c => rw [hf] at h; exact fun F' H' g' => h σ F' fp H' g'.ff (s.grow g')
      | ok ds st =>
        rw [hf] at h
        match ds, h with
        | [a, b, c], h =>
          intro vs3 F' H' g' rs
          have r' : Reps T H' vs3 [a, b, c] := by
            by_cases z : st = true
            · rw [if_pos z] at rs; exact rs.mono g'.fh
            · rw [if_neg z] at rs; exact rs
          simp only [putA] at h
          split at h
          case isFalse => exact h.elim
          rename_i hc
          obtain ⟨c1, c2, c3, na⟩ := hc
          obtain ⟨va, qa⟩ := Option.isSome_iff_exists.mp c1
          obtain ⟨vb, qb⟩ := Option.isSome_iff_exists.mp c2
          obtain ⟨vc, qc⟩ := Option.isSome_iff_exists.mp c3
          match vs3, r' with
          | [xa, xb, xc], r' =>
            simp only [Reps] at r'
            obtain ⟨ra, rb, rc, _⟩ := r'
            obtain rfl := rep_flat ra qa
            obtain rfl := rep_flat rb qb
            obtain rfl := rep_flat rc qc
            have s' := s.grow g'
            refine ⟨p, dx, l, tt, vs, rows, a, b, c, _, _, _, rfl, qa, qb, qc, atH.mono g'.hh, ?_⟩
            cases hg : g rows a b c with
            | no => rw [hg] at h; exact h.elim
            | er c => rw [hg] at h; exact fun H2 e2 => h σ F' fp H2 g'.ff (s'.grow ⟨Same.refl _, e2, g'.fh.trans e2, fun _ _ z => .inl z⟩)
            | ok rows' =>
              rw [hg] at h
              intro H2 ws2 k2 at2
              obtain ⟨fp2, s2⟩ := s'.swap (G' := tarG H2 p dx l tt) (d' := .tar rows') na hi e1 (fun a o n q => k2 a o (fun z => n (z ▸ fpl)) (fun z => n (z ▸ fpt)) q) tarG_same
                (fun a u q => by
                  rcases tarG_inv q with z | z | z | z | z
                  · exact .inl z
                  · exact .inr (.inl (z ▸ fpp))
                  · exact .inr (.inl (z ▸ fpd))
                  · exact .inr (.inl (z ▸ fpl))
                  · exact .inr (.inl (z ▸ fpt))) (by rw [Rep]; exact ⟨p, dx, l, tt, ws2, rfl, tarG_at at2⟩)
              exact h σ F' fp2 H2 g'.ff s2
          | [], r' => exact absurd r' (by simp [Reps])
          | [_], r' => exact absurd r' (by simp [Reps])
          | [_, _], r' => exact absurd r' (by simp [Reps])
          | _ :: _ :: _ :: _ :: _, r' => exact absurd r' (by simp [Reps])
        | [], h => exact h.elim
        | [_], h => exact h.elim
        | [_, _], h => exact h.elim
        | _ :: _ :: _ :: _ :: _, h => exact h.elim
/-! ### Tariff(rows) -/
/-- what __init__ promises, self being a new instance at p with its own dict dx -/
def spMk (T : Par) (g : D → RetM) : Sp := fun vs H Q E => ∃ p dx v d, vs = [.ref p, v] ∧ H p = some (.ins T.C dx []) ∧ H dx = some (.own p) ∧ (∃ B, Same B H ∧ B p = none ∧ B dx = none ∧ Rep T B v d) ∧
  match g d with
  | .ok rows => ∀ H' l t ws, (∀ x o, x ≠ p → H x = some o → H' x = some o) → H l = none → H t = none → TarAt T.C H' p dx l t ws rows → Q .non H'
  | .er e => ∀ H', (∀ x o, x ≠ p → H x = some o → H' x = some o) → E (.ref (T.cx e)) none H'
  | .no => False
def mkA (g : D → RetM) : ResA → Res
  | .ok [d] _ => (match g d with
    | .ok rows => .ok (.tar rows) .dp
    | .er c => .er c
    | .no => .no)
  | .er c => .er c
  | _ => .no
def mkTarR (g : D → RetM) (fa : Dl → ResA) : Dl → Res := fun δ => mkA g (fa δ)
def tMakeW (C : Addr) (sp : Sp) (E : L2.St → XK) (t : TA) : TE := fun σ H Q => t σ H fun vs H1 =>
  ∀ x dx, H1 x = none → H1 dx = none → dx ≠ x → sp (.ref x :: vs) (upd (upd H1 dx (.own x)) x (.ins C dx [])) (fun v H2 => v = .non ∧ Q (.ref x) H2) (E σ)
section
variable {CX : CXT} {k : Nat} {f C : Addr} {fd : FuncData} {ps : List Str} {sp : Sp} {E : L2.St → XK} {x : Str} {t : TA} {p : Pos}
theorem run_makeW {pins : List (Addr × Obj)} {σ : L2.St} {H : Hp} {s : Shared} {Q : VK} {us : List Value} {vs : List V} (M : Mk X.K C f) (G : FnOk X.prog X.w X.K X.mg X.base CX k f fd ps sp) (hr : Room (k + 1) X.A) (hb : Binds X.K fd ps [])
    (hx : PassesAt CX X σ (E σ)) (I : Inv X pins σ H s) (r : Vals vs us)
    (h : ∀ x dx, H x = none → H dx = none → dx ≠ x → sp (.ref x :: vs) (upd (upd H dx (.own x)) x (.ins C dx [])) (fun v H2 => v = .non ∧ Q (.ref x) H2) (E σ)) : wpAny (model X.prog X.w) X.A (call (.ref C) us) (EP X pins σ Q) X.xe s := by
  let n := s.heap.objs.size
  have hq := h (n + 1) n (I.hok.fresh (Nat.le_succ _)) (I.hok.fresh (Nat.le_refl _)) (Nat.ne_of_lt (Nat.lt_succ_self _))
  have I2 := Inv.made (C := C) I
  have r2 : Vals (V.ref (n + 1) :: vs) (Value.ref (n + 1) :: us) := .cons rfl r
  have hl : (Value.ref (n + 1) :: us).length = ps.length := by rw [← r2.length]; exact G.len _ _ _ _ hq
  have bb := hb _ (Value.ref (n + 1) :: us) I2.kIn (by rw [List.append_nil]; exact hl)
  rw [List.append_nil] at bb
  refine wpAny_call (make_map (f := f) I.kIn M.makes M.init (beq_iff_eq.mp M.fn) (codeAny_mono (G.run _ X.stack _ _ ⟨Value.ref (n + 1) :: us, []⟩ (Value.ref (n + 1) :: us) _ _ (E σ) (hr.make C us []) (I2.env0.make C us []) bb r2 hq) fun w s' hq' => ?_))
  cases w with
  | error e => exact hx pins _ _ e s' I2 hq'
  | ok fl =>
    cases fl with
    | ret u =>
      obtain ⟨v, H', I3, rv, ev, q3⟩ := I2.after hq'
      subst ev
      exact ⟨rv, ⟨V.ref (n + 1), H', I3, rfl, q3⟩⟩
    | _ => exact False.elim hq'
theorem pe_makeW (M : Mk X.K C f) (G : FnOk X.prog X.w X.K X.mg X.base CX k f fd ps sp) (hr : Room (k + 1) X.A) (hg : Gl X x) (hm : X.mg x = some (.ref C)) (hb : Binds X.K fd ps []) (hx : ∀ σ, PassesAt CX X σ (E σ)) (ha : PA X (e :: es) t)
    (hdb : (x == ("__debug__" : Str)) = false := by decide) (he : starEach (e :: es) X.env = (false, eval e X.env) :: starEach es X.env := by rfl) (hpl : (backTo pos (starEach es X.env)).any (fun q => q.1) = false := by rfl) :
    PE X (.Call (.Name x p) (e :: es) [] pos) (tMakeW C sp E t) := by
  refine ⟨fun pins s σ H Q I h => wpAny_Call_Name_kw (ld_glob I hg hm ?_ hdb)⟩
  refine PySem.W.callWith_K (h₀ := X.base) I.ok.mod.kin M.kp (thn (ha.run pos pins s σ H _ I h) ?_) he hpl
  rintro us s1 ⟨vs, H1, I1, r, q⟩
  exact ⟨I1.kIn, run_makeW M G hr hb (hx σ) I1 r q⟩
end
theorem pd_mkTar {k : Nat} {f : Addr} {fd : FuncData} {ps : List Str} {g : D → RetM} {p : Pos} (C : TarC X.K X.mg T.C) (M : Mk X.K T.C f) (G : FnOk X.prog X.w X.K X.mg X.base (L2N.CX X.prog X.w) k f fd ps (spMk T g)) (hr : Room (k + 1) X.A) (hb : Binds X.K fd ps []) (tk : Takes X W) (ha : PDa X T Z W [e] fa)
    (hg : Gl X "Tariff" := by rfl) (he : starEach [e] X.env = (false, eval e X.env) :: starEach [] X.env := by rfl) (hpl : (backTo pos (starEach [] X.env)).any (fun q => q.1) = false := by rfl) : PDe X T Z W (.Call (.Name "Tariff" p) [e] [] pos) (mkTarR g fa) := by
  obtain ⟨t, pa, ea⟩ := ha
  refine ⟨_, pe_makeW M G hr hg C.gl hb (fun σ => passAt tk σ) pa (by decide) he hpl, ?_⟩
  intro H0 A δ σ F fp H Q s h
  refine ea H0 A δ σ F fp H _ s ?_
  unfold mkTarR at h
  cases hf : fa δ with
  | no => rw [hf] at h; exact h.elim
  | er c => rw [hf] at h; exact h
  | ok ds st =>
    rw [hf] at h
    match ds, h with
    | [d], h =>
      intro vs F1 H1 g1 rs
      have r' : Reps T H1 vs [d] := by
        by_cases z : st = true
        · rw [if_pos z] at rs; exact rs.mono g1.fh
        · rw [if_neg z] at rs; exact rs
      match vs, r' with
      | [v], r' =>
        simp only [Reps, and_true] at r'
        intro x dx nx nd ne
        have up : Same H1 (upd (upd H1 dx (.own x)) x (.ins T.C dx [])) := (upd_sameN nd).trans (upd_sameN (by rw [upd_ne (Ne.symm ne)]; exact nx))
        refine ⟨x, dx, v, d, rfl, upd_same, by rw [upd_ne ne, upd_same], ⟨H1, up, nx, nd, r'⟩, ?_⟩
        have ofH : ∀ H2, (∀ y o, y ≠ x → upd (upd H1 dx (.own x)) x (.ins T.C dx []) y = some o → H2 y = some o) → Same H1 H2 := fun H2 k y o q => k y o (fun z => by subst z; rw [nx] at q; cases q) (up y o q)
        simp only [mkA] at h
        cases hg : g d with
        | no => rw [hg] at h; exact h.elim
        | er c => rw [hg] at h; exact fun H2 k2 => h F1 H2 ⟨g1.ff, g1.hh.trans (ofH H2 k2), g1.fh.trans (ofH H2 k2), g1.nw⟩
        | ok rows =>
          rw [hg] at h
          intro H2 l tt ws k2 nl nt at2
          have free : ∀ y, upd (upd H1 dx (.own x)) x (.ins T.C dx []) y = none → H1 y = none := fun y q => up.free q
          refine ⟨rfl, h (.ref x) F1 H2 ⟨g1.ff, g1.hh.trans (ofH H2 k2), g1.fh.trans (ofH H2 k2), g1.nw⟩ ⟨tarG H2 x dx l tt, tarG_same, fun y u q => ?_, ?_⟩⟩
          · rcases tarG_inv q with z | z | z | z | z
            · exact .inl z
            · subst z; exact .inr ⟨g1.fh.free nx, g1.hh.free nx⟩
            · subst z; exact .inr ⟨g1.fh.free nd, g1.hh.free nd⟩
            · subst z; exact .inr ⟨g1.fh.free (free _ nl), g1.hh.free (free _ nl)⟩
            · subst z; exact .inr ⟨g1.fh.free (free _ nt), g1.hh.free (free _ nt)⟩
          · rw [Rep]; exact ⟨x, dx, l, tt, ws, rfl, tarG_at at2⟩
      | [], r' => exact absurd r' (by simp [Reps])
      | _ :: _ :: _, r' => exact absurd r' (by simp [Reps])
    | [], h => exact h.elim
    | _ :: _ :: _, h => exact h.elim
end
end
end DD

set_option maxRecDepth 100000
namespace DD
noncomputable section
open PySem L2N
open L2 hiding XE Takes CX takes_of passes_call MkP PMk ps_raise mk_of ps_try_as pmk_own passAt HdsOk ps_try_many ps_try_only
/-- the two stores of put -/
abbrev tlPut (K : PySem.W.Frag) : TS := tSeq (tDrop (tBM K "list" rAppend (tFld K (tVar 0) fRows) (tCons (tTup (tCons (tVar 1) (tCons (tVar 2) (tCons (tVar 3) tNil)))) tNil)))
  (sDPut (tFld K (tVar 0) fTable) (tTup (tCons (tVar 1) (tCons (tVar 2) tNil))) (tVar 3))
theorem rows_snoc {F : Hp} {q : Addr} {r : Rw} : ∀ {vs : List V} {rows : List Rw}, RowsAt F vs rows → F q = some (.tup [.str r.1, .str r.2.1, .int r.2.2]) → RowsAt F (vs ++ [.ref q]) (rows ++ [r])
  | [], [], _, h => ⟨⟨q, rfl, h⟩, trivial⟩
  | v :: vs, r' :: rs, h, e => ⟨h.1, rows_snoc h.2 e⟩
  | [], _ :: _, h, _ => h.elim
  | _ :: _, [], h, _ => h.elim
theorem rows_tups {F F' : Hp} (h : ∀ x o, isTup o → F x = some o → F' x = some o) : ∀ {vs : List V} {rows : List Rw}, RowsAt F vs rows → RowsAt F' vs rows
  | [], [], _ => trivial
  | v :: vs, r :: rs, e => by
    obtain ⟨⟨q, e1, e2⟩, e3⟩ := e
    exact ⟨⟨q, e1, h _ _ ⟨_, rfl⟩ e2⟩, rows_tups h e3⟩
  | [], _ :: _, h => h.elim
  | _ :: _, [], h => h.elim
theorem putK_new {κ : Type} [DecidableEq κ] {kvs : List (κ × V)} {k : κ} {v : V} (h : ∀ kv ∈ kvs, kv.1 ≠ k) : putK kvs k v = kvs ++ [(k, v)] := by
  unfold putK
  rw [if_neg]
  intro z
  rw [List.any_eq_true] at z
  obtain ⟨kv, h1, h2⟩ := z
  exact h kv h1 (by simpa using h2)
theorem put_tail {K : PySem.W.Frag} {mg : Str → Option Value} {C : Addr} (TC : TarC K mg C) {E : Ends} {H : Hp} {p dx l t : Addr} {vs : List V} {rows : List Rw} {a b : Str} {c : Int} (at_ : TarAt C H p dx l t vs rows) (hl : rows.length < sizeLine) (hn : ∀ r ∈ rows, ¬ (r.1 = a ∧ r.2.1 = b))
    (h : ∀ H' ws', (∀ x o, x ≠ l → x ≠ t → H x = some o → H' x = some o) → TarAt C H' p dx l t ws' (rows ++ [(a, b, c)]) → E.nx [some (.ref p), some (.str a), some (.str b), some (.int c)] H') : tlPut K E [some (.ref p), some (.str a), some (.str b), some (.int c)] H := by
  have ne_lp : p ≠ l := fun z => by have := at_.ins; rw [z, at_.lst] at this; cases this
  have ne_ld : dx ≠ l := fun z => by have := at_.own; rw [z, at_.lst] at this; cases this
  have ne_lt : t ≠ l := fun z => by have := at_.tab; rw [z, at_.lst] at this; cases this
  have ne_tp : p ≠ t := fun z => by have := at_.ins; rw [z, at_.tab] at this; cases this
  have ne_td : dx ≠ t := fun z => by have := at_.own; rw [z, at_.tab] at this; cases this
  refine ⟨_, rfl, p, C, dx, _, _, rfl, at_.ins, TC.cl, TC.nR, look_rows, .inl ⟨rfl, _, SqL.of at_.lst⟩, ?_⟩
  refine ⟨_, rfl, _, rfl, _, rfl, (by show 3 ≤ sizeLine; decide +kernel), fun q hq => ?_⟩
  have at1 : TarAt C (upd H q (.tup [.str a, .str b, .int c])) p dx l t vs rows := at_.mono (upd_sameN hq)
  refine ⟨l, _, _, rfl, rfl, at1.lst, by rw [at1.rws.length]; exact hl, ?_⟩
  refine ⟨_, rfl, _, rfl, p, C, dx, _, _, rfl, (by rw [upd_ne ne_lp]; exact at1.ins), TC.cl, TC.nT, look_tab, ?_⟩
  refine ⟨_, rfl, _, rfl, (by show 2 ≤ sizeLine; decide +kernel), fun q2 hq2 => ?_⟩
  have hq2l : q2 ≠ l := fun z => by rw [z, upd_same] at hq2; cases hq2
  have hq2H : upd H q (.tup [.str a, .str b, .int c]) q2 = none := by rw [upd_ne hq2l] at hq2; exact hq2
  refine ⟨t, _, rfl, DPut.t (kvs := rowsKv rows) (k := [.inr a, .inr b]) ?_ upd_same (by unfold rowsKv; simpa using hl), ?_⟩
  · rw [upd_ne (fun z => by rw [← z, upd_ne ne_lt, at1.tab] at hq2; cases hq2), upd_ne ne_lt]
    exact at1.tab
  rw [putK_new (fun kv hkv => by
    unfold rowsKv at hkv
    obtain ⟨r, h1, rfl⟩ := List.mem_map.mp hkv
    intro z
    simp only [List.cons.injEq, Sum.inr.injEq, and_true] at z
    exact hn r h1 z)]
  have nq : ∀ x o, H x = some o → x ≠ q := fun x o e z => by rw [z, hq] at e; cases e
  have nq2 : ∀ x o, H x = some o → x ≠ q2 := fun x o e z => by
    rw [z] at e
    rw [upd_ne (fun y => by rw [← y] at hq; rw [hq] at e; cases e)] at hq2H
    rw [hq2H] at e; cases e
  have keep : ∀ x o, x ≠ l → x ≠ t → H x = some o → upd (upd (upd (upd H q (.tup [.str a, .str b, .int c])) l (.lst (vs ++ [.ref q]))) q2 (.tup [.str a, .str b])) t (.dT (rowsKv rows ++ [([.inr a, .inr b], .int c)])) x = some o := fun x o h1 h2 e => by
    rw [upd_ne h2, upd_ne (nq2 x o e), upd_ne h1, upd_ne (nq x o e)]; exact e
  refine h _ (vs ++ [.ref q]) keep ⟨keep _ _ ne_lp ne_tp at_.ins, keep _ _ ne_ld ne_td at_.own, ?_, ?_, ?_⟩
  · rw [upd_ne (Ne.symm ne_lt), upd_ne (Ne.symm hq2l), upd_same]
  · rw [upd_same]
    unfold rowsKv
    rw [List.map_append]
    rfl
  · have up : ∀ x o, isTup o → upd H q (.tup [.str a, .str b, .int c]) x = some o → upd (upd (upd (upd H q (.tup [.str a, .str b, .int c])) l (.lst (vs ++ [.ref q]))) q2 (.tup [.str a, .str b])) t (.dT (rowsKv rows ++ [([.inr a, .inr b], .int c)])) x = some o := fun x o ht e => by
      have n1 : x ≠ t := fun z => by rw [z, at1.tab] at e; cases e; obtain ⟨_, z⟩ := ht; cases z
      have n2 : x ≠ l := fun z => by rw [z, at1.lst] at e; cases e; obtain ⟨_, z⟩ := ht; cases z
      have n3 : x ≠ q2 := fun z => by rw [z, hq2H] at e; cases e
      rw [upd_ne n1, upd_ne n3, upd_ne n2]; exact e
    exact rows_snoc (rows_tups up at1.rws) (up _ _ ⟨_, rfl⟩ upd_same)
/-- a block whose first statements are told by values, the rest by its own reading tl -/
def PDtl (X : Cx) (T : Par) (Z : Hd) (W : WX) (body : List Stmt) (tl : TS) (f : Dl → Out) : Prop := ∃ t, PSs X body t ∧
  ∀ H0 A δ σ F fp H (E : Ends), SR T Z H0 A δ σ F fp H → PostS T Z H0 A W { E with nx := tl E } F (f δ) → t E σ H
section
variable {X : Cx} {T : Par} {Z : Hd} {W : WX} {st : Stmt} {rest : List Stmt} {tl : TS} {k1 k2 : Dl → Out}
theorem tl_end (p : PSs X rest tl) : PDtl X T Z W rest tl .nx := ⟨tl, p, fun H0 A δ σ F fp H E s h => h σ F fp H (Same.refl _) s⟩
theorem tl_cons (h1 : PDs X T Z W st k1) (h2 : PDtl X T Z W rest tl k2) : PDtl X T Z W (st :: rest) tl (seqF k1 k2) := by
  obtain ⟨t, p, ev⟩ := h1
  obtain ⟨u, q, ew⟩ := h2
  refine ⟨_, pss_cons p q, ?_⟩
  intro H0 A δ σ F fp H E s h
  refine ev H0 A δ σ F fp H { E with nx := u E } s ?_
  unfold seqF at h
  cases hk : k1 δ with
  | nx δ' =>
    rw [hk] at h
    exact fun σ' F' fp' H' e s' => ew H0 A δ' σ' F' fp' H' E s' (PostS.later (E := { E with nx := tl E }) h e)
  | rt d => rw [hk] at h; exact h
  | bk δ' => rw [hk] at h; exact h
  | ct δ' => rw [hk] at h; exact h
  | er c δ' => rw [hk] at h; exact h
  | no => rw [hk] at h; exact h
end
/-- only refuses -/
def Keeps (f : Dl → Out) : Prop := ∀ δ δ', f δ = .nx δ' → δ' = δ
theorem kp_nx : Keeps .nx := fun δ δ' h => by cases h; rfl
theorem kp_if {p : Dl → ResB} {c : Ex} : Keeps (ifO p (raiO c) .nx) := fun δ δ' h => by
  unfold ifO at h
  cases hp : p δ with
  | ok b =>
    rw [hp] at h
    cases b with
    | true => cases h
    | false => cases h; rfl
  | er c => rw [hp] at h; cases h
  | no => rw [hp] at h; cases h
theorem kp_seq {f g : Dl → Out} (hf : Keeps f) (hg : Keeps g) : Keeps (seqF f g) := fun δ δ' h => by
  unfold seqF at h
  cases hk : f δ with
  | nx δ2 =>
    rw [hk] at h
    have := hf δ δ2 hk
    subst this
    exact hg _ _ h
  | rt d => rw [hk] at h; cases h
  | bk δ' => rw [hk] at h; cases h
  | ct δ' => rw [hk] at h; cases h
  | er c δ' => rw [hk] at h; cases h
  | no => rw [hk] at h; cases h
def putN (rows : List Rw) : D → D → D → RetM
  | .str s, .str t, .int i => if rows.length < sizeLine ∧ (rows.all fun r => !(decide (r.1 = s) && decide (r.2.1 = t))) = true then .ok (rows ++ [(s, t, i)]) else .no
  | _, _, _ => .no
theorem putN_ok {rows : List Rw} {a b c : D} {r : RetM} (h : putN rows a b c = r) : r = .no ∨ ∃ s t i, a = .str s ∧ b = .str t ∧ c = .int i ∧ rows.length < sizeLine ∧ (rows.all fun r => !(decide (r.1 = s) && decide (r.2.1 = t))) = true ∧ r = .ok (rows ++ [(s, t, i)]) := by
  unfold putN at h
  split at h
  · rename_i s t i
    split at h
    · rename_i hc
      exact .inr ⟨s, t, i, rfl, rfl, rfl, hc.1, hc.2, h.symm⟩
    · exact .inl h.symm
  · exact .inl h.symm
/-- put: its tests, then the row -/
def putG (pre : Dl → Out) (rows : List Rw) (a b c : D) : RetM := match pre [.bo (.tar rows), .bo a, .bo b, .bo c] with
  | .nx _ => putN rows a b c
  | .er e _ => .er e
  | _ => .no
theorem tar_pin {T : Par} {H : Hp} {p dx l t : Addr} {vs : List V} {rows : List Rw} {v : V} (at_ : TarAt T.C H p dx l t vs rows) (r : Rep T (tarG H p dx l t) v (.tar rows)) : v = .ref p := by
  rw [Rep] at r
  obtain ⟨p', dx', l', t', vs', rfl, h⟩ := r
  have e := h.ins
  rcases tarG_inv e with ⟨_, z⟩ | z | z | z | z
  · cases z
  · rw [z]
  · have := tarG_same _ _ e; rw [z, at_.own] at this; cases this
  · have := tarG_same _ _ e; rw [z, at_.lst] at this; cases this
  · have := tarG_same _ _ e; rw [z, at_.tab] at this; cases this
section
variable {P : Program} {w : World} {K : PySem.W.Frag} {mg : Str → Option Value} {base : Heap}
theorem put_def {T : Par} {qual : Str} {st : Stmt} {f : Addr} {fd : FuncData} {k : Nat} {pre : Dl → Out} (TC : TarC K mg T.C) (F : Fun K "put" qual st f fd) (S : FnScope ["self", "here", "there", "price"] ["self", "here", "there", "price"] (defScope st)) (kp : Keeps pre)
    (hb : ∀ (cdv : Value) (A : Around) (outer : List Env) (s : Shared) (H : Hp) (E : XK), Room k (A.deeper (PyProof.Rows.envOfC qual (defScope st) s.heap.objs.size f cdv)) →
      PDtl (cxOf (L2N.CX P w) P w K mg base ["self", "here", "there", "price"] qual (defScope st) f cdv A outer s H E) T Z0 (wE E) (defBody st) (tlPut K) pre) : FnOk P w K mg base (L2N.CX P w) (k + 1) f fd ["self", "here", "there", "price"] (spPut T (putG pre)) := by
  refine okXN F S (fun vs H Q E h => ?_) fun cdv A outer s H vs Q E hr h => ?_
  · obtain ⟨p, dx, l, t, ws, rows, a, b, c, va, vb, vc, rfl, _⟩ := h
    rfl
  obtain ⟨tt, pp, ev⟩ := hb cdv A outer s H E hr
  refine ⟨tt, pp, ?_⟩
  obtain ⟨p, dx, l, t, ws, rows, a, b, c, va, vb, vc, rfl, qa, qb, qc, at_, h⟩ := h
  have r0 : Reps T (tarG H p dx l t) [.ref p, va, vb, vc] [.tar rows, a, b, c] := by
    simp only [Reps, and_true]
    refine ⟨?_, rep_flat_of qa, rep_flat_of qb, rep_flat_of qc⟩
    rw [Rep]
    exact ⟨p, dx, l, t, ws, rfl, tarG_at at_⟩
  have s0 := sr_start (T := T) (Z := Z0) (m := 0) tarG_same r0
  refine ev H (tarG H p dx l t) [.bo (.tar rows), .bo a, .bo b, .bo c] _ noH _ H _ s0 ?_
  unfold putG at h
  cases hp : pre [.bo (.tar rows), .bo a, .bo b, .bo c] with
  | rt d => rw [hp] at h; exact h.elim
  | bk δ => rw [hp] at h; exact h.elim
  | ct δ => rw [hp] at h; exact h.elim
  | no => rw [hp] at h; exact h.elim
  | er c δ =>
    rw [hp] at h
    exact fun σ F' fp H' e s' => h H' s'.h0
  | nx δ =>
    rw [hp] at h
    have ek := kp _ _ hp
    subst ek
    intro σ F' fp H' e s'
    have hl := s'.len
    obtain ⟨_, e0, v0, rfl, q0⟩ := s'.sl 0 _ rfl
    obtain ⟨_, e1, v1, rfl, q1⟩ := s'.sl 1 _ rfl
    obtain ⟨_, e2, v2, rfl, q2⟩ := s'.sl 2 _ rfl
    obtain ⟨_, e3, v3, rfl, q3⟩ := s'.sl 3 _ rfl
    obtain rfl := tar_pin at_ q0
    obtain rfl := rep_flat q1 qa
    obtain rfl := rep_flat q2 qb
    obtain rfl := rep_flat q3 qc
    have hσ : σ = [some (.ref p), some v1, some v2, some v3] := by
      match σ, hl with
      | [o0, o1, o2, o3], _ =>
        simp only [List.getElem?_cons_zero, List.getElem?_cons_succ, Option.some.injEq] at e0 e1 e2 e3
        rw [e0, e1, e2, e3]
    subst hσ
    rcases putN_ok (rfl : putN rows a b c = putN rows a b c) with z | ⟨s2, t2, i, rfl, rfl, rfl, c1, c2, z⟩
    · rw [z] at h; exact h.elim
    · rw [z] at h
      cases qa; cases qb; cases qc
      refine put_tail TC (at_.mono s'.h0) c1 (fun r hr' z => ?_) fun H2 ws2 k2 at2 => ?_
      · have := List.all_eq_true.mp c2 r hr'
        simp [z.1, z.2] at this
      · exact h H2 ws2 (fun x o h1 h2 h3 => k2 x o h1 h2 (s'.h0 x o h3)) at2
end
/-! ### __init__ -/
def putAll (g : List Rw → D → D → D → RetM) : List Rw → List D → RetM
  | rows, [] => .ok rows
  | rows, d :: ds => match itemD d 0, itemD d 1, itemD d 2 with
    | some a, some b, some c => if (flatV? a).isSome = true ∧ (flatV? b).isSome = true ∧ (flatV? c).isSome = true then (match g rows a b c with
      | .ok rows' => putAll g rows' ds
      | .er e => .er e
      | .no => .no) else .no
    | _, _, _ => .no
def initG (g : List Rw → D → D → D → RetM) : D → RetM
  | .lst ds => putAll g [] ds
  | _ => .no
abbrev tlInit (T : Par) (K : PySem.W.Frag) (g : List Rw → D → D → D → RetM) (W : WX) : TS := tSeq (sFld K (tVar 0) (tLst tNil) fRows) (tSeq (sFld K (tVar 0) tDNewT fTable)
  (tFor (iList K (tVar 1)) (gName 2) (tDrop (tMethW T.C "put" (spPut T g) (WE W) (tVar 0) (tCons (tOp (rIx K) (tVar 2) (tC (.int 0))) (tCons (tOp (rIx K) (tVar 2) (tC (.int 1))) (tCons (tOp (rIx K) (tVar 2) (tC (.int 2))) tNil)))))))
theorem putF1 {l : V} : putF fRows l [] = [(fRows, l)] := rfl
theorem putF2 {l t : V} : putF fTable t [(fRows, l)] = [(fRows, l), (fTable, t)] := by
  show (if fRows = fTable then _ else _) = _
  rw [if_neg (by decide +kernel)]
  rfl
theorem init_read {T : Par} {mg : Str → Option Value} (TC : TarC T.K mg T.C) {g : List Rw → D → D → D → RetM} {vs : List V} {H : Hp} {Q : VK} {E : XK} {D : Ends} (hD : ∀ σ H', Q .non H' → D.nx σ H') (h : spMk T (initG g) vs H Q E) :
    tlInit T T.K g (wE E) D (L2.start ["self", "rows", "row"] vs) H := by
  obtain ⟨p, dx, v, d, rfl, hp, hdx, ⟨B, hB, bp, bd, r⟩, h⟩ := h
  cases d with
  | lst ds =>
    have h : match putAll g [] ds with
      | .ok rows => ∀ H' l t ws, (∀ x o, x ≠ p → H x = some o → H' x = some o) → H l = none → H t = none → TarAt T.C H' p dx l t ws rows → Q .non H'
      | .er e => ∀ H', (∀ x o, x ≠ p → H x = some o → H' x = some o) → E (.ref (T.cx e)) none H'
      | .no => False := h
    generalize hR : putAll g [] ds = R at h
    rw [Rep] at r
    obtain ⟨a, ws, rfl, e1, e2⟩ := r
    refine ⟨Nat.zero_le _, fun l hl => ?_⟩
    have npl : p ≠ l := ne_of_none hp hl
    have ndl : dx ≠ l := ne_of_none hdx hl
    have npd : p ≠ dx := fun z => by rw [z, hdx] at hp; cases hp
    refine ⟨_, rfl, p, T.C, dx, _, rfl, (by rw [upd_ne npl]; exact hp), TC.cl, TC.nR, (by show 0 < 1000; decide), ?_⟩
    rw [putF1]
    intro t ht
    have npt : p ≠ t := fun z => by rw [← z, upd_same] at ht; cases ht
    have nlt : l ≠ t := fun z => by rw [← z, upd_ne (Ne.symm npl), upd_same] at ht; cases ht
    have ht0 : H t = none := by rw [upd_ne (Ne.symm npt), upd_ne (Ne.symm nlt)] at ht; exact ht
    have ndt : dx ≠ t := ne_of_none hdx ht0
    refine ⟨_, rfl, p, T.C, dx, _, rfl, (by rw [upd_ne npt]; exact upd_same), TC.cl, TC.nT, (by show 1 < 1000; decide), ?_⟩
    rw [putF2]
    have keep : ∀ x o, x ≠ p → H x = some o → upd (upd (upd (upd H l (.lst [])) p (.ins T.C dx [(fRows, .ref l)])) t (.dT [])) p (.ins T.C dx [(fRows, .ref l), (fTable, .ref t)]) x = some o := fun x o n e => by
      rw [upd_ne n, upd_ne (ne_of_none e ht0), upd_ne n, upd_ne (ne_of_none e hl)]; exact e
    have at0 : TarAt T.C (upd (upd (upd (upd H l (.lst [])) p (.ins T.C dx [(fRows, .ref l)])) t (.dT [])) p (.ins T.C dx [(fRows, .ref l), (fTable, .ref t)])) p dx l t [] [] :=
      ⟨upd_same, keep _ _ (Ne.symm npd) hdx, by rw [upd_ne (Ne.symm npl), upd_ne nlt, upd_ne (Ne.symm npl), upd_same], by rw [upd_ne (Ne.symm npt), upd_same]; rfl, trivial⟩
    have toB : ∀ H' : Hp, (∀ x o, x ≠ p → H x = some o → H' x = some o) → Same B H' := fun H' k x o e => k x o (fun z => by subst z; rw [bp] at e; cases e) (hB x o e)
    refine ⟨_, rfl, a, rfl, ⟨ws, SqL.of (toB _ keep _ _ e1)⟩, for_list (K := T.K) (a := a) (xs := ws) (fun j σ H' => ∃ rows ws' y, σ = [some (.ref p), some (.ref a), y] ∧ TarAt T.C H' p dx l t ws' rows ∧ (∀ x o, x ≠ p → H x = some o → H' x = some o) ∧ putAll g rows (ds.drop j) = R)
      ⟨[], [], none, rfl, at0, keep, hR⟩ (fun j σ H' _ ⟨_, _, _, _, _, k, _⟩ => SqL.of (toB _ k _ _ e1)) ?_ ?_⟩
    · rintro j x σ H' hj ⟨rows, ws', y, rfl, at', k', hq⟩
      have hjl : j < ds.length := by rw [← e2.length]; exact (List.getElem?_eq_some_iff.mp hj).1
      have hB' := toB _ k'
      obtain ⟨x', hx', rx⟩ := e2.get (List.getElem?_eq_getElem hjl)
      rw [hj] at hx'
      cases hx'
      rw [List.drop_eq_getElem_cons hjl] at hq
      unfold putAll at hq
      have bad : RetM.no = R → False := fun z => by rw [← z] at h; exact h
      cases i0 : itemD ds[j] 0 with
      | none => rw [i0] at hq; exact (bad hq).elim
      | some d0 =>
        cases i1 : itemD ds[j] 1 with
        | none => rw [i0, i1] at hq; exact (bad hq).elim
        | some d1 =>
          cases i2 : itemD ds[j] 2 with
          | none => rw [i0, i1, i2] at hq; exact (bad hq).elim
          | some d2 =>
            rw [i0, i1, i2] at hq
            simp only at hq
            split at hq
            case isFalse => exact (bad hq).elim
            rename_i hc
            obtain ⟨c0, c1, c2⟩ := hc
            obtain ⟨va, qa⟩ := Option.isSome_iff_exists.mp c0
            obtain ⟨vb, qb⟩ := Option.isSome_iff_exists.mp c1
            obtain ⟨vc, qc⟩ := Option.isSome_iff_exists.mp c2
            refine ⟨_, rfl, p, dx, _, rfl, at'.ins, look_no (by decide +kernel) (by decide +kernel), _, rfl, ?_⟩
            refine ix_rule hB' rx i0 fun z0 r0 => ⟨_, rfl, ?_⟩
            refine ix_rule hB' rx i1 fun z1 r1 => ⟨_, rfl, ?_⟩
            refine ix_rule hB' rx i2 fun z2 r2 => ?_
            obtain rfl := rep_flat r0 qa
            obtain rfl := rep_flat r1 qb
            obtain rfl := rep_flat r2 qc
            refine ⟨p, dx, l, t, ws', rows, d0, d1, d2, _, _, _, rfl, qa, qb, qc, at', ?_⟩
            cases hg : g rows d0 d1 d2 with
            | no => rw [hg] at hq; exact (bad hq).elim
            | er e =>
              rw [hg] at hq
              rw [← hq] at h
              exact fun H2 e2' => h H2 fun x o n q => e2' x o (k' x o n q)
            | ok rows' =>
              rw [hg] at hq
              exact fun H2 ws2 k2 at2 => ⟨rows', ws2, _, rfl, at2, fun x o n q => k2 x o (ne_of_none q hl) (ne_of_none q ht0) (k' x o n q), hq⟩
    · rintro σ H' ⟨rows, ws', y, rfl, at', k', hq⟩
      rw [e2.length, List.drop_length] at hq
      simp only [putAll] at hq
      rw [← hq] at h
      exact hD _ _ (h H' l t ws' k' hl ht0 at')
  | _ => exact h.elim
end
end DD

set_option maxRecDepth 100000
namespace DD
noncomputable section
open PySem L2N
open L2 hiding XE Takes CX takes_of passes_call MkP PMk ps_raise mk_of ps_try_as pmk_own passAt HdsOk ps_try_many ps_try_only
/-! ### the methods as they stand -/
structure MethAt (P : Program) (w : World) (K : PySem.W.Frag) (mg : Str → Option Value) (base : Heap) (T : Par) (m : Str) (k : Nat) (ps : List Str) (sp : Sp) : Prop where
  ex : ∃ f fd, Meth K T.C m f ∧ Binds K fd ps [] ∧ FnOk P w K mg base (L2N.CX P w) k f fd ps sp
structure MakeAt (P : Program) (w : World) (K : PySem.W.Frag) (mg : Str → Option Value) (base : Heap) (T : Par) (k : Nat) (g : D → RetM) : Prop where
  ex : ∃ f fd, Mk K T.C f ∧ Binds K fd ["self", "rows"] [] ∧ FnOk P w K mg base (L2N.CX P w) k f fd ["self", "rows"] (spMk T g)
section
variable {X : Cx} {T : Par} {Z : Hd} {W : WX} {e o a b c : Expr} {es : List Expr} {f1 f2 f3 : Dl → Res} {fa : Dl → ResA} {pos apos cpos xpos : Pos} {k k' : Nat} {m x : Str} {ps : List Str} {g : List D → Ret}
theorem pd_methD {pl : Sem Bool} (C : TarC X.K X.mg T.C) (G : MethAt X.prog X.w X.K X.mg X.base T m k ps (spOf T g)) (hr : Room k' X.A) (hk : k ≤ k') (tk : Takes X W)
    (ho : PDe X T Z W o f1) (ha : PDa X T Z W (e :: es) fa) (h1 : (m == fRows) = false := by decide +kernel) (h2 : (m == fTable) = false := by decide +kernel)
    (hst : starEach (e :: es) X.env = (false, eval e X.env) :: starEach es X.env := by rfl) (hpl : (backTo pos (starEach es X.env)).any (fun q => q.1) = false := by rfl)
    (ht : eval (.Call (.Attribute o m apos) (e :: es) [] pos) X.env = (do
      let v ← eval o X.env
      standAt apos.atName
      let (q, first) ← holding [v] (getMethod v m pl)
      callWith pos q first (backTo pos (starEach (e :: es) X.env)) (backToKw pos (keywordEach [] X.env))) := by rfl) : PDe X T Z W (.Call (.Attribute o m apos) (e :: es) [] pos) (mthR g f1 fa) := by
  obtain ⟨f, fd, q1, q2, q3⟩ := G.ex
  exact pd_meth C q1 q3 (hr.mono hk) q2 tk ho ha h1 h2 hst hpl ht
theorem pd_methD0 {pl : Sem Bool} (C : TarC X.K X.mg T.C) (G : MethAt X.prog X.w X.K X.mg X.base T m k ps (spOf T g)) (hr : Room k' X.A) (hk : k ≤ k') (tk : Takes X W)
    (ho : PDe X T Z W o f1) (h1 : (m == fRows) = false := by decide +kernel) (h2 : (m == fTable) = false := by decide +kernel)
    (ht : eval (.Call (.Attribute o m apos) [] [] pos) X.env = (do
      let v ← eval o X.env
      standAt apos.atName
      let (q, first) ← holding [v] (getMethod v m pl)
      callWith pos q first (backTo pos (starEach [] X.env)) (backToKw pos (keywordEach [] X.env))) := by rfl) : PDe X T Z W (.Call (.Attribute o m apos) [] [] pos) (mthR g f1 nilR) := by
  obtain ⟨f, fd, q1, q2, q3⟩ := G.ex
  exact pd_meth0 C q1 q3 (hr.mono hk) q2 tk ho h1 h2 ht
theorem sd_putD (i : Nat) {gp : List Rw → D → D → D → RetM} {pl : Sem Bool} (C : TarC X.K X.mg T.C) (G : MethAt X.prog X.w X.K X.mg X.base T m k ps (spPut T gp)) (hr : Room k' X.A) (hk : k ≤ k') (tk : Takes X W)
    (ha : PDa X T Z W (e :: es) fa) (hN : X.N[i]? = some x := by rfl) (hv : Vis X.env.scope x := by first | exact Or.inl rfl | exact Or.inr (Or.inl rfl) | exact Or.inr (Or.inr rfl)) (hd : (x == ("__debug__" : Str)) = false := by decide) (hcd : (x == ("__classdict__" : Str)) = false := by decide)
    (h1 : (m == fRows) = false := by decide +kernel) (h2 : (m == fTable) = false := by decide +kernel) (hs : swapsWith (.Call (.Attribute (.Name x xpos) m apos) (e :: es) [] cpos) none pos.line X.env = pure false := by rfl)
    (hst : starEach (e :: es) X.env = (false, eval e X.env) :: starEach es X.env := by rfl) (hpl : (backTo cpos (starEach es X.env)).any (fun q => q.1) = false := by rfl)
    (ht : eval (.Call (.Attribute (.Name x xpos) m apos) (e :: es) [] cpos) X.env = (do
      let v ← eval (.Name x xpos) X.env
      standAt apos.atName
      let (q, first) ← holding [v] (getMethod v m pl)
      callWith cpos q first (backTo cpos (starEach (e :: es) X.env)) (backToKw cpos (keywordEach [] X.env))) := by rfl) :
    PDs X T Z W (.Expr (.Call (.Attribute (.Name x xpos) m apos) (e :: es) [] cpos) pos) (putO gp i fa) := by
  obtain ⟨f, fd, q1, q2, q3⟩ := G.ex
  exact sd_put i C q1 q3 (hr.mono hk) q2 tk ha hN hv hd hcd h1 h2 hs hst hpl ht
theorem pd_mkD {gi : D → RetM} {p : Pos} (C : TarC X.K X.mg T.C) (G : MakeAt X.prog X.w X.K X.mg X.base T k gi) (hr : Room k' X.A) (hk : k + 1 ≤ k') (tk : Takes X W) (ha : PDa X T Z W [e] fa)
    (hg : Gl X "Tariff" := by rfl) (he : starEach [e] X.env = (false, eval e X.env) :: starEach [] X.env := by rfl) (hpl : (backTo pos (starEach [] X.env)).any (fun q => q.1) = false := by rfl) : PDe X T Z W (.Call (.Name "Tariff" p) [e] [] pos) (mkTarR gi fa) := by
  obtain ⟨f, fd, q1, q2, q3⟩ := G.ex
  exact pd_mkTar C q1 q3 (hr.mono hk) q2 tk ha hg he hpl
end
/-! ### [a, b] of new lists -/
def frK (d : D) (k : Kd) : Bool := match k with
  | .dp => true
  | .tp => (match d with
    | .lst ds => imms ds
    | _ => false)
  | _ => false
theorem ResR.deep {T : Par} {A F H Ho : Hp} {k : Kd} {v : V} {d : D} (r : ResR T A F H Ho k v d) (hF : Same F H) (hk : frK d k = true) : ∃ G, Same G H ∧ (∀ a u, G a = some u → isTup u ∨ (F a = none ∧ Ho a = none)) ∧ Rep T G v d := by
  cases k with
  | dp => exact r
  | tp =>
    cases d with
    | lst ds =>
      obtain ⟨p, rfl, h1, h2, vs, h3, h4⟩ := r
      have r2 := Reps.imm hk (h4.mono hF)
      have np : tuF H p = none := by
        cases q : tuF H p with
        | none => rfl
        | some o =>
          obtain ⟨q1, ws, q2⟩ := tuF_inv q
          rw [h3] at q1
          cases q1
          cases q2
      refine ⟨upd (tuF H) p (.lst vs), fun b u e => ?_, fun a u e => ?_, ?_⟩
      · by_cases hb : b = p
        · subst hb; rw [upd_same] at e; cases e; exact h3
        · rw [upd_ne hb] at e; exact tuF_same H _ _ e
      · by_cases hb : a = p
        · subst hb; exact .inr ⟨h1, h2⟩
        · rw [upd_ne hb] at e; exact .inl (tuF_inv e).2
      · rw [Rep]
        exact ⟨p, vs, rfl, upd_same, r2.mono (upd_sameN np)⟩
    | _ => cases hk
  | _ => cases hk
def l2X (r1 r2 : Res) : Res := match r1 with
  | .ok d1 k1 => (match r2 with
    | .ok d2 k2 => if frK d1 k1 = true ∧ frK d2 k2 = true then .ok (.lst [d1, d2]) .dp else .no
    | .er c => .er c
    | .no => .no)
  | .er c => .er c
  | .no => .no
def lst2R (f1 f2 : Dl → Res) : Dl → Res := fun δ => l2X (f1 δ) (f2 δ)
section
variable {X : Cx} {T : Par} {Z : Hd} {W : WX} {e o a b c : Expr} {rest : List Stmt} {f1 f2 f3 : Dl → Res} {k1 k2 : Dl → Out} {pos apos cpos xpos : Pos}
theorem pd_lst2 (ha : PDe X T Z W a f1) (hb : PDe X T Z W b f2) (h1 : starEach [a, b] X.env = (false, eval a X.env) :: starEach [b] X.env := by rfl) (h2 : starEach [b] X.env = (false, eval b X.env) :: starEach [] X.env := by rfl) : PDe X T Z W (.List [a, b] pos) (lst2R f1 f2) := by
  obtain ⟨ta, pa, ea⟩ := ha
  obtain ⟨tb, pb, eb⟩ := hb
  refine ⟨_, pe_lst (pa_cons pa (pa_cons pb pa_nil h2) h1), ?_⟩
  intro H0 A δ σ F fp H Q s h
  unfold lst2R l2X at h
  refine ea H0 A δ σ F fp H _ s ?_
  cases hf : f1 δ with
  | no => rw [hf] at h; exact h.elim
  | er c => rw [hf] at h; exact h
  | ok d1 q1 =>
    rw [hf] at h
    intro v1 F1 H1 g1 r1
    have s1 := s.grow g1
    refine eb H0 A δ σ F1 fp H1 _ s1 ?_
    cases hf2 : f2 δ with
    | no => rw [hf2] at h; exact h.elim
    | er c => rw [hf2] at h; exact fun F' H' g' => h F' H' (g1.trans g')
    | ok d2 q2 =>
      rw [hf2] at h
      simp only at h
      intro v2 F2 H2 g2 r2
      split at h
      case isFalse => exact h.elim
      rename_i hk
      refine ⟨by show 2 ≤ sizeLine; decide +kernel, fun p hp => ?_⟩
      obtain ⟨G1, a1, a2, a3⟩ := r1.deep g1.fh hk.1
      obtain ⟨G2, b1, b2, b3⟩ := r2.deep g2.fh hk.2
      have g12 := g1.trans g2
      have gp : Grow F H F2 (upd H2 p (.lst [v1, v2])) := g12.trans (Grow.cell g12.fh hp)
      have hn : hun G1 G2 p = none := by
        cases q : hun G1 G2 p with
        | none => rfl
        | some o =>
          have := hun_in (a1.trans g2.hh) b1 _ _ q
          rw [hp] at this
          cases this
      refine h (.ref p) F2 _ gp ⟨upd (hun G1 G2) p (.lst [v1, v2]), upd_mono (hun_in (a1.trans g2.hh) b1), fun x u q => ?_, ?_⟩
      · by_cases hx : x = p
        · subst hx; exact .inr ⟨g12.fh.free hp, g12.hh.free hp⟩
        · rw [upd_ne hx] at q
          by_cases ht : isTup u
          · exact .inl ht
          · rcases hun_inv q with z | z
            · obtain ⟨n1, n2⟩ := (a2 x u z).resolve_left ht
              exact .inr ⟨g2.own n1 (a1 _ _ z) ht, n2⟩
            · obtain ⟨n1, n2⟩ := (b2 x u z).resolve_left ht
              exact .inr ⟨n1, g1.hh.free n2⟩
      · rw [Rep]
        refine ⟨p, _, rfl, upd_same, ?_⟩
        simp only [Reps, and_true]
        exact ⟨(a3.mono hun_l).mono (upd_sameN hn), (b3.mono (hun_r (a1.trans g2.hh) b1)).mono (upd_sameN hn)⟩
/-! ### x[i].clear(); x[j].append(e): x is not looked at any more -/
theorem SR.forget {H0 A F H : Hp} {δ : Dl} {σ : L2.St} {fp : Nat → Addr → Prop} (s : SR T Z H0 A δ σ F fp H) (i : Nat) : SR T Z H0 A (δ.set i .un) σ F (fun j a => j ≠ i ∧ fp j a) H := by
  refine ⟨s.h0, s.ah, s.fh, s.fn, fun j a h => s.own j a h.2, fun j k a h1 h2 => s.sep j k a h1.2 h2.2, fun j y q => ?_, by simp [s.len]⟩
  by_cases hj : j = i
  · subst hj
    have hlt := (List.getElem?_eq_some_iff.mp q).1
    rw [List.length_set] at hlt
    rw [List.getElem?_set_self hlt] at q
    cases q
    exact ⟨σ[j]'(by rw [s.len]; exact hlt), List.getElem?_eq_getElem _, trivial⟩
  · rw [List.getElem?_set_ne (Ne.symm hj)] at q
    obtain ⟨o, h1, h2⟩ := s.sl j y q
    refine ⟨o, h1, ?_⟩
    cases y with
    | un => trivial
    | sh d => exact h2
    | bo d => exact h2
    | ow d => obtain ⟨p, e1, hf, r⟩ := h2; exact ⟨p, e1, ⟨hj, hf⟩, r⟩
    | dp d => obtain ⟨v, e1, G, h3, h4, r⟩ := h2; exact ⟨v, e1, G, h3, fun a u q => (h4 a u q).imp id fun z => ⟨hj, z⟩, r⟩
    | an d => exact h2
    | ex c => exact h2
theorem SR.poke {H0 A F H : Hp} {δ : Dl} {σ : L2.St} {fp : Nat → Addr → Prop} (s : SR T Z H0 A δ σ F fp H) {r : Addr} {u o : HO} (na : noAn δ = true) (hF : F r = none) (h0 : H0 r = none) (hj : ∀ j, ¬ fp j r) (hu : H r = some u) (ht : ¬ isTup u) : SR T Z H0 A δ σ F fp (upd H r o) := by
  have kp : ∀ a w, a ≠ r → H a = some w → upd H r o a = some w := fun a w n e => by rw [upd_ne n]; exact e
  refine ⟨fun a w e => kp a w (fun z => by rw [z, h0] at e; cases e) (s.h0 a w e), s.ah, fun a w e => kp a w (fun z => by rw [z, hF] at e; cases e) (s.fh a w e), s.fn, fun j a h => ?_, s.sep, fun j y q => ?_, s.len⟩
  · obtain ⟨q1, q2, w, q3, q4⟩ := s.own j a h
    exact ⟨q1, q2, w, kp a w (fun z => hj j (z ▸ h)) q3, q4⟩
  · obtain ⟨oo, h1, h2⟩ := s.sl j y q
    refine ⟨oo, h1, ?_⟩
    cases y with
    | un => trivial
    | sh d => exact h2
    | bo d => exact h2
    | ow d =>
      obtain ⟨p, e1, hf, r'⟩ := h2
      obtain ⟨w, hw, _⟩ := r'.cell
      have hp := kp p w (fun z => hj j (z ▸ hf)) hw
      exact ⟨p, e1, hf, r'.mono (Same.refl _) (hp.trans hw.symm)⟩
    | dp d =>
      obtain ⟨v, e1, G, h3, h4, r'⟩ := h2
      refine ⟨v, e1, G, fun a w q => kp a w (fun z => ?_) (h3 a w q), h4, r'⟩
      subst z
      have := h3 _ _ q
      rw [hu] at this
      cases this
      rcases h4 _ _ q with t | t
      · exact ht t
      · exact hj j t
    | an d => exact (noAn_get na q).elim
    | ex c => exact h2
end
end
end DD

set_option maxRecDepth 100000
namespace DD
noncomputable section
open PySem L2N
open L2 hiding XE Takes CX takes_of passes_call MkP PMk ps_raise mk_of ps_try_as pmk_own passAt HdsOk ps_try_many ps_try_only
theorem not_self {T : Par} {G : Hp} {q : Addr} {vs : List V} {a : List D} {j : Int} (hq : G q = some (.lst vs)) (hj : atI vs j = some (.ref q)) (r : Reps T G vs a) (hi : imms a = true) : False := by
  unfold atI at hj
  cases hn : ixN vs.length j with
  | none => rw [hn] at hj; cases hj
  | some n =>
    rw [hn] at hj
    have hj : vs[n]? = some (.ref q) := hj
    have hl : n < a.length := by rw [← r.length]; exact (List.getElem?_eq_some_iff.mp hj).1
    obtain ⟨v, e1, e2⟩ := r.get (List.getElem?_eq_getElem hl)
    rw [hj] at e1
    cases e1
    have him : imm a[n] = true := by
      have : ∀ {l : List D}, imms l = true → ∀ d ∈ l, imm d = true := by
        intro l
        induction l with
        | nil => intro _ d h; cases h
        | cons x l ih =>
          intro h d hd
          rw [imms, Bool.and_eq_true] at h
          rcases List.mem_cons.mp hd with z | z
          · rw [z]; exact h.1
          · exact ih h.2 d z
      exact this hi _ (List.getElem_mem hl)
    revert e2 him
    generalize a[n] = d
    intro e2 him
    cases d with
    | tup ds => rw [Rep] at e2; obtain ⟨p, ws, e, h1, _⟩ := e2; cases e; rw [hq] at h1; cases h1
    | non => rw [Rep] at e2; cases e2
    | bl b => rw [Rep] at e2; cases e2
    | int b => rw [Rep] at e2; cases e2
    | str b => rw [Rep] at e2; cases e2
    | _ => cases him
theorem noAn_set {δ : Dl} {i : Nat} (h : noAn δ = true) : noAn (δ.set i .un) = true := by
  unfold noAn at h ⊢
  rw [List.all_eq_true] at h ⊢
  intro x hx
  rcases List.mem_or_eq_of_mem_set hx with z | z
  · exact h x z
  · rw [z]
def pairA (i : Nat) (q : Res) (δ : Dl) : Out := match q with
  | .ok _ _ => .nx (δ.set i .un)
  | .er c => .er c (δ.set i .un)
  | .no => .no
def pairB (i : Nat) (l1 l2 : Option D) (f : Dl → Res) (δ : Dl) : Out := match l1, l2 with
  | some (.lst a), some (.lst b) => if imms a = true ∧ imms b = true ∧ noAn δ = true ∧ b.length < sizeLine then pairA i (f (δ.set i .un)) δ else .no
  | _, _ => .no
/-- x[j1].clear(); x[j2].append(e) -/
def pairO (i : Nat) (j1 j2 : Int) (f : Dl → Res) : Dl → Out := fun δ => match δ[i]? with
  | some (.dp (.lst ds)) => pairB i (itemD (.lst ds) j1) (itemD (.lst ds) j2) f δ
  | _ => .no
section
variable {X : Cx} {T : Par} {Z : Hd} {W : WX} {e o a b c : Expr} {rest : List Stmt} {f1 f2 f3 : Dl → Res} {k1 k2 : Dl → Out} {pos apos cpos xpos p1 p2 p3 p4 p5 q1 q2 q3 q4 q5 : Pos} {u1 u2 : Nat}
theorem sd_pair (i : Nat) {j1 j2 : Int} {x : Str} (he : PDe X T Z W e f1) (hr : PDss X T Z W rest k1) (hK : X.K = T.K := by rfl) (hN : X.N[i]? = some x := by rfl) (hv : Vis X.env.scope x := by first | exact Or.inl rfl | exact Or.inr (Or.inl rfl) | exact Or.inr (Or.inr rfl)) (hd : (x == ("__debug__" : Str)) = false := by decide) (hcd : (x == ("__classdict__" : Str)) = false := by decide)
    (hs1 : swapsWith (.Call (.Attribute (.Subscript (.Name x p1) (.Constant (.int j1) u1 p2) p3) "clear" p4) [] [] p5) none pos.line X.env = pure false := by rfl)
    (hs2 : swapsWith (.Call (.Attribute (.Subscript (.Name x q1) (.Constant (.int j2) u2 q2) q3) "append" q4) [e] [] q5) none cpos.line X.env = pure false := by rfl)
    (hb1 : attributeBase (.Subscript (.Name x p1) (.Constant (.int j1) u1 p2) p3) "clear" X.env (eval (.Subscript (.Name x p1) (.Constant (.int j1) u1 p2) p3) X.env) = eval (.Subscript (.Name x p1) (.Constant (.int j1) u1 p2) p3) X.env := by rfl)
    (hb2 : attributeBase (.Subscript (.Name x q1) (.Constant (.int j2) u2 q2) q3) "append" X.env (eval (.Subscript (.Name x q1) (.Constant (.int j2) u2 q2) q3) X.env) = eval (.Subscript (.Name x q1) (.Constant (.int j2) u2 q2) q3) X.env := by rfl)
    (hl1 : (p4.endLine == p5.line) = true := by rfl) (hl2 : (q4.endLine == q5.line) = true := by rfl) (hst : starEach (e :: []) X.env = (false, eval e X.env) :: starEach [] X.env := by rfl)
    (hfew : ((backTo q5 (starEach [e] X.env)).all (fun x => !x.1) && (backToKw q5 (keywordEach [] X.env)).all (fun x => x.1.isSome)
      && decide (([e] : List Expr).length + ([] : List Keyword).length + (if ([] : List Keyword).isEmpty then 0 else 1) < 30)) = true := by rfl) :
    PDss X T Z W (.Expr (.Call (.Attribute (.Subscript (.Name x p1) (.Constant (.int j1) u1 p2) p3) "clear" p4) [] [] p5) pos :: .Expr (.Call (.Attribute (.Subscript (.Name x q1) (.Constant (.int j2) u2 q2) q3) "append" q4) [e] [] q5) cpos :: rest) (seqF (pairO i j1 j2 f1) k1) := by
  obtain ⟨t, pe, ev⟩ := he
  obtain ⟨u, pr, er⟩ := hr
  refine ⟨_, pss_cons (ps_expr (pe_bm0 PySem.F.plainAttrs_list PySem.F.slot_list_clear PySem.F.type_list_clear mt_clear (pe_ix ix_seq (pe_var hN hv hd hcd) pe_int (fun _ _ => rfl)) hb1 hl1) hs1)
    (pss_cons (ps_expr (pe_bm PySem.F.plainAttrs_list PySem.F.slot_list_append PySem.F.type_list_append mt_append (pe_ix ix_seq (pe_var hN hv hd hcd) pe_int (fun _ _ => rfl)) (pa_cons pe pa_nil hst) hb2 hfew hl2 hst rfl) hs2) pr), ?_⟩
  intro H0 A δ σ F fp H E s h
  unfold seqF pairO at h
  cases hi : δ[i]? with
  | none => rw [hi] at h; exact h.elim
  | some y =>
    rw [hi] at h
    match y, hi, h with
    | .dp (.lst ds), hi, h =>
      simp only at h
      cases h1 : itemD (.lst ds) j1 with
      | none => rw [h1] at h; exact h.elim
      | some d1 =>
        cases h2 : itemD (.lst ds) j2 with
        | none =>
          rw [h1, h2] at h
          cases d1 <;> exact h.elim
        | some d2 =>
          rw [h1, h2] at h
          match d1, d2, h1, h2, h with
          | .lst as, .lst bs, h1, h2, h =>
            simp only [pairB] at h
            split at h
            case isFalse => exact h.elim
            rename_i hc
            obtain ⟨c1, c2, na, c3⟩ := hc
            obtain ⟨_, e1, v, rfl, G, g1, g2, r⟩ := s.sl i _ hi
            rw [Rep] at r
            obtain ⟨q, vs, rfl, r1, r2⟩ := r
            obtain ⟨z1, a1, b1⟩ := atI_reps r2 h1
            obtain ⟨z2, a2, b2⟩ := atI_reps r2 h2
            rw [Rep] at b1 b2
            obtain ⟨w1, ws1, rfl, m1, n1⟩ := b1
            obtain ⟨w2, ws2, rfl, m2, n2⟩ := b2
            have nt : ∀ {xs : List V}, ¬ isTup (.lst xs) := fun ⟨_, z⟩ => nomatch z
            have f1' : fp i w1 := (g2 _ _ m1).resolve_left nt
            have f2' : fp i w2 := (g2 _ _ m2).resolve_left nt
            have q1n : q ≠ w1 := fun z => by
              rw [← z, r1] at m1
              cases m1
              rw [← z] at a1
              exact not_self r1 a1 n1 c1
            have q2n : q ≠ w2 := fun z => by
              rw [← z, r1] at m2
              cases m2
              rw [← z] at a2
              exact not_self r1 a2 n2 c2
            have s1 := s.forget i
            have na1 : noAn (δ.set i .un) = true := noAn_set na
            have own1 := s.own i w1 f1'
            have own2 := s.own i w2 f2'
            have nf : ∀ w, fp i w → ∀ j, ¬ (j ≠ i ∧ fp j w) := fun w hw j ⟨n, z⟩ => n (s.sep _ _ _ z hw)
            refine ⟨.ref q, e1, .inl ⟨q, vs, j1, .ref w1, rfl, rfl, SqL.of (g1 _ _ r1), a1, .inl ⟨rfl, ws1, SqL.of (g1 _ _ m1)⟩, w1, ws1, rfl, rfl, g1 _ _ m1, ?_⟩⟩
            have s2 := s1.poke (o := .lst []) na1 own1.1 own1.2.1 (nf w1 f1') (g1 _ _ m1) nt
            have k2 : ∃ xs, upd H w1 (.lst []) w2 = some (.lst xs) ∧ xs.length < sizeLine := by
              by_cases z : w2 = w1
              · rw [z]; exact ⟨[], upd_same, by show 0 < sizeLine; decide +kernel⟩
              · exact ⟨ws2, by rw [upd_ne z]; exact g1 _ _ m2, by rw [n2.length]; exact c3⟩
            obtain ⟨xs, k2, k3⟩ := k2
            refine ⟨.ref q, e1, .inl ⟨q, vs, j2, .ref w2, rfl, rfl, SqL.of (by rw [upd_ne q1n]; exact g1 _ _ r1), a2, .inl ⟨rfl, xs, SqL.of k2⟩, ?_⟩⟩
            refine ev H0 A _ σ F _ _ _ s2 ?_
            cases hf : f1 (δ.set i .un) with
            | no => rw [hf] at h; exact h.elim
            | er c => rw [hf] at h; exact fun F' H' g => h σ F' _ H' g.ff (s2.grow g)
            | ok d kd =>
              rw [hf] at h
              intro v F' H' g rv
              have s3 := s2.grow g
              refine ⟨w2, xs, v, rfl, rfl, g.hh _ _ k2, k3, ?_⟩
              have n3 : F' w2 = none := g.own own2.1 k2 nt
              have s4 := s3.poke (o := .lst (xs ++ [v])) na1 n3 own2.2.1 (nf w2 f2') (g.hh _ _ k2) nt
              exact er H0 A _ σ F' _ _ E s4 (PostS.later h g.ff)
end
end
end DD

set_option maxRecDepth 100000
namespace DD
noncomputable section
open PySem L2N
open L2 hiding XE Takes CX takes_of passes_call MkP PMk ps_raise mk_of ps_try_as pmk_own passAt HdsOk ps_try_many ps_try_only
/-! ### a < b < c < d -/
def tCh3 (r r' r2 : R2) (ta tb tc td : TE) : TE := fun σ H Q => ta σ H fun x H1 => tb σ H1 fun y H2 => r x y H2 fun z H3 => ∃ k, z = .bl k ∧
  (if k = true then tc σ H3 fun u H4 => r' y u H4 fun z2 H5 => ∃ k2, z2 = .bl k2 ∧ (if k2 = true then td σ H5 fun w H6 => r2 u w H6 Q else Q (.bl false) H5) else Q (.bl false) H3)
def chR3 (g' : D → D → Opt) (u : D) (r : Res) : Opt → Res
  | some (.bl true, .st) => bindR r fun w _ => optR (g' u w)
  | some (.bl false, .st) => .ok (.bl false) .st
  | _ => .no
def chM3 (g' g2 : D → D → Opt) (e : D) (f3 f4 : Dl → Res) (δ : Dl) : Opt → Res
  | some (.bl true, .st) => bindR (f3 δ) fun u _ => chR3 g2 u (f4 δ) (g' e u)
  | some (.bl false, .st) => .ok (.bl false) .st
  | _ => .no
def ch3R (g g' g2 : D → D → Opt) (f1 f2 f3 f4 : Dl → Res) : Dl → Res := fun δ => bindR (f1 δ) fun d _ => bindR (f2 δ) fun e _ => chM3 g' g2 e f3 f4 δ (g d e)
section
variable {X : Cx} {T : Par} {Z : Hd} {W : WX} {e o a b c d : Expr} {es : List Expr} {f1 f2 f3 f4 : Dl → Res} {fa : Dl → ResA} {k1 : Dl → Out} {pos apos cpos xpos : Pos}
section
variable {op op' op2 : CmpOp} {r r' r2 : R2} {ta tb tc td : TE}
theorem pe_ch3 (ho : OpR X (compareOp op) r) (ho' : OpR X (compareOp op') r') (ho2 : OpR X (compareOp op2) r2) (ha : PE X a ta) (hb : PE X b tb) (hc : PE X c tc) (hd : PE X d td)
    (hm : lastMarks [op, op', op2] [b, c, d] = false := by with_unfolding_all rfl) : PE X (.Compare a [op, op', op2] [b, c, d] pos) (tCh3 r r' r2 ta tb tc td) := by
  refine ⟨fun pins s σ H Q I h => PyProof.Rows.Compare_chain (thn (ha.run pins s σ H _ I h) ?_) hm⟩
  rintro v s1 ⟨x, H1, I1, r1, q1⟩
  refine PyProof.Rows.chain_link (thn (hb.run pins s1 σ H1 _ I1 q1) ?_)
  rintro u s2 ⟨y, H2, I2, ry, q2⟩
  refine thn (ho pins s2 σ H2 x y v u _ I2 r1 ry q2) ?_
  rintro dd s3 ⟨z, H3, I3, r3, k, e, q3⟩
  subst e
  cases r3
  refine wpAny_truthy_bool ?_
  cases k with
  | false => exact iteF ⟨.bl false, H3, I3, rfl, q3⟩
  | true =>
    refine iteT (PyProof.Rows.chain_link (thn (hc.run pins s3 σ H3 _ I3 q3) ?_))
    rintro u2 s4 ⟨y2, H4, I4, ry2, q4⟩
    refine thn (ho' pins s4 σ H4 y y2 u u2 _ I4 ry ry2 q4) ?_
    rintro dd2 s5 ⟨z2, H5, I5, r5, k2, e2, q5⟩
    subst e2
    cases r5
    refine wpAny_truthy_bool ?_
    cases k2 with
    | false => exact iteF ⟨.bl false, H5, I5, rfl, q5⟩
    | true => exact iteT (PyProof.Rows.chain_last (thn (hd.run pins s5 σ H5 _ I5 q5) fun w' s6 ⟨z', H6, I6, r6, q6⟩ => ho2 pins s6 σ H6 y2 z' u2 w' Q I6 ry2 r6 q6))
theorem pt_ch3 (ho : OpR X (compareOp op) r) (ho' : OpR X (compareOp op') r') (ho2 : OpR X (compareOp op2) r2) (ha : PE X a ta) (hb : PE X b tb) (hc : PE X c tc) (hd : PE X d td)
    (hm : lastMarks [op, op', op2] [b, c, d] = false := by with_unfolding_all rfl) : PT X (.Compare a [op, op', op2] [b, c, d] pos) (tTest (tCh3 r r' r2 ta tb tc td)) := by
  refine ⟨fun pins s σ H Q I h => PyProof.Rows.isTrue_chain (thn (ha.run pins s σ H _ I h) ?_) hm⟩
  rintro v s1 ⟨x, H1, I1, r1, q1⟩
  refine PyProof.Rows.test_link (thn (hb.run pins s1 σ H1 _ I1 q1) ?_)
  rintro u s2 ⟨y, H2, I2, ry, q2⟩
  refine thn (ho pins s2 σ H2 x y v u _ I2 r1 ry q2) ?_
  rintro dd s3 ⟨z, H3, I3, r3, k, e, q3⟩
  subst e
  cases r3
  refine wpAny_truthy_bool ?_
  cases k with
  | false =>
    obtain ⟨k', e', q'⟩ := q3
    cases e'
    exact iteF ⟨H3, I3, q'⟩
  | true =>
    refine iteT (PyProof.Rows.test_link (thn (hc.run pins s3 σ H3 _ I3 q3) ?_))
    rintro u2 s4 ⟨y2, H4, I4, ry2, q4⟩
    refine thn (ho' pins s4 σ H4 y y2 u u2 _ I4 ry ry2 q4) ?_
    rintro dd2 s5 ⟨z2, H5, I5, r5, k2, e2, q5⟩
    subst e2
    cases r5
    refine wpAny_truthy_bool ?_
    cases k2 with
    | false =>
      obtain ⟨k', e', q'⟩ := q5
      cases e'
      exact iteF ⟨H5, I5, q'⟩
    | true =>
      refine iteT (PyProof.Rows.test_last (thn (hd.run pins s5 σ H5 _ I5 q5) ?_))
      rintro w' s6 ⟨z', H6, I6, r6, q6⟩
      refine thn (ho2 pins s6 σ H6 y2 z' u2 w' _ I6 ry2 r6 q6) ?_
      rintro dd3 s7 ⟨z3, H7, I7, r7, k3, e3, q7⟩
      subst e3
      cases r7
      exact wpAny_truthy_bool ⟨H7, I7, q7⟩
end
theorem EvS.ch3 {r r' r2 : R2} {g g' g2 : D → D → Opt} {ta tb tc td : TE} (hr : OpS T r g) (hr' : OpS T r' g') (hr2 : OpS T r2 g2) (ea : EvS T Z W ta f1) (eb : EvS T Z W tb f2) (ec : EvS T Z W tc f3) (ed : EvS T Z W td f4) : EvS T Z W (tCh3 r r' r2 ta tb tc td) (ch3R g g' g2 f1 f2 f3 f4) := by
  intro H0 A δ σ F fp H Q s h
  unfold ch3R at h
  refine ea.then_ s h _ fun d k v F1 H1 _ g1 s1 r1 h1 => ?_
  refine eb.then_ s1 (h1.later g1) _ fun e k2 u F2 H2 _ g2' s2 q2 h2 => ?_
  have q := h2.later g2'
  have rv := (r1.rep s1.aH s1.fh).mono g2'.hh
  have ru := q2.rep s2.aH s2.fh
  refine hr A F2 H2 _ v u d e s2.aH s2.fh rv ru ?_
  unfold chM3 at q
  split at q
  · rename_i hg
    rw [hg]
    intro z F3 H3 g3 r3
    have rz : Rep T F3 z (.bl true) := r3
    rw [Rep] at rz
    refine ⟨true, rz, iteT ?_⟩
    have s3 := s2.grow g3
    refine ec.then_ s3 (q.later g3) _ fun e3 k3 w F4 H4 _ g4 s4 r4 h4 => ?_
    have q4 := h4.later g4
    have rw4 := r4.rep s4.aH s4.fh
    refine hr' A F4 H4 _ u w e e3 s4.aH s4.fh ((ru.mono g3.hh).mono g4.hh) rw4 ?_
    unfold chR3 at q4
    split at q4
    · rename_i hg2
      rw [hg2]
      intro z2 F5 H5 g5 r5
      have rz2 : Rep T F5 z2 (.bl true) := r5
      rw [Rep] at rz2
      refine ⟨true, rz2, iteT ?_⟩
      have s5 := s4.grow g5
      refine ed.then_ s5 (q4.later g5) _ fun e6 k6 w6 F6 H6 _ g6 s6 r6 h6 => ?_
      exact hr2 A F6 H6 Q w w6 e3 e6 s6.aH s6.fh ((rw4.mono g5.hh).mono g6.hh) (r6.rep s6.aH s6.fh) (h6.later g6).opt
    · rename_i hg2
      rw [hg2]
      intro z2 F5 H5 g5 r5
      have rz2 : Rep T F5 z2 (.bl false) := r5
      rw [Rep] at rz2
      refine ⟨false, rz2, iteF ?_⟩
      exact post_st (d := .bl false) g5.fh ((q4.later g5 : PostE T A F5 H5 W σ Q (optR (some (.bl false, .st)))).opt) rfl
    · exact q4.elim
  · rename_i hg
    rw [hg]
    intro z F3 H3 g3 r3
    have rz : Rep T F3 z (.bl false) := r3
    rw [Rep] at rz
    refine ⟨false, rz, iteF ?_⟩
    exact post_st (d := .bl false) g3.fh ((q.later g3 : PostE T A F3 H3 W σ Q (optR (some (.bl false, .st)))).opt) rfl
  · exact q.elim
section
variable {op op' op2 : CmpOp} {r r' r2 : R2} {g g' g2 : D → D → Opt}
theorem pd_chain3 (ho : OpR X (compareOp op) r) (hr : OpS T r g) (ho' : OpR X (compareOp op') r') (hr' : OpS T r' g') (ho2 : OpR X (compareOp op2) r2) (hr2 : OpS T r2 g2) (ha : PDe X T Z W a f1) (hb : PDe X T Z W b f2) (hc : PDe X T Z W c f3) (hd : PDe X T Z W d f4)
    (hm : lastMarks [op, op', op2] [b, c, d] = false := by with_unfolding_all rfl) : PDe X T Z W (.Compare a [op, op', op2] [b, c, d] pos) (ch3R g g' g2 f1 f2 f3 f4) := by
  obtain ⟨ta, pa, ea⟩ := ha
  obtain ⟨tb, pb, eb⟩ := hb
  obtain ⟨tc, pc, ec⟩ := hc
  obtain ⟨td, pd, ed⟩ := hd
  exact ⟨_, pe_ch3 ho ho' ho2 pa pb pc pd hm, EvS.ch3 hr hr' hr2 ea eb ec ed⟩
theorem td_chain3 (ho : OpR X (compareOp op) r) (hr : OpS T r g) (ho' : OpR X (compareOp op') r') (hr' : OpS T r' g') (ho2 : OpR X (compareOp op2) r2) (hr2 : OpS T r2 g2) (ha : PDe X T Z W a f1) (hb : PDe X T Z W b f2) (hc : PDe X T Z W c f3) (hd : PDe X T Z W d f4)
    (hm : lastMarks [op, op', op2] [b, c, d] = false := by with_unfolding_all rfl) : PDt X T Z W (.Compare a [op, op', op2] [b, c, d] pos) (tstR (ch3R g g' g2 f1 f2 f3 f4)) := by
  obtain ⟨ta, pa, ea⟩ := ha
  obtain ⟨tb, pb, eb⟩ := hb
  obtain ⟨tc, pc, ec⟩ := hc
  obtain ⟨td, pd, ed⟩ := hd
  exact ⟨_, pt_ch3 ho ho' ho2 pa pb pc pd hm, (EvS.ch3 hr hr' hr2 ea eb ec ed).tst⟩
end
end
end
end DD

set_option maxRecDepth 100000
namespace DD
noncomputable section
open PySem L2N
open L2 hiding XE Takes CX takes_of passes_call MkP PMk ps_raise mk_of ps_try_as pmk_own passAt HdsOk ps_try_many ps_try_only
def clrO (i : Nat) : Dl → Out := fun δ => match δ[i]? with
  | some (.ow (.lst _)) => if noAn δ = true then .nx (δ.set i (.ow (.lst []))) else .no
  | _ => .no
def extA (i : Nat) (ds : List D) (δ : Dl) : Res → Out
  | .ok (.lst es) _ => if imms es = true ∧ ds.length + es.length ≤ sizeLine ∧ noAn δ = true then .nx (δ.set i (.ow (.lst (ds ++ es)))) else .no
  | .er c => .er c δ
  | _ => .no
def extO (i : Nat) (f : Dl → Res) : Dl → Out := fun δ => match δ[i]? with
  | some (.ow (.lst ds)) => extA i ds δ (f δ)
  | _ => .no
def gDGet2 (d e u : D) : Opt := match dgetB d e with
  | some (some s) => some (scD s)
  | some none => (match flatV? u with
    | some _ => some (u, .st)
    | none => none)
  | none => none
def dg2R (f1 f2 f3 : Dl → Res) : Dl → Res := fun δ => bindR (f1 δ) fun d _ => if isDic d = true then bindR (f2 δ) fun e _ => bindR (f3 δ) fun u _ => optR (gDGet2 d e u) else .no
def rng3A (i j : Int) : Res → ItR
  | .ok (.int c) _ => if smallR i = true ∧ smallR j = true ∧ c = -1 then .ok (rng i (-1) (i - j).toNat) .st else .no
  | .er c => .er c
  | _ => .no
def rng3I (f g h : Dl → Res) : Dl → ItR := fun δ => match f δ with
  | .ok (.int i) _ => (match g δ with
    | .ok (.int j) _ => rng3A i j (h δ)
    | .er c => .er c
    | _ => .no)
  | .er c => .er c
  | _ => .no
theorem flatD_of {d : D} {w : V} (h : flatV? d = some w) : flatD w = some d := by
  cases d <;> first | (cases h; done) | (cases h; rfl)
theorem its_rngC {lo c : Int} {T : Par} {n : Nat} : ItS T (Itc lo c n) noH (rng lo c n) := by
  refine ⟨fun i H _ hi => ?_, fun i H x H' _ y => ⟨y.1, fun d e => ?_⟩, fun i H _ hi => ?_⟩
  · show i < n
    simpa [rng] using hi
  · have := y.2
    subst this
    simp only [rng, List.getElem?_map, Option.map_eq_some_iff] at e
    obtain ⟨j, e1, e2⟩ := e
    obtain ⟨e3, e4⟩ := List.getElem?_eq_some_iff.mp e1
    simp at e4
    subst e4 e2
    rw [Rep]
  · show n ≤ i
    simpa [rng] using hi
section
variable {X : Cx} {T : Par} {Z : Hd} {W : WX} {e o a b c d : Expr} {es : List Expr} {f1 f2 f3 f4 : Dl → Res} {fa : Dl → ResA} {k1 : Dl → Out} {pos apos cpos xpos p : Pos} {x : Str} {tg : Expr}
theorem sd_clear (i : Nat) (hN : X.N[i]? = some x := by rfl) (hv : Vis X.env.scope x := by first | exact Or.inl rfl | exact Or.inr (Or.inl rfl) | exact Or.inr (Or.inr rfl)) (hd : (x == ("__debug__" : Str)) = false := by decide) (hcd : (x == ("__classdict__" : Str)) = false := by decide)
    (hs : swapsWith (.Call (.Attribute (.Name x xpos) "clear" apos) [] [] cpos) none pos.line X.env = pure false := by rfl)
    (hb : attributeBase (.Name x xpos) "clear" X.env (eval (.Name x xpos) X.env) = eval (.Name x xpos) X.env := by rfl) (hl : (apos.endLine == cpos.line) = true := by rfl) :
    PDs X T Z W (.Expr (.Call (.Attribute (.Name x xpos) "clear" apos) [] [] cpos) pos) (clrO i) := by
  refine ⟨_, ps_expr (pe_bm0 PySem.F.plainAttrs_list PySem.F.slot_list_clear PySem.F.type_list_clear mt_clear (pe_var hN hv hd hcd) hb hl) hs, ?_⟩
  intro H0 A δ σ F fp H E s h
  unfold clrO at h
  cases hi : δ[i]? with
  | none => rw [hi] at h; exact h.elim
  | some y =>
    rw [hi] at h
    match y, hi, h with
    | .ow (.lst ds), hi, h =>
      simp only at h
      split at h
      case isFalse => exact h.elim
      rename_i na
      obtain ⟨q, e1, hf, vs, hp, r⟩ := s.ow hi
      refine ⟨.ref q, e1, .inl ⟨rfl, vs, SqL.of hp⟩, q, vs, rfl, rfl, hp, ?_⟩
      exact h σ F fp _ (Same.refl _) (s.write na (List.getElem?_eq_some_iff.mp hi).1 e1 hf ⟨[], upd_same, by simp [Reps]⟩)
theorem sd_extend (i : Nat) (he : PDe X T Z W e f1) (hN : X.N[i]? = some x := by rfl) (hv : Vis X.env.scope x := by first | exact Or.inl rfl | exact Or.inr (Or.inl rfl) | exact Or.inr (Or.inr rfl)) (hd : (x == ("__debug__" : Str)) = false := by decide) (hcd : (x == ("__classdict__" : Str)) = false := by decide)
    (hs : swapsWith (.Call (.Attribute (.Name x xpos) "extend" apos) [e] [] cpos) none pos.line X.env = pure false := by rfl)
    (hbase : attributeBase (.Name x xpos) "extend" X.env (eval (.Name x xpos) X.env) = eval (.Name x xpos) X.env := by rfl)
    (hfew : ((backTo cpos (starEach [e] X.env)).all (fun x => !x.1) && (backToKw cpos (keywordEach [] X.env)).all (fun x => x.1.isSome)
      && decide (([e] : List Expr).length + ([] : List Keyword).length + (if ([] : List Keyword).isEmpty then 0 else 1) < 30)) = true := by rfl)
    (hline : (apos.endLine == cpos.line) = true := by rfl) (hst : starEach (e :: []) X.env = (false, eval e X.env) :: starEach [] X.env := by rfl) :
    PDs X T Z W (.Expr (.Call (.Attribute (.Name x xpos) "extend" apos) [e] [] cpos) pos) (extO i f1) := by
  obtain ⟨t, pe, ev⟩ := he
  refine ⟨_, ps_expr (pe_bm PySem.F.plainAttrs_list PySem.F.slot_list_extend PySem.F.type_list_extend mt_extend (pe_var hN hv hd hcd) (pa_cons pe pa_nil hst) hbase hfew hline hst rfl) hs, ?_⟩
  intro H0 A δ σ F fp H E s h
  unfold extO at h
  cases hi : δ[i]? with
  | none => rw [hi] at h; exact h.elim
  | some y =>
    rw [hi] at h
    match y, hi, h with
    | .ow (.lst ds), hi, h =>
      simp only at h
      obtain ⟨q, e1, hf, vs, hp, r⟩ := s.ow hi
      refine ⟨.ref q, e1, .inl ⟨rfl, vs, SqL.of hp⟩, ?_⟩
      refine ev H0 A δ σ F fp H _ s ?_
      cases hfe : f1 δ with
      | no => rw [hfe] at h; exact h.elim
      | er c => rw [hfe] at h; exact PostE.ofS h s
      | ok d k =>
        rw [hfe] at h
        cases d with
        | lst es =>
          simp only [extA] at h
          split at h
          case isFalse => exact h.elim
          rename_i hk
          intro v F' H' g r'
          have s' := s.grow g
          have rv := r'.rep s'.aH s'.fh
          rw [Rep] at rv
          obtain ⟨bq, zs, rfl, hb, rz⟩ := rv
          have gt := Grow.tups s'.fh
          have s2 := s'.grow gt
          have rz2 := (Reps.imm hk.1 rz).mono (hun_r s'.fh (tuF_same H'))
          refine ⟨q, bq, vs, zs, rfl, rfl, g.hh _ _ hp, hb, by rw [r.length, rz.length]; exact hk.2.1, ?_⟩
          refine h σ _ fp _ (g.ff.trans gt.ff) (s2.write hk.2.2 (List.getElem?_eq_some_iff.mp hi).1 e1 hf ⟨_, upd_same, ((r.mono g.ff).mono gt.ff).append rz2⟩)
        | _ => exact h.elim
theorem pd_dget2 (hu : X.A.units + 1 < cLine) (ha : PDe X T Z W a f1) (hb : PDe X T Z W b f2) (hc : PDe X T Z W c f3) (m : M2 X a "get" apos b c cpos) : PDe X T Z W (.Call (.Attribute a "get" apos) [b, c] [] cpos) (dg2R f1 f2 f3) := by
  obtain ⟨ta, pa, ea⟩ := ha
  obtain ⟨tb, pb, eb⟩ := hb
  obtain ⟨tc, pc, ec⟩ := hc
  refine ⟨_, pe_dget2 hu pa pb pc m, ?_⟩
  intro H0 A δ σ F fp H Q s h
  unfold dg2R at h
  refine ea.then_ s h _ fun d k v F1 H1 hf g1 s1 r1 h1 => ?_
  have rv := r1.rep s1.aH s1.fh
  split at h1
  case isFalse => exact h1.elim
  rename_i hd
  have hp : ∃ p, v = .ref p ∧ IsD H1 p := by
    cases d with
    | dt kvs =>
      rw [Rep] at rv
      obtain ⟨p, rfl, e1⟩ := rv
      exact ⟨p, rfl, .inr ⟨_, .inl e1⟩⟩
    | dk kvs =>
      rw [Rep] at rv
      obtain ⟨p, rfl, e1⟩ := rv
      exact ⟨p, rfl, .inl ⟨_, .inl e1⟩⟩
    | _ => cases hd
  obtain ⟨p, rfl, hp⟩ := hp
  refine ⟨p, rfl, hp, ?_⟩
  refine eb.then_ s1 (h1.later g1) _ fun e k2 u F2 H2 _ g2 s2 r2 h2 => ?_
  refine ec.then_ s2 (h2.later g2) _ fun u3 k3 z F3 H3 _ g3 s3 r3 h3 => ?_
  have q := (h3.later g3).opt
  unfold gDGet2 at q
  cases hb : dgetB d e with
  | none => rw [hb] at q; exact q.elim
  | some r =>
    rw [hb] at q
    obtain ⟨p', e0, q1, _⟩ := dgetB_rule ((rv.mono g2.hh).mono g3.hh) ((r2.rep s2.aH s2.fh).mono g3.hh) hb
    cases e0
    refine ⟨_, q1, ?_⟩
    cases r with
    | some z => exact post_st s3.fh q (sc_flat z)
    | none =>
      simp only at q
      cases hw : flatV? u3 with
      | none => rw [hw] at q; exact q.elim
      | some w =>
        rw [hw] at q
        have := rep_flat (r3.rep s3.aH s3.fh) hw
        subst this
        exact post_st s3.fh q (flatD_of hw)
theorem id_range3 (ha : PDe X T Z W a f1) (hb : PDe X T Z W b f2) (hc : PDe X T Z W c f3) (hm : X.mg "range" = none) (hg : Gl X "range" := by rfl) (hs : starEach [a, b, c] X.env = (false, eval a X.env) :: starEach [b, c] X.env := by rfl) (hs2 : starEach [b, c] X.env = (false, eval b X.env) :: starEach [c] X.env := by rfl) (hs3 : starEach [c] X.env = (false, eval c X.env) :: starEach [] X.env := by rfl) (hpl : (backTo pos (starEach [b, c] X.env)).any (·.1) = false := by rfl) :
    PDi X T Z W tg (.Call (.Name "range" p) [a, b, c] [] pos) (rng3I f1 f2 f3) := by
  obtain ⟨t, pe, ev⟩ := ha
  obtain ⟨u, pe2, ev2⟩ := hb
  obtain ⟨u3, pe3, ev3⟩ := hc
  refine ⟨_, pi_range3 hg hm (pa_cons pe (pa_cons pe2 (pa_cons pe3 pa_nil hs3) hs2) hs) hs hpl, ?_⟩
  intro H0 A δ σ F fp H R s h
  refine ev H0 A δ σ F fp H _ s ?_
  unfold rng3I at h
  cases hf : f1 δ with
  | no => rw [hf] at h; exact h.elim
  | er c => rw [hf] at h; exact h
  | ok d k =>
    rw [hf] at h
    cases d with
    | int i =>
      intro v F' H' g r
      have s1 := s.grow g
      have rv := r.rep s1.aH s1.fh
      rw [Rep] at rv
      subst rv
      simp only at h
      refine ev2 H0 A δ σ F' fp H' _ s1 ?_
      cases hf2 : f2 δ with
      | no => rw [hf2] at h; exact h.elim
      | er c => rw [hf2] at h; exact fun F2 H2 g2 => h F2 H2 (g.trans g2)
      | ok d2 k2 =>
        rw [hf2] at h
        cases d2 with
        | int j =>
          intro w F2 H2 g2 r2
          have s2 := s1.grow g2
          have rw' := r2.rep s2.aH s2.fh
          rw [Rep] at rw'
          subst rw'
          simp only at h
          refine ev3 H0 A δ σ F2 fp H2 _ s2 ?_
          cases hf3 : f3 δ with
          | no => rw [hf3] at h; exact h.elim
          | er c => rw [hf3] at h; exact fun F3 H3 g3 => h F3 H3 ((g.trans g2).trans g3)
          | ok d3 k3 =>
            rw [hf3] at h
            cases d3 with
            | int c3 =>
              intro w3 F3 H3 g3 r3
              have s3 := s2.grow g3
              have rw3 := r3.rep s3.aH s3.fh
              rw [Rep] at rw3
              subst rw3
              simp only [rng3A] at h
              split at h
              · rename_i hj
                obtain ⟨h1, h2, rfl⟩ := hj
                simp only [smallR, Bool.and_eq_true, decide_eq_true_eq] at h1 h2
                exact ⟨i, j, -1, _, rfl, RgC.neg h1.1 h1.2 h2.1 h2.2, h _ noH F3 H3 ((g.trans g2).trans g3) noH_same noH_same its_rngC⟩
              · exact h.elim
            | _ => exact h.elim
        | _ => exact h.elim
    | _ => exact h.elim
end
/-! ### xs.index(s) -/
def gIndex (d e : D) : Opt := match d, e with
  | .lst ds, .str s => (strsD ds).bind fun ss => (ss.findIdx? fun z => decide (z = s)).map fun j => (.int (j : Nat), .st)
  | _, _ => none
def isLst : D → Bool
  | .lst _ => true
  | _ => false
def indexR (f1 f2 : Dl → Res) : Dl → Res := fun δ => bindR (f1 δ) fun d _ => if isLst d = true then bindR (f2 δ) fun e _ => optR (gIndex d e) else .no
section
variable {X : Cx} {T : Par} {Z : Hd} {W : WX} {e o : Expr} {f1 f2 : Dl → Res} {pos apos cpos : Pos}
theorem pd_index (ho : PDe X T Z W o f1) (he : PDe X T Z W e f2) (hK : X.K = T.K := by rfl)
    (hbase : attributeBase o "index" X.env (eval o X.env) = eval o X.env := by rfl)
    (hfew : ((backTo cpos (starEach [e] X.env)).all (fun x => !x.1) && (backToKw cpos (keywordEach [] X.env)).all (fun x => x.1.isSome)
      && decide (([e] : List Expr).length + ([] : List Keyword).length + (if ([] : List Keyword).isEmpty then 0 else 1) < 30)) = true := by rfl)
    (hline : (apos.endLine == cpos.line) = true := by rfl) (hst : starEach (e :: []) X.env = (false, eval e X.env) :: starEach [] X.env := by rfl) : PDe X T Z W (.Call (.Attribute o "index" apos) [e] [] cpos) (indexR f1 f2) := by
  obtain ⟨to, po, eo⟩ := ho
  obtain ⟨t, pe, ev⟩ := he
  refine ⟨_, pe_bm PySem.F.plainAttrs_list PySem.F.slot_list_index PySem.F.type_list_index mt_index po (pa_cons pe pa_nil hst) hbase hfew hline hst rfl, ?_⟩
  rw [hK]
  intro H0 A δ σ F fp H Q s h
  unfold indexR at h
  refine eo.then_ s h _ fun d k v F1 H1 _ g1 s1 r1 h1 => ?_
  have rv := r1.rep s1.aH s1.fh
  -- the list
  have isl : ∀ ds, d = .lst ds → ∃ q vs, v = .ref q ∧ H1 q = some (.lst vs) ∧ Reps T H1 vs ds := fun ds e => by subst e; rw [Rep] at rv; exact rv
  cases d with
  | lst ds =>
    obtain ⟨q, vs, rfl, m1, m2⟩ := isl ds rfl
    rw [if_pos (show isLst (.lst ds) = true from rfl)] at h1
    refine ⟨.inl ⟨rfl, vs, SqL.of m1⟩, ?_⟩
    refine ev.then_ s1 (h1.later g1) _ fun e k2 u F2 H2 _ g2 s2 r2 h2 => ?_
    have qq := (h2.later g2).opt
    have ru := r2.rep s2.aH s2.fh
    cases e with
    | str z =>
      rw [Rep] at ru
      subst ru
      simp only [gIndex] at qq
      cases h3 : strsD ds with
      | none => rw [h3] at qq; exact qq.elim
      | some ss =>
        rw [h3] at qq
        simp only [Option.bind_some] at qq
        cases h4 : ss.findIdx? (fun y => decide (y = z)) with
        | none => rw [h4] at qq; exact qq.elim
        | some j =>
          rw [h4] at qq
          have e1 := strsD_eq h3
          subst e1
          have e2 := m2.strs
          subst e2
          obtain ⟨hj, p1, p2⟩ := List.findIdx?_eq_some_iff_getElem.mp h4
          refine ⟨q, _, .str z, j, .str ss[j], rfl, rfl, SqL.of (g2.hh _ _ m1), rfl, ?_, ?_, ?_, ?_, ?_⟩
          · rw [List.all_map]
            rw [List.all_eq_true]
            intro y _
            rfl
          · rw [List.getElem?_map, List.getElem?_eq_getElem hj]; rfl
          · show (ss[j] == z) = true
            simpa using p1
          · intro m z' hm hz
            rw [List.getElem?_map, List.getElem?_eq_getElem (by omega)] at hz
            cases hz
            show (ss[m] == z) = false
            simpa using p2 m hm
          · exact post_st s2.fh qq rfl
    | _ => exact qq.elim
  | _ => exact h1.elim
end
end
end DD

set_option maxRecDepth 100000
/-! len(set(xs)) of a list of texts; a dict display with one pair; x[k].append(k) for each k -/
namespace DD
noncomputable section
open PySem in
/-- what is new among the first i texts -/
def newS (val : Nat → Str) : Nat → List Str
  | 0 => []
  | i + 1 => if val i ∈ newS val i then newS val i else newS val i ++ [val i]
open PySem in
theorem newS_succ (val : Nat → Str) (i : Nat) : newS val (i + 1) = if val i ∈ newS val i then newS val i else newS val i ++ [val i] := rfl
open PySem in
theorem newS_le (val : Nat → Str) : ∀ i, (newS val i).length ≤ i
  | 0 => Nat.le_refl _
  | i + 1 => by
    have ih := newS_le val i
    unfold newS
    split
    · omega
    · rw [List.length_append]; simp; omega
section
open PySem PySem.Spec PyProof.Rows
variable {prog : Program} {w : World} {A : Around}
theorem fillS {R : Result → Shared → Prop} {it : Addr} {fp wr : List Addr} {n : Nat}
    {G : Array GenState → Array GenState → Prop} {P : Nat → Value → Prop} {St : Nat → Shared → Prop}
    (Wk : WalksS prog w A.in1 it fp wr G n P St) (D : Addr) (out : D ∉ fp) (val : Nat → Str)
    (vals : ∀ i v, P i v → ∃ t, v = .str (val i) t) (room : n + 1 < scanBound) (d : Nat) :
    ∀ (i : Nat) (s : Shared), i + d = n → St i s →
      s.heap.SetOf (PySem.strKind prog w) D (fun z => decide (z ∈ newS val i)) (newS val i).length →
      (∀ s2, Moved (D :: wr) G s s2 → s2.heap.SetOf (PySem.strKind prog w) D (fun z => decide (z ∈ newS val n)) (newS val n).length → R (.ok (.ret .none)) s2) →
      codeAny (model prog w) A (.builtin "set.update.loop" ⟨[.ref D, .ref it], []⟩) R s := by
  have outW : D ∉ wr := fun h => out (Wk.sub _ h)
  have more : ∀ b, b ∈ wr → b ∈ D :: wr := fun b h => .tail _ h
  have stays : ∀ {s s1 : Shared} {S : Str → Bool} {m : Nat}, Moved wr G s s1 → s.heap.SetOf (PySem.strKind prog w) D S m → s1.heap.SetOf (PySem.strKind prog w) D S m :=
    fun mv ⟨o, es, ep, t, ho, rest⟩ => ⟨o, es, ep, t, mv.heap D _ outW ho, rest⟩
  induction d with
  | zero =>
    intro i s e st hS fin
    have e : i = n := by omega
    subst e
    refine codeAny_builtin PyProof.Rows.F.entry_set_update_loop ?_
    rw [Around.under_plainId PyProof.Rows.F.plain_set_update_loop _]
    refine wpAny_bind (Wk.done s _ _ st fun s1 mv => ?_)
    exact wpAny_pure (fin s1 (mv.mono more) (stays mv hS))
  | succ d ih =>
    intro i s e st hS fin
    have lt : i < n := by omega
    refine codeAny_builtin PyProof.Rows.F.entry_set_update_loop ?_
    rw [Around.under_plainId PyProof.Rows.F.plain_set_update_loop _]
    refine wpAny_bind (Wk.item i s _ _ lt st fun v s1 hv st1 mv => ?_)
    obtain ⟨t, rfl⟩ := vals i v hv
    refine wpAny_bind (wpAny_holding ?_)
    unfold setAdd
    refine wpAny_holding (wpAny_bind ((PySem.strKind prog w).pyHash (k := val i) (strKind_is _ _ _ _) ?_))
    have hS1 := stays mv hS
    have rm : (newS val i).length + 1 < scanBound := Nat.lt_of_le_of_lt (Nat.succ_le_succ (Nat.le_trans (newS_le val i) (Nat.le_of_lt lt))) room
    refine wpAny_setAddHashed_of (knd := PySem.strKind prog w) (s := { s1 with toks := s1.toks + 1 }) (strKind_is _ _ _ _) rfl hS1 rm fun h2 same hS2 => ?_
    have next : h2.SetOf (PySem.strKind prog w) D (fun z => decide (z ∈ newS val (i + 1))) (newS val (i + 1)).length := by
      refine SetOf_congr hS2 (fun z => ?_) ?_
      · rw [newS_succ]
        by_cases q : val i ∈ newS val i
        · rw [if_pos q]
          by_cases z1 : z = val i
          · subst z1; simp [q]
          · simp [z1]
        · rw [if_neg q]
          simp only [List.mem_append, List.mem_singleton, Bool.decide_or]
      · rw [newS_succ]
        by_cases q : val i ∈ newS val i
        · rw [if_pos q]; simp [q]
        · rw [if_neg q]; simp [q]
    refine wpAny_pure ⟨plainId_quiet PyProof.Rows.F.plain_set_update_loop _, ih (i + 1) _ (by omega) (Wk.frame _ s1 _ _ st1 (Nat.le_succ _) fun b hb o e2 => ?_) next fun s3 mv3 hS3 => ?_⟩
    · have : b ≠ D := fun z => out (z ▸ hb)
      rw [same.2 b this]; exact e2
    · refine fin s3 (Moved.trans Wk.gtrans ((mv.mono more).then_heap (Nat.le_succ _) fun b o hb e2 => ?_) mv3) hS3
      have : b ≠ D := fun z => hb (z ▸ List.mem_cons_self)
      rw [same.2 b this]; exact e2
variable {E : Value → Shared → Prop} {s : Shared}
local macro_rules | `(tactic| walk_at "go") => `(tactic| repeat (any_goals (first | assumption | wp_step)))
/-- a new set with nothing in it -/
abbrev so (led : Bool) : Obj := { cls := .type "set", dict := none, data := .set #[] 0 (.fresh 0 0 led) }
set_option maxHeartbeats 3200000 in
theorem callSetS {l : Addr} {its : Array Value} {xs : List Str} {Q : Value → Shared → Prop} (hh : A.handled = none)
    (hl : s.heap.IsList l its) (hi : PyProof.Rows.StrsAre its.toList xs) (few : its.size + 1 < scanBound)
    (h : ∀ (h2 : Heap) (tk : Nat), h2.SetOf (PySem.strKind prog w) s.heap.objs.size (fun z => decide (z ∈ newS (fun i => xs.getD i Str.empty) its.size)) (newS (fun i => xs.getD i Str.empty) its.size).length →
      (∀ b o, b < s.heap.objs.size → s.heap.get? b = some o → h2.get? b = some o) → Q (.ref s.heap.objs.size) { s with heap := h2, toks := tk }) :
    wpAny (model prog w) A (call (.type "set") [.ref l]) Q E s := by
  have ⟨c, tl, mro⟩ := PySem.F.called_set.mro
  have made := PySem.F.called_set.made
  have sub := PySem.F.called_set.sub
  have t1 := PySem.F.called_set.notType
  have t2 := PySem.F.called_set.canCreate
  have t3 := PySem.F.typeCall_set_1 (.ref l)
  refine wpAny_call (codeAny_of_tree ?_)
  refine wpAny_pure ⟨Code.quiet_builtin _ (by decide +kernel), codeAny_builtin PySem.F.entry_type_call ?_⟩
  rw [Around.under_plain (weight_type_call_type "set" [.ref l] []) rfl]
  walk_at "go"
  refine codeAny_mono (code_set_new_1 (.ref l) (E := E) (Q₁ := fun v s2 => ∃ led : Bool, v = .ref s.heap.objs.size ∧ s2 = { s with heap := s.heap.push (so led) }) fun led => ⟨led, rfl, rfl⟩) fun r s2 hr => ?_
  cases r with
  | error e => exact hr
  | ok fl =>
    cases fl with
    | ret v =>
      obtain ⟨led, rfl, rfl⟩ := hr
      have hS : (s.heap.push (so led)).get? s.heap.objs.size = some (so led) := Heap.get?_push_size _ rfl
      have hT : Shared.TypeIs { s with heap := s.heap.push (so led) } (.ref s.heap.objs.size) "set" := ⟨_, hS, rfl⟩
      have il := PySem.F.called_set.init.lookup
      have ib := PySem.F.called_set.init.bind (.ref s.heap.objs.size)
      walk_at "go"
      refine codeAny_mono (codeAny_call_builtin (R := wants (fun r s3 => r = .none ∧ ∃ h2 tk, s3 = { s with heap := h2, toks := tk } ∧
          h2.SetOf (PySem.strKind prog w) s.heap.objs.size (fun z => decide (z ∈ newS (fun i => xs.getD i Str.empty) its.size)) (newS (fun i => xs.getD i Str.empty) its.size).length ∧
          (∀ b o, b < s.heap.objs.size → s.heap.get? b = some o → h2.get? b = some o)) E) PySem.F.called_set.init.plain PySem.F.entry_set_init (check_set_init_1 hT ?_)) fun q s3 hq => ?_
      · obtain ⟨⟨lc, ld, lo, ls⟩, hol, c1, nl, c2⟩ := hl
        simp only at c1 c2
        subst c1
        subst c2
        have hol2 : (s.heap.push (so led)).get? l = some { cls := .type "list", dict := ld, data := .seq its nl, slots := ls } := Heap.get?_push_of_some _ hol
        have u1 := PySem.F.sub_list_set
        have u2 := PySem.F.sub_list_frozenset
        have u3 : (Value.type "list" == Value.type "dict") = false := by decide
        have isl : (s.heap.push (so led)).IsList l its := ⟨_, hol2, rfl, nl, rfl⟩
        unfold Builtin.«set.__init__» noKeywords
        unfold Builtin.Frozenset.updateFrom
        generalize hPI : pyIter = PI
        wp_walk
        subst hPI
        refine wpAny_pyIter_list isl ?_
        refine wpAny_bind (wpAny_runValue ?_)
        have lS : l < s.heap.objs.size := Heap.lt_size hol
        have big : (s.heap.push (so led)).objs.size = s.heap.objs.size + 1 := Heap.size_push ..
        have neI : l ≠ (s.heap.push (so led)).objs.size := by rw [big]; exact Nat.ne_of_lt (Nat.lt_succ_of_lt lS)
        have outF : s.heap.objs.size ∉ [(s.heap.push (so led)).objs.size, l] := by
          rw [big]
          simp only [List.mem_cons, List.not_mem_nil, or_false, not_or]
          exact ⟨Nat.ne_of_lt (Nat.lt_succ_self _), Nat.ne_of_gt lS⟩
        have vals : ∀ (i : Nat) (v : Value), its[i]? = some v → ∃ t, v = .str (xs.getD i Str.empty) t :=
          fun i v hv => SS.strs_at hi i v (by rw [Array.getElem?_toList]; exact hv)
        have h3 : A.in1.in1.in1.handled = none := by simp [hh]
        refine fillS ((Walks.list h3 _ l neI its).toS) s.heap.objs.size outF (fun i => xs.getD i Str.empty) vals few its.size 0 _ (by omega)
          ⟨⟨_, Heap.get?_push_size _ rfl, rfl, rfl⟩, (isl.push _)⟩ ?hA0 ?hB0
        case hA0 =>
          have g : ((s.heap.push (so led)).push { cls := .type "list_iterator", data := .fields #[.ref l, .int 0 0] }).get? s.heap.objs.size = some (so led) := Heap.get?_push_of_some _ hS
          exact PyProof.Rows.SetOf_congr ((PyProof.Rows.setObjOf_fresh (knd := PySem.strKind prog w) led).setOf g (by unfold scanBound; omega)) (fun _ => by simp [newS]) rfl
        case hB0 =>
          rintro ⟨h2, g2, d2, k2, o2⟩ mv hS2
          have e1 : g2 = s.gens := mv.gens
          have e2 : d2 = s.drawn := mv.drawn
          have e3 : o2 = s.os := mv.os
          subst e1 e2 e3
          refine wpAny_pure ?_
          show wpAny _ _ (ret Value.none) _ _ _
          refine wpAny_pure ⟨rfl, h2, k2, rfl, hS2, fun b o hb e => mv.heap b o ?_ (Heap.get?_push_of_some _ (Heap.get?_push_of_some _ e))⟩
          rw [big]
          simp only [List.mem_cons, List.not_mem_nil, or_false, not_or]
          exact ⟨Nat.ne_of_lt hb, Nat.ne_of_lt (Nat.lt_succ_of_lt hb)⟩
      · cases q with
        | error e => exact hq
        | ok f2 =>
          cases f2 with
          | ret r =>
            obtain ⟨rfl, h2, tk, rfl, hS2, kp⟩ := hq
            walk_at "go"
            exact h _ _ hS2 kp
          | _ => exact hq.elim
    | _ => exact hr.elim
end
section
open PySem L2N
open L2 hiding XE Takes CX takes_of passes_call MkP PMk ps_raise mk_of ps_try_as pmk_own passAt HdsOk ps_try_many ps_try_only
open PySem.Spec PyProof.Rows
variable {X : Cx}
/-- len(set(xs)), xs a list of texts -/
def tLSet (K : PySem.W.Frag) (ta : TE) : TE := fun σ H Q => ta σ H fun x H1 => ∃ (l : Addr) (xs : List Str), x = .ref l ∧ SqL K H1 l (xs.map V.str) ∧ xs.length ≤ 60 ∧ Q (.int (newS (fun i => xs.getD i Str.empty) xs.length).length) H1
theorem pe_lSet {a : Expr} {ta : TE} {p p2 q pos : Pos} (hc : X.calm = true) (hg : Gl X "len") (hm : X.mg "len" = none) (hg2 : Gl X "set") (hm2 : X.mg "set" = none)
    (ha : PE X a ta) (na : starEach [a] X.env = (false, eval a X.env) :: starEach [] X.env := by rfl) :
    PE X (.Call (.Name "len" p) [.Call (.Name "set" p2) [a] [] q] [] pos) (tLSet X.K ta) := by
  refine ⟨fun pins s σ H Q I h => Call_ (ld_blt I hg hm PySem.boot_len ?_)⟩
  refine PyProof.Rows.callWith_builtin1 (PyProof.Rows.args_cons (Call_ (ld_blt I hg2 hm2 PyProof.Rows.boot_set ?_)) rfl) rfl rfl
  refine PyProof.Rows.callWith_type1 (PyProof.Rows.args_cons (thn (ha.run pins s σ H _ I h) fun v s1 ⟨x, H1, I1, r1, w1⟩ => PyProof.Rows.args_nil ?_) na) na rfl
  obtain ⟨l, xs, rfl, hq, few, w1⟩ := w1
  cases r1
  obtain ⟨its, r, pl, hz⟩ := I1.list hq
  have hl : its.toArray.size = xs.length := by
    rw [List.size_toArray, ← r.length, List.length_map]
  refine callSetS (I1.ok.hd hc) pl.isList (by simpa using strsAre_of r) (by rw [hl]; unfold scanBound; omega) fun h2 tk hS hk => ?_
  rw [hl] at hS
  refine PyProof.Rows.args_nil ?_
  have le := newS_le (fun i => xs.getD i Str.empty) xs.length
  obtain ⟨o, es, ep, t, ho, hex, hd, _, _, _, hf, hn⟩ := hS
  have I2 : Inv X pins σ H1 { s1 with heap := h2, toks := tk } := I1.kept fun b o e => hk b o (Heap.lt_size e) e
  exact call_len_set ho hex hd hf (by rw [hn]; omega) ⟨.int (newS (fun i => xs.getD i Str.empty) xs.length).length, H1, I2.tok _, ⟨_, by rw [hn]⟩, w1⟩
end
section
open PySem L2N
open L2 hiding XE Takes CX takes_of passes_call MkP PMk ps_raise mk_of ps_try_as pmk_own passAt HdsOk ps_try_many ps_try_only
variable {X : Cx} {T : Par} {Z : Hd} {W : WX} {e a b c o : Expr} {f1 f2 f3 : Dl → Res} {p p2 q pos : Pos}
def lenS (d : D) : Opt := match d with
  | .lst ds => (strsD ds).bind fun xs => if xs.length ≤ 60 then some (.int (newS (fun i => xs.getD i Str.empty) xs.length).length, .st) else none
  | _ => none
def lenSetR (f : Dl → Res) : Dl → Res := unR lenS f
theorem pd_lenSet (ha : PDe X T Z W a f1) (hm : X.mg "len" = none) (hm2 : X.mg "set" = none) (hc : X.calm = true := by rfl) (hK : X.K = T.K := by rfl) (hg : Gl X "len" := by rfl) (hg2 : Gl X "set" := by rfl)
    (na : starEach [a] X.env = (false, eval a X.env) :: starEach [] X.env := by rfl) : PDe X T Z W (.Call (.Name "len" p) [.Call (.Name "set" p2) [a] [] q] [] pos) (lenSetR f1) := by
  obtain ⟨ta, pa, ea⟩ := ha
  refine ⟨_, pe_lSet hc hg hm hg2 hm2 pa na, ?_⟩
  rw [hK]
  intro H0 A δ σ F fp H Q s h
  unfold lenSetR unR at h
  refine ea.then_ s h _ fun d k v F1 H1 hf g1 s1 r1 h1 => ?_
  have rv := r1.rep s1.aH s1.fh
  have qq := (h1.later g1).opt
  cases d with
  | lst ds =>
    rw [Rep] at rv
    obtain ⟨l, vs, rfl, e1, e2⟩ := rv
    simp only [lenS] at qq
    cases h3 : strsD ds with
    | none => rw [h3] at qq; exact qq.elim
    | some xs =>
      rw [h3] at qq
      have e3 := strsD_eq h3
      subst e3
      have e4 := e2.strs
      subst e4
      simp only [Option.bind_some] at qq
      split at qq
      · rename_i few
        exact ⟨l, xs, rfl, SqL.of e1, few, post_st s1.fh qq rfl⟩
      · exact qq.elim
  | _ => exact qq.elim
end
end
end DD

set_option maxRecDepth 100000
/-! a dict display with one pair; x[k].append(k) for each k -/
namespace DD
noncomputable section
open PySem L2N
open L2 hiding XE Takes CX takes_of passes_call MkP PMk ps_raise mk_of ps_try_as pmk_own passAt HdsOk ps_try_many ps_try_only
def dispA (r1 r2 : Res) : Res := match r1 with
  | .ok d _ => (match r2 with
    | .ok e _ => (match keyD d with
      | some k => (match scOf e with
        | some v => .ok (.dk [(k, v)]) .tp
        | none => .no)
      | none => .no)
    | .er c => .er c
    | .no => .no)
  | .er c => .er c
  | .no => .no
def disp1R (f1 f2 : Dl → Res) : Dl → Res := fun δ => dispA (f1 δ) (f2 δ)
section
variable {X : Cx} {T : Par} {Z : Hd} {W : WX} {e a b c o : Expr} {f1 f2 f3 : Dl → Res} {fi : Dl → ItR} {pos p1 p2 p3 p4 p5 p6 tpos : Pos} {iter : Expr}
theorem pd_disp1 (ha : PDe X T Z W a f1) (hb : PDe X T Z W b f2) : PDe X T Z W (.Dict [some a] [b] pos) (disp1R f1 f2) := by
  obtain ⟨ta, pa, ea⟩ := ha
  obtain ⟨tb, pb, eb⟩ := hb
  refine ⟨_, pe_disp (pps_cons pa pb pps_nil) rfl rfl (by simp) (by simp), ?_⟩
  intro H0 A δ σ F fp H Q s h
  unfold disp1R at h
  intro p hp
  have g0 : Grow F H F (upd H p (.dK [])) := Grow.cell s.fh hp
  have s0 := s.grow g0
  refine ea H0 A δ σ F fp _ _ s0 ?_
  cases hf1 : f1 δ with
  | no => rw [hf1] at h; exact h.elim
  | er c => rw [hf1] at h; exact fun F' H' g => h F' H' (g0.trans g)
  | ok d k =>
    rw [hf1] at h
    intro x F1 H1 g1 r1
    have s1 := s0.grow g1
    refine eb H0 A δ σ F1 fp H1 _ s1 ?_
    cases hf2 : f2 δ with
    | no => rw [hf2] at h; exact h.elim
    | er c => rw [hf2] at h; exact fun F' H' g => h F' H' ((g0.trans g1).trans g)
    | ok e k2 =>
      rw [hf2] at h
      intro y F2 H2 g2 r2
      have s2 := s1.grow g2
      have rx := (r1.rep s1.aH s1.fh).mono g2.hh
      have ry := r2.rep s2.aH s2.fh
      simp only [dispA] at h
      cases hk : keyD d with
      | none => rw [hk] at h; exact h.elim
      | some ky =>
        rw [hk] at h
        simp only at h
        cases hv : scOf e with
        | none => rw [hv] at h; exact h.elim
        | some v =>
          rw [hv] at h
          have g12 := g1.trans g2
          have hpp : H2 p = some (.dK []) := g12.hh _ _ upd_same
          have ex := keyD_rep rx hk
          have ey : y = v.v := by
            cases e with
            | bl b => cases hv; rw [Rep] at ry; exact ry
            | int b => cases hv; rw [Rep] at ry; exact ry
            | _ => cases hv
          have nt : ¬ isTup (.dK []) := fun ⟨_, z⟩ => nomatch z
          have Fp : F2 p = none := g12.own (s.fh.free hp) upd_same nt
          refine ⟨hpp, [(ky, v.v)], by rw [ex, ey]; rfl, by simp, ?_⟩
          refine h (.ref p) F2 _ ⟨g12.ff, fun q u z => ?_, fun q u z => ?_, fun q u z => ?_⟩ ⟨p, rfl, Fp, hp, ?_⟩
          · have hq : q ≠ p := fun w => by rw [w, hp] at z; cases z
            rw [upd_ne hq]
            exact g12.hh _ _ (by rw [upd_ne hq]; exact z)
          · have hq : q ≠ p := fun w => by rw [w, Fp] at z; cases z
            rw [upd_ne hq]
            exact s2.fh _ _ z
          · rcases g12.nw q u z with w | w | w
            · exact .inl w
            · refine .inr (.inl ?_)
              by_cases hq : q = p
              · rw [hq] at w; rw [upd_same] at w; cases w
              · rwa [upd_ne hq] at w
            · exact .inr (.inr w)
          · show upd H2 p _ p = _
            rw [upd_same]
            rfl
end
/-! for k in range(len(x)): x[k].append(k) -/
def elOk : D → Bool
  | .lst as => imms as && decide (as.length ≤ 1000)
  | _ => false
open Classical in
def fapA (ix ik : Nat) (ds : List D) (δ : Dl) : ItR → Out
  | .ok items k => if k = .st ∧ items = rng 0 1 ds.length ∧ ds.all elOk = true ∧ noAn δ = true ∧ ds.length ≤ 1000 ∧ ik < δ.length then .nx ((δ.set ix .un).set ik .un) else .no
  | _ => .no
def fapO (ix ik : Nat) (fi : Dl → ItR) : Dl → Out := fun δ => match δ[ix]? with
  | some (.dp (.lst ds)) => fapA ix ik ds δ (fi δ)
  | _ => .no
theorem noAn_un {δ : Dl} {i : Nat} (h : noAn δ = true) : noAn (δ.set i .un) = true := noAn_set h
theorem sz_1000 {n : Nat} (h : n ≤ 2000) : n < sizeLine := Nat.lt_of_le_of_lt h (by decide +kernel)
theorem sd_fap {X : Cx} {T : Par} {Z : Hd} {W : WX} {fi : Dl → ItR} {pos pos2 p1 p2 p3 p4 p5 p6 tpos : Pos} {iter : Expr} {x y : Str} (ix ik : Nat)
    (hp : PassesOwn (model X.prog X.w) X.A X.env X.xe) (hN : X.N.Nodup) (hi : PDi X T Z W (.Name y tpos) iter fi) (hne : ix ≠ ik := by decide)
    (hNx : X.N[ix]? = some x := by rfl) (hvx : Vis X.env.scope x := by first | exact Or.inl rfl | exact Or.inr (Or.inl rfl) | exact Or.inr (Or.inr rfl))
    (hNy : X.N[ik]? = some y := by rfl) (hvy : Vis X.env.scope y := by first | exact Or.inl rfl | exact Or.inr (Or.inl rfl) | exact Or.inr (Or.inr rfl))
    (hd : (x == ("__debug__" : Str)) = false := by decide) (hcd : (x == ("__classdict__" : Str)) = false := by decide) (hdy : (y == ("__debug__" : Str)) = false := by decide) (hcdy : (y == ("__classdict__" : Str)) = false := by decide)
    (hl : Loc X.env.scope y := by first | exact Or.inl rfl | exact Or.inr rfl) (hc : X.calm = true := by rfl)
    (hf : X.fn y = true ∨ X.env.scope.names.lookup y = some .local := by first | exact .inl rfl | exact .inr rfl) (hs : ∀ z, foldedSetIterable iter X.env z = pure z := by intro _; rfl)
    (hsx : PlainIx (.Name y p2) := by exact fun _ _ => rfl)
    (hs2 : swapsWith (.Call (.Attribute (.Subscript (.Name x p1) (.Name y p2) p3) "append" p4) [.Name y p6] [] p5) none pos2.line X.env = pure false := by rfl)
    (hb2 : attributeBase (.Subscript (.Name x p1) (.Name y p2) p3) "append" X.env (eval (.Subscript (.Name x p1) (.Name y p2) p3) X.env) = eval (.Subscript (.Name x p1) (.Name y p2) p3) X.env := by rfl)
    (hl2 : (p4.endLine == p5.line) = true := by rfl) (hst : starEach (.Name y p6 :: []) X.env = (false, eval (.Name y p6) X.env) :: starEach [] X.env := by rfl)
    (hfew : ((backTo p5 (starEach [.Name y p6] X.env)).all (fun x => !x.1) && (backToKw p5 (keywordEach [] X.env)).all (fun x => x.1.isSome)
      && decide (([.Name y p6] : List Expr).length + ([] : List Keyword).length + (if ([] : List Keyword).isEmpty then 0 else 1) < 30)) = true := by rfl) :
    PDs X T Z W (.For (.Name y tpos) iter [.Expr (.Call (.Attribute (.Subscript (.Name x p1) (.Name y p2) p3) "append" p4) [.Name y p6] [] p5) pos2] [] pos) (fapO ix ik fi) := by
  obtain ⟨wi, pi, ei⟩ := hi
  refine ⟨_, ps_for hp hc pi (pg_name hN hNy hl hf) (pss_one (ps_expr (pe_bm PySem.F.plainAttrs_list PySem.F.slot_list_append PySem.F.type_list_append mt_append
    (pe_ix ix_seq (pe_var hNx hvx hd hcd) (pe_var hNy hvy hdy hcdy) hsx) (pa_cons (pe_var hNy hvy hdy hcdy) pa_nil hst) hb2 hfew hl2 hst rfl) hs2)) hs, ?_⟩
  intro H0 A δ σ F fp H E s h
  unfold fapO at h
  cases hix : δ[ix]? with
  | none => rw [hix] at h; exact h.elim
  | some sl =>
    rw [hix] at h
    match sl, hix, h with
    | .dp (.lst ds), hix, h =>
      simp only at h
      refine ei H0 A δ σ F fp H _ s ?_
      cases hfi : fi δ with
      | no => rw [hfi] at h; exact h.elim
      | er c => rw [hfi] at h; exact h.elim
      | ok items k =>
        rw [hfi] at h
        simp only [fapA] at h
        split at h
        case isFalse => exact h.elim
        rename_i hcc
        obtain ⟨rfl, hit, hel, na, hlen, hik⟩ := hcc
        intro J B F1 H1 g1 hB hb its
        have s1 := s.grow g1
        obtain ⟨_, e1, v, rfl, G, gg1, gg2, r⟩ := s1.sl ix _ hix
        rw [Rep] at r
        obtain ⟨q, vs, rfl, m1, m2⟩ := r
        have nt : ∀ {xs : List V}, ¬ isTup (.lst xs) := fun ⟨_, z⟩ => nomatch z
        have hlv := m2.length
        have els : ∀ (i : Nat) (v : V), vs[i]? = some v → ∃ w ws, v = V.ref w ∧ H1 w = some (.lst ws) ∧ ws.length ≤ 1000 ∧ w ≠ q ∧ fp ix w := by
          intro i v hv
          obtain ⟨d, hd1, hd2⟩ := m2.getV hv
          have hq : elOk d = true := by
            rw [List.all_eq_true] at hel
            exact hel d (List.mem_of_getElem? hd1)
          cases d with
          | lst as =>
            simp only [elOk, Bool.and_eq_true, decide_eq_true_eq] at hq
            rw [Rep] at hd2
            obtain ⟨w, ws, rfl, z1, z2⟩ := hd2
            refine ⟨w, ws, rfl, gg1 _ _ z1, by rw [z2.length]; exact hq.2, ?_, (gg2 _ _ z1).resolve_left nt⟩
            intro wq
            subst wq
            rw [m1] at z1
            cases z1
            have hi' : i < vs.length := (List.getElem?_eq_some_iff.mp hv).1
            refine not_self (j := (i : Int)) m1 ?_ z2 hq.1
            unfold atI ixN
            rw [if_pos (by omega), if_pos (by omega)]
            exact hv
          | _ => cases hq
        have sf := (s1.forget ix).forget ik
        refine ⟨fun j m σ2 H2 => m = ds.length - j ∧ j ≤ ds.length ∧ ∃ F2 fp2, SR T Z H0 A ((δ.set ix .un).set ik .un) σ2 F2 fp2 H2 ∧ Same F1 F2 ∧ σ2[ix]? = some (some (.ref q)) ∧ H2 q = some (.lst vs) ∧
            (∀ (i : Nat) (v : V), vs[i]? = some v → ∃ w ws, v = V.ref w ∧ H2 w = some (.lst ws) ∧ ws.length ≤ 1000 + j ∧ w ≠ q ∧ F2 w = none ∧ H0 w = none ∧ ∀ jj, ¬ fp2 jj w),
          ⟨ds.length, by omega, Nat.zero_le _, F1, _, sf, Same.refl _, e1, gg1 _ _ m1, fun i v hv => ?_⟩, ?_⟩
        · obtain ⟨w, ws, z1, z2, z3, z4, z5⟩ := els i v hv
          have ow := s1.own ix w z5
          exact ⟨w, ws, z1, z2, z3, z4, ow.1, ow.2.1, fun jj ⟨n1, n2, z⟩ => n2 (s1.sep _ _ _ z z5)⟩
        · rintro j m σ2 H2 ⟨rfl, hj, F2, fp2, s2, e2, hq1, hq2, hw⟩
          have hBH : Same B H2 := (Same.trans hb e2).trans s2.fh
          have nit : items.length = ds.length := by rw [hit]; simp [rng]
          by_cases hlt : j < ds.length
          · refine .inr ⟨its.go j H2 hBH (by omega), fun σ3 H3 => ∃ F2 fp2, SR T Z H0 A ((δ.set ix .un).set ik .un) σ3 F2 fp2 H3 ∧ Same F1 F2 ∧ σ3[ix]? = some (some (.ref q)) ∧ H3 q = some (.lst vs) ∧
                (∀ (i : Nat) (v : V), vs[i]? = some v → ∃ w ws, v = V.ref w ∧ H3 w = some (.lst ws) ∧ ws.length ≤ 1000 + (j + 1) ∧ w ≠ q ∧ F2 w = none ∧ H0 w = none ∧ ∀ jj, ¬ fp2 jj w),
              fun σ3 H3 z => ⟨ds.length - (j + 1), by omega, rfl, hlt, z⟩, fun x H3 yl => ?_⟩
            obtain ⟨eH, eR⟩ := its.yld j H2 x H3 hBH yl
            subst eH
            have hji : items[j]? = some (.int (j : Int)) := by
              rw [hit]
              simp only [rng, List.getElem?_map, List.getElem?_range hlt, Option.map_some]
              congr 2
              omega
            have rx := eR _ hji
            rw [Rep] at rx
            subst rx
            have s3 := (s2.setSh ik (v := .int (j : Int)) (x := .sh (.int (j : Int))) ⟨_, rfl, by rw [Rep]⟩).forget ik
            rw [List.set_set, List.set_set] at s3
            have hjv : j < vs.length := by omega
            obtain ⟨w, ws, z1, z2, z3, z4, z5, z6, z7⟩ := hw j _ (List.getElem?_eq_getElem hjv)
            have eik : (σ2.set ik (some (.int (j : Int))))[ik]? = some (some (.int (j : Int))) := by
              have hlk : ik < σ2.length := by
                rw [s2.len, List.length_set, List.length_set]
                exact hik
              rw [List.getElem?_set_self hlk]
            have eix : (σ2.set ik (some (.int (j : Int))))[ix]? = some (some (.ref q)) := by
              rw [List.getElem?_set_ne (Ne.symm hne)]; exact hq1
            refine ⟨.ref q, eix, .int j, eik, .inl ⟨q, vs, j, .ref w, rfl, rfl, SqL.of hq2, ?_, .inl ⟨rfl, ws, SqL.of z2⟩, .int j, eik, w, ws, .int j, rfl, rfl, z2, sz_1000 (by omega), ?_⟩⟩
            · unfold atI ixN
              rw [if_pos (by omega), if_pos (by omega), ← z1]
              exact List.getElem?_eq_getElem hjv
            · have s4 := s3.poke (o := .lst (ws ++ [.int j])) (noAn_un (noAn_un na)) z5 z6 (fun jj ⟨n1, z⟩ => by
                have z : (if jj = ik then fun _ => False else fp2 jj) w := z
                rw [if_neg n1] at z
                exact z7 jj z) z2 nt
              refine ⟨F2, _, s4, e2, eix, by rw [upd_ne z4.symm]; exact hq2, fun i v hv => ?_⟩
              obtain ⟨w', ws', y1, y2, y3, y4, y5, y6, y7⟩ := hw i v hv
              have y7' : ∀ jj, ¬ (jj ≠ ik ∧ (if jj = ik then fun _ => False else fp2 jj) w') := fun jj ⟨n1, z⟩ => by
                rw [if_neg n1] at z
                exact y7 jj z
              by_cases hww : w' = w
              · subst hww
                rw [z2] at y2
                cases y2
                exact ⟨w', _, y1, upd_same, by rw [List.length_append]; simp; omega, y4, y5, y6, y7'⟩
              · exact ⟨w', ws', y1, by rw [upd_ne hww]; exact y2, by omega, y4, y5, y6, y7'⟩
          · have e : j = ds.length := by omega
            subst e
            refine .inl ⟨its.stop _ H2 hBH (by omega), ?_⟩
            exact h σ2 F2 fp2 H2 (g1.ff.trans e2) s2
end
end DD

set_option maxRecDepth 100000
/-! pairs of whole numbers: (a, b) <= (c, d) -/
namespace DD
noncomputable section
open PySem L2N
open L2 hiding XE Takes CX takes_of passes_call MkP PMk ps_raise mk_of ps_try_as pmk_own passAt HdsOk ps_try_many ps_try_only
/-- a value behind a door: the kernel does not look through it -/
def sealF {α : Type} (a : α) : α := Classical.choose (⟨a, rfl⟩ : ∃ b : α, b = a)
theorem e_seal {α : Type} (a : α) : sealF a = a := Classical.choose_spec (⟨a, rfl⟩ : ∃ b : α, b = a)
def gLeT : D → D → Opt
  | .tup [.int a, .int b], .tup [.int c, .int d] => some (.bl (if a = c then decide (b ≤ d) else decide (a ≤ c)), .st)
  | _, _ => none
theorem rep_pair {T : Par} {H : Hp} {x : V} {a b : Int} (h : Rep T H x (.tup [.int a, .int b])) : ∃ q, x = .ref q ∧ SqT T.K H q (([a, b] : List Int).map V.int) := by
  rw [Rep] at h
  obtain ⟨q, vs, rfl, h1, h2⟩ := h
  have e := Reps.ints (ns := [a, b]) h2
  rw [e] at h1
  exact ⟨q, rfl, SqT.of h1⟩
theorem os_leT {T : Par} : OpS T (rLeT T.K) gLeT := by
  intro A F H Q x y d e hA hF rx ry h
  unfold gLeT at h
  split at h
  · rename_i a b c d
    obtain ⟨p, rfl, h1⟩ := rep_pair rx
    obtain ⟨q, rfl, h2⟩ := rep_pair ry
    refine ⟨p, q, [a, b], [c, d], rfl, rfl, h1, h2, ?_⟩
    have e : Ob.lexAt (fun j => decide (([a, b] : List Int).getD j 0 = ([c, d] : List Int).getD j 0)) (fun j => decide (([a, b] : List Int).getD j 0 ≤ ([c, d] : List Int).getD j 0)) (decide (([a, b] : List Int).length ≤ ([c, d] : List Int).length)) 0 (min ([a, b] : List Int).length ([c, d] : List Int).length) = (if a = c then decide (b ≤ d) else decide (a ≤ c)) := by
      show Ob.lexAt _ _ _ 0 2 = _
      simp only [Ob.lexAt]
      by_cases h1 : a = c
      · by_cases h2 : b = d
        · simp [h1, h2]
        · simp [h1, h2]
      · simp [h1]
    rw [e]
    exact post_st hF h rfl
  · exact h.elim
section
variable {X : Cx} {T : Par} {Z : Hd} {W : WX} {a b : Expr} {f1 f2 : Dl → Res} {pos : Pos}
theorem pd_leT (hu : X.A.units + 1 < cLine) (ha : PDe X T Z W a f1) (hb : PDe X T Z W b f2) (hK : X.K = T.K := by rfl) : PDe X T Z W (.Compare a [.LtE] [b] pos) (opR gLeT f1 f2) := by
  refine pd_cmp (r := rLeT T.K) ?_ os_leT ha hb (nobehind _ (by decide) (by decide))
  rw [← hK]
  exact op_leT (Nat.lt_of_succ_lt hu)
theorem td_leT (hu : X.A.units + 1 < cLine) (ha : PDe X T Z W a f1) (hb : PDe X T Z W b f2) (hK : X.K = T.K := by rfl) : PDt X T Z W (.Compare a [.LtE] [b] pos) (tstR (opR gLeT f1 f2)) := by
  refine td_cmp (r := rLeT T.K) ?_ os_leT ha hb (nobehind _ (by decide) (by decide))
  rw [← hK]
  exact op_leT (Nat.lt_of_succ_lt hu)
end
end
end DD

set_option maxRecDepth 100000
set_option maxHeartbeats 2000000
namespace DD
noncomputable section
open PySem PySem.Spec PyProof.Rows L2N HotX
open L2 hiding XE Takes CX takes_of passes_call MkP PMk ps_raise mk_of ps_try_as pmk_own passAt HdsOk ps_try_many ps_try_only

/-! ### an iterator ends while an exception is handled -/
section
variable {prog : Program} {w : World} {A : Around} {E : Value → Shared → Prop} {s : Shared}
/-- StopIteration is raised while x1 is handled -/
theorem stop_raise {α : Type} {x1 : Addr} {Q : α → Shared → Prop} (hot : HotAt A x1 s.heap)
    (fin : ∀ g e, (∀ b o, s.heap.get? b = some o → g.get? b = some o) → ({ s with heap := g } : Shared).TypeIs (.ref e) "StopIteration" → E (.ref e) { s with heap := g }) :
    wpAny (model prog w) A (newExc (.type "StopIteration") [] >>= fun v => (raiseNew v : Sem α)) Q E s := by
  obtain ⟨hh, ox, fx, gx, dx, cx⟩ := hot
  refine wpAny_bind ?_; simp only [newExc, newTuple]
  refine wpAny_bind (wpAny_newObj_type (wpAny_bind (m := firstArgMember _ _) (wpAny_of_eq (a := Value.none) (by first | rfl | (simp only [firstArgMember]; rfl)) (wpAny_newObj_type ?_ (by size_fits)))) (by size_fits))
  have up : ∀ {b o}, s.heap.get? b = some o → ((s.heap.push { cls := .type "tuple", data := .seq ([] : List Value).toArray }).push { cls := .type "StopIteration", data := .fields #[Value.ref s.heap.objs.size, .none, .none, .none, .none] }).get? b = some o → True := fun _ _ => trivial
  refine raiseNew_hot (x1 := x1) ⟨hh, ox, fx, Heap.get?_push_of_some _ (Heap.get?_push_of_some _ gx), dx, cx⟩ (Nat.ne_of_lt (Heap.lt_size (Heap.get?_push_of_some _ gx))) (Heap.get?_push_size _ rfl) rfl (by first | (simp; done) | (simp; omega) | (simp only [Array.size_append]; simp; omega)) (fin _ _ (fun b o e => ?_) ⟨_, Heap.get?_update_self _ (Heap.get?_push_size _ rfl) rfl, rfl⟩)
  rw [Heap.get?_update_other _ _ (Nat.ne_of_gt (Heap.lt_size (Heap.get?_push_of_some _ e)))]; exact Heap.get?_push_of_some _ (Heap.get?_push_of_some _ e)
/-- the handled exception is no iterator of two fields -/
theorem hot_keep {x1 it : Addr} {o : Obj} {a b : Value} {f : Obj → Obj} (hot : HotAt A x1 s.heap) (ho : s.heap.get? it = some o) (hd : o.data = .fields #[a, b]) : HotAt A x1 (s.heap.update it f) := by
  obtain ⟨hh, ox, fx, gx, dx, cx⟩ := hot
  refine ⟨hh, ox, fx, ?_, dx, cx⟩
  rw [Heap.get?_update_other _ _ fun z => ?_]; exact gx
  rw [z, gx] at ho; cases ho
  rw [dx] at hd; cases hd
  simp at cx
theorem next_ascii_hot {it x1 : Addr} {x : Str} {t : Tok} {i : Nat} {Q : Option Value → Shared → Prop} (hot : HotAt A x1 s.heap) (st : s.heap.IsStrIter it "str_ascii_iterator" x t i) (no : x.cps[i]? = none)
    (q : ∀ g, (∀ b o, b ≠ it → s.heap.get? b = some o → g.get? b = some o) → Q none { s with heap := g }) : wpAny (model prog w) A (pyNext (.ref it)) Q E s := by
  obtain ⟨o, ho, hc, hd⟩ := id st
  unfold pyNext; refine wpAny_bind (wpAny_attempt (wpAny_callSpecial?_slot (name := Str.ofString "__next__") st.typeIs F.slot_str_ascii_iterator_next (wpAny_call_entry F.slot_str_ascii_iterator_next st.typeIs F.entry_str_ascii_iterator_next ?_ (F.args_str_ascii_iterator_next_1 _))))
  show wpAny _ _ (field (.ref it) 0 >>= _) _ _ _; refine wpAny_bind (wpAny_field ho hd (x := .str x t) rfl ?_)
  show wpAny _ _ (field (.ref it) 1 >>= _) _ _ _; refine wpAny_bind (wpAny_field ho hd (x := .int i 0) rfl ?_)
  simp only [Int.toNat_natCast, no]; refine wpAny_bind (wpAny_rule (wpAny_bind (wpAny_setField ho hd (by simp) (wpAny_bind (wpAny_letGo ?_)))))
  refine stop_raise (x1 := x1) (hot_keep hot ho hd) fun g e k ty => ?_
  refine wpAny_bind (wpAny_isInstance (b := true) ty isSubtype_stop (wpAny_pure (q g fun b o nb eb => k b o ?_)))
  rw [Heap.get?_update_other _ _ (Ne.symm nb)]; exact eb
theorem next_wide_hot {it x1 : Addr} {x : Str} {t : Tok} {i : Nat} {Q : Option Value → Shared → Prop} (hot : HotAt A x1 s.heap) (st : s.heap.IsStrIter it "str_iterator" x t i) (no : x.cps[i]? = none)
    (q : ∀ g, (∀ b o, b ≠ it → s.heap.get? b = some o → g.get? b = some o) → Q none { s with heap := g }) : wpAny (model prog w) A (pyNext (.ref it)) Q E s := by
  obtain ⟨o, ho, hc, hd⟩ := id st
  unfold pyNext; refine wpAny_bind (wpAny_attempt (wpAny_callSpecial?_slot (name := Str.ofString "__next__") st.typeIs F.slot_str_iterator_next (wpAny_call_entry F.slot_str_iterator_next st.typeIs F.entry_str_iterator_next ?_ (F.args_str_iterator_next_1 _))))
  show wpAny _ _ (field (.ref it) 0 >>= _) _ _ _; refine wpAny_bind (wpAny_field ho hd (x := .str x t) rfl ?_)
  show wpAny _ _ (field (.ref it) 1 >>= _) _ _ _; refine wpAny_bind (wpAny_field ho hd (x := .int i 0) rfl ?_)
  simp only [Int.toNat_natCast, no]; refine wpAny_bind (wpAny_rule (wpAny_bind (wpAny_setField ho hd (by simp) (wpAny_bind (wpAny_letGo ?_)))))
  refine stop_raise (x1 := x1) (hot_keep hot ho hd) fun g e k ty => ?_
  refine wpAny_bind (wpAny_isInstance (b := true) ty isSubtype_stop (wpAny_pure (q g fun b o nb eb => k b o ?_)))
  rw [Heap.get?_update_other _ _ (Ne.symm nb)]; exact eb
theorem next_list_hot {it x1 l : Addr} {i : Nat} {items} {Q : Option Value → Shared → Prop} (hot : HotAt A x1 s.heap) (st : s.heap.IsListIter it l i) (hl : s.heap.IsList l items) (no : items[i]? = none)
    (q : ∀ g, (∀ b o, b ≠ it → s.heap.get? b = some o → g.get? b = some o) → Q none { s with heap := g }) : wpAny (model prog w) A (pyNext (.ref it)) Q E s := by
  obtain ⟨o, ho, hc, hd⟩ := id st
  obtain ⟨ol, hol, _, nl, hdl⟩ := hl
  unfold pyNext; refine wpAny_bind (wpAny_attempt (wpAny_callSpecial?_slot (name := Str.ofString "__next__") st.typeIs slot_listiter_next (wpAny_call_entry slot_listiter_next st.typeIs entry_listiter_next ?_ (args_listiter_next _))))
  show wpAny _ _ (field (.ref it) 0 >>= _) _ _ _; refine wpAny_bind (wpAny_field ho hd (x := .ref l) rfl ?_)
  show wpAny _ _ (if (Value.ref l == Value.none) = true then _ else _) _ _ _; rw [if_neg (show ¬ ((Value.ref l == Value.none) = true) from Bool.false_ne_true)]
  show wpAny _ _ (field (.ref it) 1 >>= _) _ _ _; refine wpAny_bind (wpAny_field ho hd (x := .int i 0) rfl ?_)
  show wpAny _ _ (seqItems? (.ref l) >>= _) _ _ _; refine wpAny_bind (wpAny_seqItems hol hdl ?_)
  simp only [Int.toNat_natCast, no]; refine wpAny_bind (wpAny_rule (wpAny_bind (wpAny_setField ho hd (by simp) ?_)))
  refine stop_raise (x1 := x1) (hot_keep hot ho hd) fun g e k ty => ?_
  refine wpAny_bind (wpAny_isInstance (b := true) ty isSubtype_stop (wpAny_pure (q g fun b o nb eb => k b o ?_)))
  rw [Heap.get?_update_other _ _ (Ne.symm nb)]; exact eb
theorem next_tup_hot {it x1 l : Addr} {i : Nat} {items} {Q : Option Value → Shared → Prop} (hot : HotAt A x1 s.heap) (st : s.heap.IsTupleIter it l i) (hl : s.heap.IsTuple l items) (no : items[i]? = none)
    (q : ∀ g, (∀ b o, b ≠ it → s.heap.get? b = some o → g.get? b = some o) → Q none { s with heap := g }) : wpAny (model prog w) A (pyNext (.ref it)) Q E s := by
  obtain ⟨o, ho, hc, hd⟩ := id st
  obtain ⟨ol, hol, _, nl, hdl⟩ := hl
  unfold pyNext; refine wpAny_bind (wpAny_attempt (wpAny_callSpecial?_slot (name := Str.ofString "__next__") st.typeIs F.slot_tuple_iterator_next (wpAny_call_entry F.slot_tuple_iterator_next st.typeIs F.entry_tuple_iterator_next ?_ (F.args_tuple_iterator_next_1 _))))
  show wpAny _ _ (field (.ref it) 0 >>= _) _ _ _; refine wpAny_bind (wpAny_field ho hd (x := .ref l) rfl ?_)
  show wpAny _ _ (if (Value.ref l == Value.none) = true then _ else _) _ _ _; rw [if_neg (show ¬ ((Value.ref l == Value.none) = true) from Bool.false_ne_true)]
  show wpAny _ _ (field (.ref it) 1 >>= _) _ _ _; refine wpAny_bind (wpAny_field ho hd (x := .int i 0) rfl ?_)
  show wpAny _ _ (seqItems? (.ref l) >>= _) _ _ _; refine wpAny_bind (wpAny_seqItems hol hdl ?_)
  simp only [Int.toNat_natCast, no]; refine wpAny_bind (wpAny_rule (wpAny_bind (wpAny_setField ho hd (by simp) ?_)))
  refine stop_raise (x1 := x1) (hot_keep hot ho hd) fun g e k ty => ?_
  refine wpAny_bind (wpAny_isInstance (b := true) ty isSubtype_stop (wpAny_pure (q g fun b o nb eb => k b o ?_)))
  rw [Heap.get?_update_other _ _ (Ne.symm nb)]; exact eb
end
end
end DD

set_option maxRecDepth 100000
set_option maxHeartbeats 2000000
namespace DD
noncomputable section
open PySem PySem.Spec PyProof.Rows L2N HotX
open L2 hiding XE Takes CX takes_of passes_call MkP PMk ps_raise mk_of ps_try_as pmk_own passAt HdsOk ps_try_many ps_try_only
open L2H (TurnH PIEH PIH HotC)

/-! ### what is walked while an exception is handled -/
theorem turnS_hot {P : Program} {w : World} {K : PySem.W.Frag} {tg : Expr} (it : Addr) (x : Str) (t : Tok) (ty : String) (hty : ty = "str_ascii_iterator" ∨ ty = "str_iterator") :
    TurnH P w K tg (Its x) [it] it (fun i h => h.IsStrIter it ty x t i) where
  mem := List.mem_singleton.mpr rfl
  obj := fun i h st b hb => by
    cases List.mem_singleton.mp hb; obtain ⟨o, e, c, d⟩ := st
    exact ⟨o, e, fun v z => by rw [d] at z; cases z⟩
  keep := fun i h h' st k => by obtain ⟨o, ho, r⟩ := st; exact ⟨o, k it (List.mem_singleton.mpr rfl) o ho, r⟩
  item := by
    intro X hP hw hK hc i pins s σ H E I hf st go
    subst hP hw hK; obtain ⟨f0, f1, f2, f3, f4, f5⟩ := hf it (List.mem_singleton.mpr rfl)
    have hx : x.cps[i]? = some x.cps[i] := Array.getElem?_eq_getElem go
    have nl : ["enumerate", "zip", "dict_itemiterator", "dict_reverseitemiterator", "odict_iterator", "itertools.zip_longest", "itertools.pairwise"].contains ty = false := by rcases hty with e | e <;> (rw [e]; decide)
    have next : ∀ {Q : Option Value → Shared → Prop}, (∀ g, g.IsStrIter it ty x t (i + 1) → Heap.SameBut it s.heap g → Q (some (.str ⟨#[x.cps[i]]⟩ s.toks)) { s with heap := g, toks := s.toks + 1 }) → wpAny (model X.prog X.w) X.A (pyNext (.ref it)) Q E s := fun {Q} q => by
      rcases hty with e | e
      · rw [e] at st q; exact wpAny_pyNext_ascii_item st hx q
      · rw [e] at st q; exact wpAny_pyNext_wide_item st hx q
    refine next fun g st' sb => ?_
    have J : Inv X pins σ H { s with heap := g, toks := s.toks + 1 } := I.turned (fun b o nb e => (sb.2 b nb).trans e) f0 f1 f3 f4 f5
    obtain ⟨oi, e, cc, dd⟩ := id st'
    exact ⟨_, rfl, go_of (s := { s with heap := g, toks := s.toks + 1 }) e cc dd nl ⟨.str ⟨#[x.cps[i]]⟩, H, J, ⟨s.toks, rfl⟩, ⟨rfl, _, hx, rfl⟩, st', fun b hb => (hf b hb).1⟩⟩
  done := by
    intro X hP hw hK hc i pins s σ H E I hf st stop
    subst hP hw hK; obtain ⟨f0, f1, f2, f3, f4, f5⟩ := hf it (List.mem_singleton.mpr rfl)
    obtain ⟨x1, hot⟩ := hc.at I
    have no : x.cps[i]? = none := Array.getElem?_eq_none stop
    rcases hty with e | e
    · rw [e] at st; exact next_ascii_hot hot st no fun g k => ⟨rfl, I.turned (t' := s.toks) (fun b o nb e => k b o nb e) f0 f1 f3 f4 f5⟩
    · rw [e] at st; exact next_wide_hot hot st no fun g k => ⟨rfl, I.turned (t' := s.toks) (fun b o nb e => k b o nb e) f0 f1 f3 f4 f5⟩
  self := fun A i s Q E st h => by
    rcases hty with e | e
    · rw [e] at st; exact wpAny_pyIter_striter_ascii st h
    · rw [e] at st; exact wpAny_pyIter_striter_wide st h
theorem turnL_hot {P : Program} {w : World} {K : PySem.W.Frag} {tg : Expr} (a it : Addr) : TurnH P w K tg (Itl K a) [it] it (fun i h => h.IsListIter it a i) where
  mem := List.mem_singleton.mpr rfl
  obj := fun i h st b hb => by
    cases List.mem_singleton.mp hb; obtain ⟨o, e, c, d⟩ := st
    exact ⟨o, e, fun v z => by rw [d] at z; cases z⟩
  keep := fun i h h' st k => st.at fun o e => k it (List.mem_singleton.mpr rfl) o e
  item := by
    intro X hP hw hK hc i pins s σ H E I hf st go
    subst hP hw hK; obtain ⟨f0, f1, f2, f3, f4, f5⟩ := hf it (List.mem_singleton.mpr rfl)
    obtain ⟨xs, x, hq, hx⟩ := go
    obtain ⟨its, rv, p, hz⟩ := I.list hq
    obtain ⟨u, hu, ru⟩ := rv.get hx
    refine wpAny_pyNext_list_item (x := u) st p.isList (by simpa using hu) fun g st' sb => ?_
    have J : Inv X pins σ H { s with heap := g } := I.turned (t' := s.toks) (fun b o nb e => (sb.2 b nb).trans e) f0 f1 f3 f4 f5
    obtain ⟨o, e, c, d⟩ := id st'
    exact ⟨u, rfl, go_of (s := { s with heap := g }) e c d (by decide) ⟨x, H, J, ru, ⟨rfl, fun ys hy => by rw [I.list_inj hy hq]; exact hx⟩, st', fun b hb => (hf b hb).1⟩⟩
  done := by
    intro X hP hw hK hc i pins s σ H E I hf st stop
    subst hP hw hK; obtain ⟨f0, f1, f2, f3, f4, f5⟩ := hf it (List.mem_singleton.mpr rfl)
    obtain ⟨xs, hq, hx⟩ := stop
    obtain ⟨its, rv, p, hz⟩ := I.list hq
    obtain ⟨x1, hot⟩ := hc.at I
    have hl := rv.length
    exact next_list_hot hot st p.isList (by simp; omega) fun g k => ⟨rfl, I.turned (t' := s.toks) (fun b o nb e => k b o nb e) f0 f1 f3 f4 f5⟩
  self := fun _ _ _ _ _ st h => wpAny_pyIter_listiter st h
theorem turnT_hot {P : Program} {w : World} {K : PySem.W.Frag} {tg : Expr} (a it : Addr) : TurnH P w K tg (Itt K a) [it] it (fun i h => h.IsTupleIter it a i) where
  mem := List.mem_singleton.mpr rfl
  obj := fun i h st b hb => by
    cases List.mem_singleton.mp hb; obtain ⟨o, e, c, d⟩ := st
    exact ⟨o, e, fun v z => by rw [d] at z; cases z⟩
  keep := fun i h h' st k => st.at fun o e => k it (List.mem_singleton.mpr rfl) o e
  item := by
    intro X hP hw hK hc i pins s σ H E I hf st go
    subst hP hw hK; obtain ⟨f0, f1, f2, f3, f4, f5⟩ := hf it (List.mem_singleton.mpr rfl)
    obtain ⟨xs, x, hq, hx⟩ := go
    obtain ⟨its, rv, p, hz⟩ := I.tuple hq
    obtain ⟨u, hu, ru⟩ := rv.get hx
    refine wpAny_pyNext_tuple_item (x := u) st (show s.heap.IsTuple a its.toArray from p) (by simpa using hu) fun g st' sb => ?_
    have J : Inv X pins σ H { s with heap := g } := I.turned (t' := s.toks) (fun b o nb e => (sb.2 b nb).trans e) f0 f1 f3 f4 f5
    obtain ⟨o, e, c, d⟩ := id st'
    exact ⟨u, rfl, go_of (s := { s with heap := g }) e c d (by decide) ⟨x, H, J, ru, ⟨rfl, fun ys hy => by rw [I.tuple_inj hy hq]; exact hx⟩, st', fun b hb => (hf b hb).1⟩⟩
  done := by
    intro X hP hw hK hc i pins s σ H E I hf st stop
    subst hP hw hK; obtain ⟨f0, f1, f2, f3, f4, f5⟩ := hf it (List.mem_singleton.mpr rfl)
    obtain ⟨xs, hq, hx⟩ := stop
    obtain ⟨its, rv, p, hz⟩ := I.tuple hq
    obtain ⟨x1, hot⟩ := hc.at I
    have hl := rv.length
    exact next_tup_hot hot st (show s.heap.IsTuple a its.toArray from p) (by simp; omega) fun g k => ⟨rfl, I.turned (t' := s.toks) (fun b o nb e => k b o nb e) f0 f1 f3 f4 f5⟩
  self := fun _ _ _ _ _ st h => wpAny_pyIter_tupleiter st h
section
variable {X : Cx} {tg : Expr}
/-- one new iterator object -/
theorem piH_one {pins : List (Addr × Obj)} {σ : L2.St} {H : Hp} {s : Shared} {R : It → Hp → Prop} {J : It} (I : Inv X pins σ H s) (o : Obj) {tn : Nat → Heap → Prop} (T : TurnH X.prog X.w X.K tg J [s.heap.objs.size] s.heap.objs.size tn) (st : tn 0 (s.heap.push o)) (q : R J H) :
    PIEH X pins σ tg R (.ref s.heap.objs.size) { s with heap := s.heap.push o } := by
  refine ⟨s.heap.objs.size, [s.heap.objs.size], tn, J, H, rfl, I.kept (t' := s.toks) fun b o e => Heap.get?_push_of_some _ e, T, st, fun b hb => ?_, q⟩
  cases List.mem_singleton.mp hb
  exact I.fpOk (Nat.le_refl _) (I.hok.fresh (Nat.le_refl _))
theorem piH_str {e : Expr} {te : TE} (he : PE X e te) : PIH X tg e (iStr te) := by
  refine ⟨fun pins s σ H R I h => thn (he.run pins s σ H _ I h) fun v s1 ⟨y, H1, I1, r1, x, ex, q⟩ => ?_⟩
  subst ex; obtain ⟨t, rfl⟩ := r1
  cases ha : x.cps.all (· < 128)
  · exact wpAny_pyIter_wide ha (piH_one I1 _ (turnS_hot _ x t "str_iterator" (.inr rfl)) ⟨_, Heap.get?_push_size _ rfl, rfl, rfl⟩ q)
  · exact wpAny_pyIter_ascii ha (piH_one I1 _ (turnS_hot _ x t "str_ascii_iterator" (.inl rfl)) ⟨_, Heap.get?_push_size _ rfl, rfl, rfl⟩ q)
theorem piH_list {l : Expr} {tl : TE} (hl : PE X l tl) : PIH X tg l (iList X.K tl) := by
  refine ⟨fun pins s σ H R I h => thn (hl.run pins s σ H _ I h) fun v s1 ⟨x, H1, I1, r1, a, e, ⟨xs, hq⟩, q⟩ => ?_⟩
  subst e; cases r1
  obtain ⟨its, rv, p, hz⟩ := I1.list hq
  exact wpAny_pyIter_list p.isList (piH_one I1 _ (turnL_hot a _) ⟨_, Heap.get?_push_size _ rfl, rfl, rfl⟩ q)
theorem piH_tup {l : Expr} {tl : TE} (hl : PE X l tl) : PIH X tg l (iTup X.K tl) := by
  refine ⟨fun pins s σ H R I h => thn (hl.run pins s σ H _ I h) fun v s1 ⟨x, H1, I1, r1, a, e, ⟨xs, hq⟩, q⟩ => ?_⟩
  subst e; cases r1
  obtain ⟨its, rv, p, hz⟩ := I1.tuple hq
  exact wpAny_pyIter_tuple (show s1.heap.IsTuple a its.toArray from p) (piH_one I1 _ (turnT_hot a _) ⟨_, Heap.get?_push_size _ rfl, rfl, rfl⟩ q)
end
end
end DD

set_option maxRecDepth 100000
set_option maxHeartbeats 2000000
namespace DD
noncomputable section
open PySem PySem.Spec PyProof.Rows L2N HotX
open L2 hiding XE Takes CX takes_of passes_call MkP PMk ps_raise mk_of ps_try_as pmk_own passAt HdsOk ps_try_many ps_try_only
open L2H (TurnH PIEH PIH HotC Hot1)

/-! ### a list comprehension while an exception is handled -/
/-- the context of its block: it bears the handled exception -/
abbrev blkH (X : Cx) (p : Addr × Obj) (s : Shared) (H : Hp) (scope : Scope) (cenv : Env) (fp : List Addr) : Cx := { X with s_0 := s, H_0 := H, env := cenv, outer := X.stack, ex := fp, fn := fun x => scope.names.lookup x == some .cell, pn := [p], xe := fun _ _ => False }
section
variable {X : Cx} {pins : List (Addr × Obj)} {σ : L2.St} {H : Hp} {s : Shared}
/-- other objects are held -/
theorem rePin {pn' : List (Addr × Obj)} (I : Inv X pins σ H s) (h : ∀ p ∈ pn' ++ pins, s.heap.get? p.1 = some p.2 ∧ H p.1 = none ∧ p.1 ≠ X.env.locals ∧ p.1 ∉ X.fs ∧ ∀ v, p.2.data ≠ .cell v) : Inv { X with pn := pn' } pins σ H s := by
  obtain ⟨⟨o1, o2, o3, o4, o5, o6, o7, o8, o9, o10, o11, o12, o13, o14, o15, o16, o17, o18⟩, i1, i2, i3, i4, i5, i6, i7, i8, i9, i10⟩ := I
  exact ⟨⟨o1, o2, o3, o4, o5, o6, o7, o8, o9, o10, o11, o12, o13, o14, o15, o16, o17, o18⟩, i1, i2, i3, i4, i5, i6, i7, h, i9, i10⟩
theorem hot_blk {p : Addr × Obj} {scope : Scope} {cenv : Env} {fp : List Addr} (h : Hot1 X.A p) : HotC (blkH X p s H scope cenv fp) := ⟨p, h, List.mem_singleton.mpr rfl⟩
theorem blk_hot {scope : Scope} {own : List (Str × Nat)} {fp : List Addr} {p : Addr × Obj} (hp : p ∈ X.pn) (I : Inv X pins σ H s) (ok : BlkOk X.N X.env.scope scope own) (hN : X.N.Nodup) (hfp : ∀ b ∈ fp, FpOk X pins H b ∧ b < s.heap.objs.size) :
    Inv (blkH X p s H scope (compEnvC scope (cellsFrom (s.heap.objs.size + 1) scope.names (cloFrom X.env.cells scope.names [])) s.heap.objs.size X.env) fp) [] (wipe σ (own.map (·.2))) H { s with heap := pushCells (s.heap.push { cls := .type "dict", data := .dict #[] }) scope.names } := by
  have P := I.pin p (List.mem_append_left _ hp)
  refine rePin (block_start I ok hN hfp) fun q hq => ?_
  have e : q = p := by simpa using hq
  subst e
  exact ⟨pushCells_keeps _ _ _ _ (Heap.get?_push_of_some _ P.1), P.2.1, Nat.ne_of_lt (Heap.lt_size P.1), fun z => (List.mem_cons.mp (I.stkSub q.1 z)).elim P.2.2.1 P.2.2.2.1, P.2.2.2.2⟩
end
section
variable {X : Cx}
theorem lc_hot {pins : List (Addr × Obj)} {s : Shared} {σ : L2.St} {H : Hp} {Q : VK} {elt tg iter : Expr} {ifs : List Expr} {scope : Scope} {own : List (Str × Nat)} {pos pos' : Pos} {wi : TI} {g : TG} {tt : TT} {te : TE} {use : Option (Value → Sem Unit)} {Qf : Value → Shared → Prop}
    (hot : HotC X) (hN : X.N.Nodup) (I : Inv X pins σ H s) (hi : PIH X tg iter wi) (ok : BlkOk X.N X.env.scope scope own)
    (hg : ∀ p, Hot1 X.A p → ∀ (s : Shared) (H : Hp) (C : Addr) (cl : List (Str × Addr)) (fp : List Addr), PG (blkH X p s H scope (compEnvC scope cl C X.env) fp) tg g)
    (ht : ∀ p, Hot1 X.A p → ∀ (s : Shared) (H : Hp) (C : Addr) (cl : List (Str × Addr)) (fp : List Addr), PTs (blkH X p s H scope (compEnvC scope cl C X.env) fp) ifs tt)
    (he : ∀ p, Hot1 X.A p → ∀ (s : Shared) (H : Hp) (C : Addr) (cl : List (Str × Addr)) (fp : List Addr), PE (blkH X p s H scope (compEnvC scope cl C X.env) fp) elt te) (fold : ∀ x, foldedSetIterable iter X.env x = pure x)
    (h : tLc wi g tt te (own.map (·.2)) σ H Q)
    (hR : ∀ D C s' m H', Inv X pins σ H' s' → Q (.ref D) H' → s'.heap.Ns C m → FpOk X pins H' C → compPost (model X.prog X.w) X.A X.xe use Qf (.ref D) C (.ok .next) s') :
    wpAny (model X.prog X.w) X.A (comprehension (.ListComp elt [⟨tg, iter, ifs, 0⟩] scope pos) scope X.env pos' (newList []) false (eval iter X.env) use) Qf X.xe s := by
  obtain ⟨p, hp, hpn⟩ := hot
  have fr : ∀ y ∈ scope.names, y.2 = .free → ∃ c, X.env.cells.lookup y.1 = some c := fun y hy e => (ok.free y hy e).elim (fun k => I.ok.has _ (.inl k)) fun k => I.ok.has _ (.inr k)
  refine wpAny_comprehension_free (use := use) rfl fold (closure_ok fr) ok.kind (fun y hy e => by rw [ok.uniq y hy, e]) (thn (hi.run pins s σ H _ I h) fun xv sA hA => thn hA fun itv sB hB => ?_)
  obtain ⟨it, fp, tn, J, HB, e, IB, T, stB, fB, q⟩ := hB
  subst e
  refine wpAny_newObj_type (newEnv_comp ?_) (by show 0 ≤ sizeLine; decide)
  generalize hD : sB.heap.objs.size = D
  have nD : HB D = none := IB.hok.fresh (Nat.le_of_eq hD)
  obtain ⟨W, ⟨m0, w0⟩, turn⟩ := q D nD
  generalize hsC : ({ sB with heap := sB.heap.push { cls := .type "list", data := .seq ([] : List Value).toArray } } : Shared) = sC
  have hC : sC.heap = sB.heap.push { cls := .type "list", data := .seq ([] : List Value).toArray } := by rw [← hsC]
  have IC : Inv X pins σ (upd HB D (.lst [])) sC := by
    rw [← hsC]; refine IB.laid (t' := sB.toks) (fun b o e => Heap.get?_push_of_some _ e) (Nat.le_of_eq hD) ⟨Nat.zero_le _, [], 0, .nil, ?_⟩
    rw [← hD]; exact Heap.get?_push_size _ rfl
  have fC : ∀ b ∈ fp, FpOk X pins (upd HB D (.lst [])) b ∧ b < sC.heap.objs.size := fun b hb => by
    obtain ⟨o, e, _⟩ := T.obj _ _ stB b hb
    have lt := Heap.lt_size e
    refine ⟨⟨?_, (fB b hb).2⟩, by rw [hC, Heap.size_push]; exact Nat.lt_succ_of_lt lt⟩
    rw [upd_ne (by rw [← hD]; exact Nat.ne_of_lt lt)]; exact (fB b hb).1
  have stC : tn 0 sC.heap := T.keep _ _ _ stB fun b _ o e => by rw [hC]; exact Heap.get?_push_of_some _ e
  have I4 := blk_hot hpn IC ok hN fC
  have pg := hg p hp sC (upd HB D (.lst [])) sC.heap.objs.size (cellsFrom (sC.heap.objs.size + 1) scope.names (cloFrom X.env.cells scope.names [])) fp
  have pt := ht p hp sC (upd HB D (.lst [])) sC.heap.objs.size (cellsFrom (sC.heap.objs.size + 1) scope.names (cloFrom X.env.cells scope.names [])) fp
  have pe := he p hp sC (upd HB D (.lst [])) sC.heap.objs.size (cellsFrom (sC.heap.objs.size + 1) scope.names (cloFrom X.env.cells scope.names [])) fp
  show codeAny _ _ (.compStart (.ListComp elt [⟨tg, iter, ifs, 0⟩] scope pos) 0 (.ref it) (.ref D) (compEnvC scope (cellsFrom (sC.heap.objs.size + 1) scope.names (cloFrom X.env.cells scope.names [])) sC.heap.objs.size X.env)) (compPost (model X.prog X.w) X.A X.xe use Qf (.ref D) sC.heap.objs.size) { sC with heap := pushCells (sC.heap.push { cls := .type "dict", data := .dict #[] }) scope.names }
  have nfp : ∀ b ∈ fp, (upd HB D (.lst [])) b = none := fun b hb => (fC b hb).1.1
  generalize hce : compEnvC scope (cellsFrom (sC.heap.objs.size + 1) scope.names (cloFrom X.env.cells scope.names [])) sC.heap.objs.size X.env = ce at I4 pg pt pe ⊢
  have cL : ce.locals = sC.heap.objs.size := by subst hce; rfl
  generalize hHC : upd HB D (.lst []) = HC at IC I4 pg pt pe w0 nfp fC
  generalize hs4 : ({ sC with heap := pushCells (sC.heap.push { cls := .type "dict", data := .dict #[] }) scope.names } : Shared) = s4 at I4 ⊢
  have st4 : tn 0 s4.heap := T.keep _ _ _ stC fun b _ o e => by rw [← hs4]; exact pushCells_keeps _ _ _ _ (Heap.get?_push_of_some _ e)
  have away : ∀ b ∈ fp, ∀ r ∈ ([p] : List (Addr × Obj)) ++ [], r.1 ≠ b := fun b hb r hr => by
    have e : r = p := by simpa using hr
    subst e
    exact (fC b hb).1.2.2.2.2.2 r (List.mem_append_left _ hpn)
  have stat : ∀ {σ' : L2.St} {H' : Hp} {s' : Shared}, Inv (blkH X p sC HC scope ce fp) [] σ' H' s' → (∀ b ∈ fp, H' b = none) → ∀ b ∈ fp, FpOk (blkH X p sC HC scope ce fp) [] H' b := fun {σ' H' s'} I' hn b hb =>
    ⟨hn b hb, (I'.ok.exf b hb).1, I'.ok.exfs b hb, .inl hb, fun x c e => (I'.ok.exf b hb).2 x c e, away b hb⟩
  have hotB : HotC (blkH X p sC HC scope ce fp) := hot_blk hp
  have loop : codeAny (model X.prog X.w) X.A (.compLoop (.ListComp elt [⟨tg, iter, ifs, 0⟩] scope pos) 0 (.ref it) (.ref D) ce) (compPost (model X.prog X.w) X.A X.xe use Qf (.ref D) sC.heap.objs.size) s4 := by
    refine compLoop_any (fun n s' => ∃ i H', Inv (blkH X p sC HC scope ce fp) [] (wipe σ (own.map (·.2))) H' s' ∧ tn i s'.heap ∧ (∀ b ∈ fp, H' b = none) ∧ W i n H') ?_ m0 ⟨0, HC, I4, st4, nfp, w0⟩
    rintro n s5 ⟨i, H5, I5, st5, n5, w5⟩
    rcases turn i n H5 w5 with ⟨stop, qq⟩ | ⟨go, Nx, hNx, step⟩
    · refine thnF (T.done (blkH X p sC HC scope ce fp) rfl rfl rfl hotB i [] s5 _ H5 (fun _ _ => False) I5 (stat I5 n5) st5 stop) fun r s6 ⟨hr, I6⟩ => ?_
      subst hr
      have I7 : Inv X pins σ H5 s6 := IC.call' (ch := fp) I6.os I6.base I6.hok I6.bare fun b hb => ⟨(fC b hb).1.2.2.2.1, (fC b hb).1.2.1, (fC b hb).1.2.2.2.2.1, (fC b hb).1.2.2.2.2.2⟩
      have nC : H5 sC.heap.objs.size = none := by rw [← cL]; exact I6.free
      obtain ⟨m, hn, _⟩ := I6.loc
      have hn : s6.heap.Ns ce.locals m := hn
      rw [cL] at hn
      exact hR D sC.heap.objs.size s6 m H5 I7 qq hn (IC.fpOk (Nat.le_refl _) nC)
    · refine thnF (T.item (blkH X p sC HC scope ce fp) rfl rfl rfl hotB i [] s5 _ H5 (fun _ _ => False) I5 (stat I5 n5) st5 go) fun r s6 ⟨u, hr, h6⟩ => ?_
      subst hr
      refine thnF h6 fun _ s7 ⟨x, H7, I7, r7, y7, st7, n7⟩ => thnF (pg.run _ s7 _ H7 x u _ (I7.pinned (stat I7 n7) (T.obj _ _ st7)) r7 (step x H7 y7)) fun _ s8 ⟨σ8, H8, I8, hw8, q8⟩ => thnF (pt.run _ s8 σ8 H8 _ I8 q8) fun b s9 ⟨H9, I9, q9⟩ => ?_
      have fin : ∀ {s' : Shared} {H' : Hp}, Inv (blkH X p sC HC scope ce fp) ([] ++ pinsAt fp s7.heap) σ8 H' s' → Nx H' → ∃ m, m < n ∧ ∃ i H', Inv (blkH X p sC HC scope ce fp) [] (wipe σ (own.map (·.2))) H' s' ∧ tn i s'.heap ∧ (∀ b ∈ fp, H' b = none) ∧ W i m H' := fun {s' H'} I' nx => by
        obtain ⟨m', hm, w'⟩ := hNx H' nx
        have held : ∀ b ∈ fp, ∀ o, s7.heap.get? b = some o → s'.heap.get? b = some o ∧ H' b = none := fun b hb o e => by
          have z := I'.pin (b, o) (List.mem_append_right _ (List.mem_append_right _ (mem_pinsAt hb e)))
          exact ⟨z.1, z.2.1⟩
        refine ⟨m', hm, i + 1, H', (I'.unpinned (pins := [])).weak (by rw [← hw8, wipe_length]) (fun j v e => ?_), T.keep _ _ _ st7 fun b hb o e => (held b hb o e).1, fun b hb => ?_, w'⟩
        · rw [← hw8] at e; exact (wipe_some e).1
        · obtain ⟨o, e, _⟩ := T.obj _ _ st7 b hb; exact (held b hb o e).2
      cases b with
      | false => simp only [Bool.false_eq_true, if_false] at q9 ⊢; exact fin I9 q9
      | true =>
        simp only [if_true] at q9 ⊢
        refine thnF (pe.run _ s9 σ8 H9 _ I9 q9) fun z s10 ⟨yv, H10, I10, r10, acc, hD10, hz10, nx⟩ => app_ok (X := blkH X p sC HC scope ce fp) I10 hD10 hz10 r10 fun s11 I11 => fin I11 nx
  exact codeAny_compStart_list loop (T.self X.A 0 _ _ _ st4 loop)
theorem pe_lcH {elt tg iter : Expr} {ifs : List Expr} {scope : Scope} {own : List (Str × Nat)} {pos : Pos} {wi : TI} {g : TG} {tt : TT} {te : TE} (hot : HotC X) (hN : X.N.Nodup) (hi : PIH X tg iter wi) (ok : BlkOk X.N X.env.scope scope own)
    (hg : ∀ p, Hot1 X.A p → ∀ (s : Shared) (H : Hp) (C : Addr) (cl : List (Str × Addr)) (fp : List Addr), PG (blkH X p s H scope (compEnvC scope cl C X.env) fp) tg g)
    (ht : ∀ p, Hot1 X.A p → ∀ (s : Shared) (H : Hp) (C : Addr) (cl : List (Str × Addr)) (fp : List Addr), PTs (blkH X p s H scope (compEnvC scope cl C X.env) fp) ifs tt)
    (he : ∀ p, Hot1 X.A p → ∀ (s : Shared) (H : Hp) (C : Addr) (cl : List (Str × Addr)) (fp : List Addr), PE (blkH X p s H scope (compEnvC scope cl C X.env) fp) elt te) (fold : ∀ x, foldedSetIterable iter X.env x = pure x) :
    PE X (.ListComp elt [⟨tg, iter, ifs, 0⟩] scope pos) (tLc wi g tt te (own.map (·.2))) := by
  refine ⟨fun pins s σ H Q I h => ?_⟩
  rw [eval_ListComp]
  refine lc_hot hot hN I hi ok hg ht he fold h fun D C s' m H' I' q hn f => ⟨m, hn, fun h'' sb => ⟨.ref D, H', ?_, rfl, q⟩⟩
  exact I'.turned (t' := s'.toks) (fun b o hb e => (sb.2 b hb).trans e) f.1 f.2.1 f.2.2.2.1 f.2.2.2.2.1 f.2.2.2.2.2
end
/-- the blocks of a hot comprehension -/
abbrev BlkP (X : Cx) := { p : Addr × Obj // Hot1 X.A p } × Blk
abbrev blkXH (X : Cx) (scope : Scope) (b : BlkP X) : Cx := blkH X b.1.1 b.2.1 b.2.2.1 scope (compEnvC scope b.2.2.2.2.1 b.2.2.2.1 X.env) b.2.2.2.2.2
def PDiH (X : Cx) (T : Par) (Z : Hd) (W : WX) (tg iter : Expr) (f : Dl → ItR) : Prop := ∃ wi, PIH X tg iter wi ∧ EvI T Z W wi f
section
variable {X : Cx} {T : Par} {Z : Hd} {W : WX} {tg e a b c elt iter : Expr} {f1 f2 f3 fe : Dl → Res} {fi : Dl → ItR} {ft : Dl → ResB} {p pos : Pos} {ifs : List Expr} {body : List Stmt} {k1 : Dl → Out}
theorem id_strH (he : PDe X T Z W e f1) : PDiH X T Z W tg e (strI f1) := by
  obtain ⟨t, pe, ev⟩ := he
  refine ⟨_, piH_str pe, ?_⟩
  intro H0 A δ σ F fp H R s h
  refine ev H0 A δ σ F fp H _ s ?_
  unfold strI at h
  cases hf : f1 δ with
  | no => rw [hf] at h; exact h.elim
  | er c => rw [hf] at h; exact h
  | ok d k =>
    rw [hf] at h
    cases d with
    | str z =>
      intro v F' H' g r
      have s1 := s.grow g
      have rv := r.rep s1.aH s1.fh
      rw [Rep] at rv
      refine ⟨z, rv, h _ noH F' H' g noH_same noH_same ⟨fun i H _ hi => ?_, fun i H x H' _ y => ⟨y.1, fun d e => ?_⟩, fun i H _ hi => ?_⟩⟩
      · show i < z.cps.size
        simpa [sgns] using hi
      · obtain ⟨c, h1, h2⟩ := y.2
        subst h2
        simp only [sgns, List.getElem?_map, Option.map_eq_some_iff] at e
        obtain ⟨c', e1, e2⟩ := e
        subst e2
        rw [Rep]
        have : z.cps.toList[i]? = some c := by rw [Array.getElem?_toList]; exact h1
        rw [this] at e1; cases e1
        rfl
      · show z.cps.size ≤ i
        simpa [sgns] using hi
    | _ => exact h.elim
theorem id_listH (he : PDe X T Z W e f1) (hK : X.K = T.K := by rfl) : PDiH X T Z W tg e (lstI f1) := by
  obtain ⟨t, pe, ev⟩ := he
  refine ⟨_, piH_list pe, ?_⟩
  rw [hK]
  intro H0 A δ σ F fp H R s h
  refine ev H0 A δ σ F fp H _ s ?_
  unfold lstI at h
  cases hf : f1 δ with
  | no => rw [hf] at h; exact h.elim
  | er c => rw [hf] at h; exact h
  | ok d k =>
    rw [hf] at h
    cases d with
    | lst ds =>
      intro v F' H' g r
      have s1 := s.grow g
      obtain ⟨B, F2, g2, hB, hb, rB⟩ := r.base g s1.aH
      rw [Rep] at rB
      obtain ⟨q, vs, rfl, e1, e2⟩ := rB
      exact ⟨q, rfl, ⟨vs, SqL.of (hB _ _ e1)⟩, h _ B F2 H' g2 hB hb (its_list e1 e2)⟩
    | _ => exact h.elim
theorem id_tupH (he : PDe X T Z W e f1) (hK : X.K = T.K := by rfl) : PDiH X T Z W tg e (tupI f1) := by
  obtain ⟨t, pe, ev⟩ := he
  refine ⟨_, piH_tup pe, ?_⟩
  rw [hK]
  intro H0 A δ σ F fp H R s h
  refine ev H0 A δ σ F fp H _ s ?_
  unfold tupI at h
  cases hf : f1 δ with
  | no => rw [hf] at h; exact h.elim
  | er c => rw [hf] at h; exact h
  | ok d k =>
    rw [hf] at h
    cases d with
    | tup ds =>
      intro v F' H' g r
      have s1 := s.grow g
      obtain ⟨B, F2, g2, hB, hb, rB⟩ := r.base g s1.aH
      rw [Rep] at rB
      obtain ⟨q, vs, rfl, e1, e2⟩ := rB
      exact ⟨q, rfl, ⟨vs, SqT.of (hB _ _ e1)⟩, h _ B F2 H' g2 hB hb (its_tup e1 e2)⟩
    | _ => exact h.elim
theorem id_range1H (ha : PDe X T Z W a f1) (hm : X.mg "range" = none) (hg : Gl X "range" := by rfl) (hs : starEach [a] X.env = [(false, eval a X.env)] := by rfl) : PDiH X T Z W tg (.Call (.Name "range" p) [a] [] pos) (rng1I f1) := by
  obtain ⟨t, pe, ev⟩ := ha
  refine ⟨_, L2H.pi_range1H hg hm (pa_cons pe pa_nil hs) hs, ?_⟩
  intro H0 A δ σ F fp H R s h
  refine ev H0 A δ σ F fp H _ s ?_
  unfold rng1I at h
  cases hf : f1 δ with
  | no => rw [hf] at h; exact h.elim
  | er c => rw [hf] at h; exact h
  | ok d k =>
    rw [hf] at h
    cases d with
    | int j =>
      intro v F' H' g r
      have s1 := s.grow g
      have rv := r.rep s1.aH s1.fh
      rw [Rep] at rv
      subst rv
      simp only at h
      split at h
      · rename_i hj
        simp only [smallR, Bool.and_eq_true, decide_eq_true_eq] at hj
        exact ⟨j, rfl, hj.1, hj.2, h _ noH F' H' g noH_same noH_same its_rng⟩
      · exact h.elim
    | _ => exact h.elim
theorem pd_lcH {x : Str} {scope : Scope} {tpos : Pos} (i : Nat) (hN : X.N.Nodup) (hot : HotC X) (hi : PDiH X T Z W (.Name x tpos) iter fi) (ok : BlkOk X.N X.env.scope scope [(x, i)])
    (hg : ∀ b : BlkP X, PG (blkXH X scope b) (.Name x tpos) (gName i)) (ht : ∀ b : BlkP X, PDts (blkXH X scope b) T Z noW ifs ft) (he : ∀ b : BlkP X, PDe (blkXH X scope b) T Z noW elt fe) (hs : ∀ y, foldedSetIterable iter X.env y = pure y := by intro _; rfl) :
    PDe X T Z W (.ListComp elt [⟨.Name x tpos, iter, ifs, 0⟩] scope pos) (compR fi i ft fe) := by
  obtain ⟨wi, pi, ei⟩ := hi
  obtain ⟨te, pe, ee⟩ := ev_all he
  obtain ⟨tt, pt, et⟩ := ev_allB ht
  exact ⟨_, pe_lcH hot hN pi ok (fun p hp s H C cl fp => hg (⟨p, hp⟩, s, H, C, cl, fp)) (fun p hp s H C cl fp => pt (⟨p, hp⟩, s, H, C, cl, fp)) (fun p hp s H C cl fp => pe (⟨p, hp⟩, s, H, C, cl, fp)) hs, ev_lc i ei et ee⟩
theorem sd_forH {x : Str} {tpos : Pos} (i : Nat) (hp : PassesOwn (model X.prog X.w) X.A X.env X.xe) (hN : X.N.Nodup) (hot : HotC X) (hi : PDiH X T Z W (.Name x tpos) iter fi) (hb : PDss X T Z W body k1) (hx : X.N[i]? = some x := by rfl) (hl : Loc X.env.scope x := by first | exact Or.inl rfl | exact Or.inr rfl)
    (hf : X.fn x = true ∨ X.env.scope.names.lookup x = some .local := by first | exact .inl rfl | exact .inr rfl) (hs : ∀ y, foldedSetIterable iter X.env y = pure y := by intro _; rfl) : PDs X T Z W (.For (.Name x tpos) iter body [] pos) (forO fi i k1) := by
  obtain ⟨wi, pi, ei⟩ := hi
  obtain ⟨tb, pb, eb⟩ := hb
  exact ⟨_, L2H.ps_forH hp hot pi (pg_name hN hx hl hf) pb hs, ss_for i ei eb⟩
end
end
end DD

set_option maxRecDepth 100000
set_option maxHeartbeats 2000000
namespace DD
noncomputable section
open PySem PySem.Spec PyProof.Rows L2N HotX
open L2 hiding XE Takes CX takes_of passes_call MkP PMk ps_raise mk_of ps_try_as pmk_own passAt HdsOk ps_try_many ps_try_only takes0
open L2H (TurnH PIEH PIH HotC Hot1 RoomH FnH cxH roomH_of)

/-! ### defs that are called while an exception is handled -/
theorem takes0 {X : Cx} : Takes X noW := fun u s' h => by
  obtain ⟨_, _, _, _, _, _, _, _, _, _, _, _, _, _, _, _, z⟩ := h
  exact z.elim
theorem hu_ofH {A : Around} {k : Nat} (hr : RoomH k A) : A.units + 1 < cLine := by have := hr.un; omega
theorem RoomH_units {A : Around} {k : Nat} (hr : RoomH k A) : A.units + 64 < cLine := by have := hr.un; omega
theorem roomH_mark {A : Around} {k : Nat} {v : Option Value} (hr : RoomH k A) : RoomH k (A.mark v) := ⟨hr.dp, hr.un⟩
/-- the handled exception of a suite -/
theorem hot_suite {X : Cx} {a : Addr} {oe : Obj} {cls : Value} {d : Option Addr} {pn : List (Addr × Obj)} (hz : Zn cls d oe) (hf : ∃ vs, oe.data = .fields vs) : HotC (X.suite a ((a, oe) :: pn)) := by
  obtain ⟨vs, e⟩ := hf
  exact ⟨(a, oe), ⟨rfl, vs, e, hz.2.2 vs e⟩, List.mem_cons_self⟩
section
variable {P : Program} {w : World} {K : PySem.W.Frag} {mg : Str → Option Value} {base : Heap}
theorem hot_def {N : List Str} {qual : Str} {scope : Scope} {f : Addr} {cd : Value} {A : Around} {outer : List Env} {s : Shared} {H : Hp} {E : XK} {p : Addr × Obj} (h : Hot1 A p) : HotC (cxH (L2N.CX P w) P w K mg base N qual scope f cd A outer s H E p) :=
  ⟨p, h, List.mem_singleton.mpr rfl⟩
theorem fn_defH {T : Par} {x qual : Str} {st : Stmt} {f : Addr} {fd : FuncData} {N ps : List Str} {k n m : Nat} {g : Dl → Out} (F : Fun K x qual st f fd) (S : FnScope N ps (defScope st)) (hn : ps.length = n) (hN : N.length = n + m)
    (hb : ∀ (cdv : Value) (A : Around) (outer : List Env) (s : Shared) (H : Hp) (E : XK) (p : Addr × Obj), Hot1 A p → RoomH k (A.deeper (PyProof.Rows.envOfC qual (defScope st) s.heap.objs.size f cdv)) →
      PDss (cxH (L2N.CX P w) P w K mg base N qual (defScope st) f cdv A outer s H E p) T Z0 (wE E) (defBody st) g) : FnH P w K mg base (L2N.CX P w) (k + 1) f fd ps (spOf T (defR n m g)) := by
  obtain ⟨oc, od, kV, doc, pm, an, cdv, ct, osl, rfl, lk, hcd⟩ := F.ex
  refine L2H.fn_ofH lk hcd S (fun vs H Q E h => (sp_len h).trans hn.symm) fun A outer s H vs Q E p hot hr h => ?_
  obtain ⟨t, pb, ev⟩ := hb cdv A outer s H E p hot hr
  refine ⟨t, pb, ?_⟩
  have hl := sp_len h
  obtain ⟨B, ds, hB, r, h⟩ := h
  rw [start_eq hl hN]
  refine ev H B _ _ noH _ H _ (sr_start hB r) ?_
  unfold defR at h
  rw [if_pos (by rw [← r.length]; exact hl)] at h
  cases hg : g (ds.map Slot.bo ++ List.replicate m .un) with
  | nx δ => rw [hg] at h; exact fun σ F' fp H' e s' => h .non F' H' s'.h0 s'.fh s'.fn (by rw [Rep])
  | rt d => rw [hg] at h; exact fun v F' H' e1 e2 e3 e4 => h v F' H' e1 e2 e3 e4
  | bk δ => rw [hg] at h; exact h.elim
  | ct δ => rw [hg] at h; exact h.elim
  | er c δ => rw [hg] at h; exact fun σ F' fp H' e s' => h H' s'.h0
  | no => rw [hg] at h; exact h.elim
end
structure DefAtH (P : Program) (w : World) (K : PySem.W.Frag) (mg : Str → Option Value) (base : Heap) (T : Par) (x : Str) (k : Nat) (ps : List Str) (g : List D → Ret) : Prop where
  ex : ∃ f fd, mg x = some (.ref f) ∧ PySem.W.keepIn K (.ref f) = true ∧ Binds K fd ps [] ∧ FnH P w K mg base (L2N.CX P w) k f fd ps (spOf T g)
structure MethAtH (P : Program) (w : World) (K : PySem.W.Frag) (mg : Str → Option Value) (base : Heap) (T : Par) (m : Str) (k : Nat) (ps : List Str) (sp : Sp) : Prop where
  ex : ∃ f fd, Meth K T.C m f ∧ Binds K fd ps [] ∧ FnH P w K mg base (L2N.CX P w) k f fd ps sp
section
variable {X : Cx} {T : Par} {Z : Hd} {W : WX} {e o a b c : Expr} {es : List Expr} {f1 f2 f3 : Dl → Res} {fa : Dl → ResA} {pos apos cpos p : Pos} {k k' : Nat} {m x : Str} {ps : List Str} {g : List D → Ret}
theorem pd_callDH (G : DefAtH X.prog X.w X.K X.mg X.base T x k ps g) (hot : HotC X) (hr : RoomH k' X.A) (hk : k ≤ k') (tk : Takes X W) (ha : PDa X T Z W (e :: es) fa) (hg : Gl X x := by rfl)
    (hdb : (x == ("__debug__" : Str)) = false := by decide) (he : starEach (e :: es) X.env = (false, eval e X.env) :: starEach es X.env := by rfl) (hpl : (backTo pos (starEach es X.env)).any (·.1) = false := by rfl) : PDe X T Z W (.Call (.Name x p) (e :: es) [] pos) (callR g fa) := by
  obtain ⟨f, fd, q1, q2, q3, q4⟩ := G.ex
  obtain ⟨t, pa, ea⟩ := ha
  exact ⟨_, L2H.pe_callH q4 (hr.mono hk) hot hg q1 q2 q3 (fun σ => passAt tk σ) pa hdb he hpl, ev_call ea⟩
theorem pe_methH0 {CX : CXT} {f C : Addr} {fd : FuncData} {sp : Sp} {E : L2.St → XK} {ta : TE} {pl : Sem Bool} (he : PE X o ta) (c : Cls X.K C) (hm : Meth X.K C m f) (G : FnH X.prog X.w X.K X.mg X.base CX k f fd ps sp) (hr : RoomH k X.A) (hot : HotC X) (hb : Binds X.K fd ps []) (hx : ∀ σ, PassesAt CX X σ (E σ))
    (ht : eval (.Call (.Attribute o m apos) [] [] pos) X.env = (do
      let v ← eval o X.env
      standAt apos.atName
      let (q, first) ← holding [v] (getMethod v m pl)
      callWith pos q first (backTo pos (starEach [] X.env)) (backToKw pos (keywordEach [] X.env))) := by rfl) : PE X (.Call (.Attribute o m apos) [] [] pos) (tMethW C m sp E ta tNil) := by
  refine ⟨fun pins s σ H Q I h => PySem.W.methodCall_KW (pl := pl) (thn (he.run pins s σ H _ I h) ?_) ht⟩
  rintro u s1 ⟨x, H1, I1, rx, p, dx, fs, rfl, ea, l, q⟩
  obtain rfl : u = Value.ref p := rx
  exact getmeth_ok I1 ea c hm l (PySem.W.callWith_K0 (first := [.ref p]) I1.kIn hm.kp (L2H.run_fnH (us := [.ref p]) (vs := [.ref p]) G hr hot hb (hx σ) I1 (.cons rfl .nil) q))
theorem pd_methDH0 {pl : Sem Bool} (C : TarC X.K X.mg T.C) (G : MethAtH X.prog X.w X.K X.mg X.base T m k ps (spOf T g)) (hot : HotC X) (hr : RoomH k' X.A) (hk : k ≤ k') (tk : Takes X W)
    (ho : PDe X T Z W o f1) (h1 : (m == fRows) = false := by decide +kernel) (h2 : (m == fTable) = false := by decide +kernel)
    (ht : eval (.Call (.Attribute o m apos) [] [] pos) X.env = (do
      let v ← eval o X.env
      standAt apos.atName
      let (q, first) ← holding [v] (getMethod v m pl)
      callWith pos q first (backTo pos (starEach [] X.env)) (backToKw pos (keywordEach [] X.env))) := by rfl) : PDe X T Z W (.Call (.Attribute o m apos) [] [] pos) (mthR g f1 nilR) := by
  obtain ⟨f, fd, q1, q2, q3⟩ := G.ex
  obtain ⟨ta, po, eo⟩ := ho
  exact ⟨_, pe_methH0 po C.cl q1 q3 (hr.mono hk) hot q2 (fun σ => passAt tk σ) ht, ev_meth h1 h2 eo ea_nil⟩
end
end
end DD

set_option maxRecDepth 100000
/-! # What the data functions give: lemmas for all laws -/
namespace DD
open PySem L2
/-- running the data functions -/
local macro_rules | `(tactic| walk_at "ev") => `(tactic| simp only [defR, outR, seqF, seqO, ifO, retO, setO, setS, expO, raiO, tstR, bindR, opR, unR, optR, ixR, slR, someR, noPart, varR, conR, callR, consR, nilR, arg1, arg2, cbR, lstR, tupR, bandR, borR, bnotR, yesR, ifR, andR, orR, stK, kIx, gIx, itemD, imm, imms,
  gAdd, gSub, gMul, gDiv, gMod, gLt, gLe, gGt, gGe, gLen, gInt, gList, gNot, gIsN, gNotN, isNon, chR, List.map_cons, List.map_nil, List.cons_append, List.nil_append, List.replicate_succ, List.replicate_zero, List.length_cons, List.length_nil, List.getElem?_cons_zero, List.getElem?_cons_succ, List.set_cons_zero, List.set_cons_succ,
  if_true, if_false, reduceIte, Bool.and_true, Bool.true_and, Bool.and_false, Bool.false_and, Bool.not_true, Bool.not_false, Nat.reduceAdd, Nat.reduceEqDiff, Bool.false_eq_true])

theorem atI_nn {α : Type} {xs : List α} {i : Int} (h0 : 0 ≤ i) (h1 : i < xs.length) : atI xs i = xs[i.toNat]? := by
  unfold atI ixN
  rw [if_pos h0, if_pos h1]
  rfl
/-- the k-th cell of the script, 0 behind its end -/
def cell (ns : List Int) (k : Int) : Int := ns.getD k.toNat 0
/-! equality -/
theorem eqB_str (a b : Str) : eqB (.str a) (.str b) = some (decide (a = b)) := by
  simp [eqB, flatV?, scal]
theorem eqB_int (a b : Int) : eqB (.int a) (.int b) = some (decide (a = b)) := by
  simp [eqB, flatV?, scal]
theorem eqB_bl (a b : Bool) : eqB (.bl a) (.bl b) = some (decide (a = b)) := by
  simp [eqB, flatV?, scal]
theorem eqB_refl {ds : List D} {xs : List PyData} (h : pys ds = some xs) (hs : SeqAt.shaped (.list xs) = true) : eqB (.lst ds) (.lst ds) = some true := by
  have e : py (.lst ds) = some (.list xs) := by rw [py, h]; rfl
  unfold eqB
  simp only [flatV?, e]
  rw [if_pos ⟨hs, hs⟩]
  exact congrArg some (SeqAt.eqv_refl _ (SeqAt.canLay_of_shaped hs))
/-! lists that comprehensions make -/
theorem compL_all {i : Nat} {f : Dl → Res} {δ : Dl} (h : D → D) : ∀ (ds acc : List D), (∀ d ∈ ds, ∃ k, f (δ.set i (.an d)) = .ok (h d) k ∧ stK (h d) k = true) → acc.length + ds.length ≤ sizeLine →
    compL i yesR f δ ds acc = some (acc ++ ds.map h)
  | [], acc, _, _ => by simp [compL]
  | d :: ds, acc, hf, hl => by
    obtain ⟨k, e1, e2⟩ := hf d (by simp)
    have hl' : acc.length < sizeLine := by simp at hl; omega
    simp only [compL, yesR, e1, e2]
    rw [if_pos ⟨trivial, hl'⟩, compL_all h ds (acc ++ [h d]) (fun x hx => hf x (by simp [hx])) (by simp at hl ⊢; omega)]
    simp
/-- .. with a test -/
theorem compL_if {i : Nat} {p : Dl → ResB} {f : Dl → Res} {δ : Dl} (t : D → Bool) (h : D → D) : ∀ (ds acc : List D), (∀ d ∈ ds, p (δ.set i (.an d)) = .ok (t d)) → (∀ d ∈ ds, t d = true → ∃ k, f (δ.set i (.an d)) = .ok (h d) k ∧ stK (h d) k = true) → acc.length + ds.length ≤ sizeLine →
    compL i p f δ ds acc = some (acc ++ (ds.filter t).map h)
  | [], acc, _, _, _ => by simp [compL]
  | d :: ds, acc, hp, hf, hl => by
    have hl' : acc.length < sizeLine := by simp at hl; omega
    have p1 := hp d (by simp)
    cases ht : t d with
    | false =>
      rw [ht] at p1
      simp only [compL, p1]
      rw [compL_if t h ds acc (fun x hx => hp x (by simp [hx])) (fun x hx => hf x (by simp [hx])) (by simp at hl ⊢; omega)]
      rw [List.filter_cons_of_neg (by simp [ht])]
    | true =>
      rw [ht] at p1
      obtain ⟨k, e1, e2⟩ := hf d (by simp) ht
      simp only [compL, p1, e1, e2]
      rw [if_pos ⟨trivial, hl'⟩, compL_if t h ds (acc ++ [h d]) (fun x hx => hp x (by simp [hx])) (fun x hx => hf x (by simp [hx])) (by simp at hl ⊢; omega)]
      rw [List.filter_cons_of_pos (by simp [ht])]
      simp
/-! loops, by what holds between two turns (I) and what holds where the loop is left (R) -/
theorem forL_inv {i : Nat} {k : Kd} {body : Dl → Out} (I : Nat → Dl → Prop) (R : Out → Prop) : ∀ (ds : List D) (n : Nat) (δ : Dl), I n δ →
    (∀ m d δ, ds[m]? = some d → I (n + m) δ → ∃ x, itemS d k = some x ∧ (match body (δ.set i x) with
      | .nx δ' => I (n + m + 1) δ'
      | .ct δ' => I (n + m + 1) δ'
      | .bk δ' => R (.nx δ')
      | o => R o)) → (∃ δ', forL i k body ds δ = .nx δ' ∧ I (n + ds.length) δ') ∨ R (forL i k body ds δ)
  | [], n, δ, h0, _ => .inl ⟨δ, rfl, h0⟩
  | d :: ds, n, δ, h0, hs => by
    obtain ⟨x, hx, hb⟩ := hs 0 d δ rfl h0
    have next : ∀ δ', I (n + 0 + 1) δ' → (∃ δ2, forL i k body ds δ' = .nx δ2 ∧ I (n + (d :: ds).length) δ2) ∨ R (forL i k body ds δ') := fun δ' h1 => by
      have := forL_inv I R ds (n + 1) δ' h1 fun m d' δ2 e h2 => by
        have := hs (m + 1) d' δ2 (by simpa using e) (by rw [show n + (m + 1) = n + 1 + m by omega]; exact h2)
        rw [show n + (m + 1) + 1 = n + 1 + m + 1 by omega] at this
        exact this
      rw [show n + (d :: ds).length = n + 1 + ds.length by simp; omega]
      exact this
    unfold forL
    rw [hx]
    simp only
    cases hbd : body (δ.set i x) with
    | nx δ' => rw [hbd] at hb; exact next δ' hb
    | ct δ' => rw [hbd] at hb; exact next δ' hb
    | bk δ' => rw [hbd] at hb; exact .inr hb
    | rt d => rw [hbd] at hb; exact .inr hb
    | er c δ' => rw [hbd] at hb; exact .inr hb
    | no => rw [hbd] at hb; exact .inr hb
/-! letters -/
def letters : Str := "abcdefghijklmnopqrstuvwxyz"
theorem letters_l : letters.cps.toList = (List.range 26).map (· + 97) := by decide +kernel
theorem letters_mem (c : Nat) : c ∈ letters.cps.toList ↔ 97 ≤ c ∧ c < 123 := by
  rw [letters_l, List.mem_map]
  constructor
  · rintro ⟨a, h, rfl⟩
    rw [List.mem_range] at h
    omega
  · rintro ⟨h1, h2⟩
    exact ⟨c - 97, by rw [List.mem_range]; omega, by omega⟩
theorem item_letters {i : Int} (h0 : 0 ≤ i) (h1 : i < 26) : itemD (.str letters) i = some (.str ⟨#[97 + i.toNat]⟩) := by
  unfold itemD
  have hl : letters.length = 26 := by decide +kernel
  simp only [hl]
  rw [if_pos (by decide), atI_nn h0 (by rw [letters_l]; simpa using h1), letters_l, List.getElem?_map, List.getElem?_range (by omega)]
  simp
  omega
theorem notIn_letters (c : Nat) : gNotIn (.str ⟨#[c]⟩) (.str letters) = some (.bl (!(decide (97 ≤ c) && decide (c < 123))), .st) := by
  unfold gNotIn inB
  simp only [Option.map_some, Option.some.injEq, Prod.mk.injEq, D.bl.injEq, and_true]
  congr 1
  rw [← Bool.decide_and]
  exact decide_eq_decide.mpr (letters_mem c)
/-- a place -/
def isPl : D → Bool
  | .str s => decide (1 ≤ s.length) && decide (s.length ≤ 12) && s.cps.toList.all fun c => decide (97 ≤ c) && decide (c < 123)
  | _ => false
/-- what stands in a row of things: a text of signs, a number, None -/
def okD : D → Prop
  | .str s => s.length ≤ 100 ∧ ∀ c ∈ s.cps.toList, c < 1114112
  | .int _ => True
  | .non => True
  | _ => False
theorem okD_imm {d : D} (h : okD d) : imm d = true := by
  cases d <;> first | rfl | exact h.elim
theorem okD_imms : ∀ {ds : List D}, (∀ d ∈ ds, okD d) → imms ds = true
  | [], _ => by simp [imms]
  | d :: ds, h => by
    simp only [imms, Bool.and_eq_true]
    exact ⟨okD_imm (h d (by simp)), okD_imms fun x hx => h x (by simp [hx])⟩
theorem strOk_of {s : Str} (h : ∀ c ∈ s.cps.toList, c < 1114112) : PyData.strOk s = true := by
  unfold PyData.strOk
  rw [Array.all_eq_true']
  intro c hc
  simpa using h c (by simpa using hc)
theorem okD_pys : ∀ {ds : List D}, (∀ d ∈ ds, okD d) → ∃ xs, pys ds = some xs ∧ PyData.canLayAll0 xs = true ∧ PyData.depthAll xs = 0
  | [], _ => ⟨[], rfl, rfl, rfl⟩
  | d :: ds, h => by
    obtain ⟨xs, h1, h2, h3⟩ := okD_pys fun x hx => h x (List.mem_cons_of_mem d hx)
    have hd := h d (by simp)
    cases d with
    | str s => exact ⟨.str s :: xs, by simp [pys, py, h1], by simp [PyData.canLayAll0, PyData.canLay0, strOk_of hd.2, h2], by simp [PyData.depthAll, PyData.depth, h3]⟩
    | int s => exact ⟨.int s :: xs, by simp [pys, py, h1], by simp [PyData.canLayAll0, PyData.canLay0, h2], by simp [PyData.depthAll, PyData.depth, h3]⟩
    | non => exact ⟨.none :: xs, by simp [pys, py, h1], by simp [PyData.canLayAll0, PyData.canLay0, h2], by simp [PyData.depthAll, PyData.depth, h3]⟩
    | _ => exact hd.elim
theorem okD_eq {ds : List D} (h : ∀ d ∈ ds, okD d) : eqB (.lst ds) (.lst ds) = some true := by
  obtain ⟨xs, h1, h2, h3⟩ := okD_pys h
  exact eqB_refl h1 (by simp [SeqAt.shaped, PyData.canLay0, PyData.depth, h2, h3])
theorem take_more' {α : Type} : ∀ {l : List α} {i : Nat} {x : α}, l[i]? = some x → l.take (i + 1) = l.take i ++ [x]
  | [], i, x, h => by simp at h
  | a :: l, 0, x, h => by simp at h; simp [h]
  | a :: l, i + 1, x, h => by
    have ih := take_more' (l := l) (i := i) (x := x) (by simpa using h)
    simp [ih]
theorem kitB_str : kitB "str" "str" = some true := by decide +kernel
theorem kitB_int_str : kitB "int" "str" = some false := by decide +kernel
theorem kitB_non_str : kitB "NoneType" "str" = some false := by decide +kernel
theorem kitB_list : kitB "list" "list" = some true := by decide +kernel
theorem isi_str (s : Str) : gIsi "str" (.str s) = some (.bl true, .st) := by simp [gIsi, tyD, kitB_str]
theorem isi_strI (s : Int) : gIsi "str" (.int s) = some (.bl false, .st) := by simp [gIsi, tyD, kitB_int_str]
theorem isi_strN : gIsi "str" .non = some (.bl false, .st) := by simp [gIsi, tyD, kitB_non_str]
theorem isi_list (ds : List D) : gIsi "list" (.lst ds) = some (.bl true, .st) := by simp [gIsi, tyD, kitB_list]
/-! joined texts -/
theorem joinL_nil : ∀ ps : List (List Nat), TL.joinL [] ps = ps.flatten
  | [] => rfl
  | [p] => by simp [TL.joinL]
  | p :: q :: r => by
    have ih := joinL_nil (q :: r)
    show p ++ ([] ++ TL.joinL [] (q :: r)) = _
    rw [ih]
    simp
theorem str_ext {a b : Str} (h : a.cps.toList = b.cps.toList) : a = b := by
  obtain ⟨a⟩ := a
  obtain ⟨b⟩ := b
  congr 1
  apply Array.ext'
  exact h
theorem join_l (ss : List Str) : (Txt.join "" ss).cps.toList = (ss.map fun s => s.cps.toList).flatten := by
  show (Builtin.Str.glued "" ss).cps.toList = _
  rw [PySem.StrLaws.glued_eq_join]
  have := TL.tl_join ("" : Str) ss
  rw [show TL.tl ("" : Str) = [] from rfl, joinL_nil] at this
  exact this
theorem join_one (cs : List Nat) : Txt.join "" (cs.map fun c => (⟨#[c]⟩ : Str)) = ⟨cs.toArray⟩ := by
  apply str_ext
  rw [join_l, List.map_map]
  show (List.map (fun c => [c]) cs).flatten = cs
  induction cs with
  | nil => rfl
  | cons c cs ih => simp [ih]
theorem sum_ones (cs : List Nat) : ((cs.map fun c => (⟨#[c]⟩ : Str)).map (·.length)).sum = cs.length := by
  induction cs with
  | nil => rfl
  | cons c cs ih =>
    simp only [List.map_cons, List.sum_cons, ih, List.length_cons]
    show 1 + cs.length = _
    omega
theorem gJoin_ones (cs : List Nat) (h : cs.length ≤ 1000) : gJoin (.str "") (.lst (cs.map fun c => D.str ⟨#[c]⟩)) = some (.str ⟨cs.toArray⟩, .st) := by
  have e : (cs.map fun c => D.str ⟨#[c]⟩) = (cs.map fun c => (⟨#[c]⟩ : Str)).map D.str := by rw [List.map_map]; rfl
  unfold gJoin
  simp only [e, strsD_map, Option.bind_some]
  rw [sum_ones, join_one, if_pos]
  show cs.length + _ * 0 ≤ _
  omega
theorem size_le {n : Nat} (h : n ≤ 1000) : n ≤ sizeLine := Nat.le_trans h (by decide +kernel)
/-! a name -/
def Nm (s : Str) : Prop := 1 ≤ s.length ∧ s.length ≤ 12 ∧ ∀ c ∈ s.cps.toList, 97 ≤ c ∧ c < 123
theorem Nm.isPl {s : Str} (h : Nm s) : isPl (.str s) = true := by
  unfold DD.isPl
  simp only [Bool.and_eq_true, decide_eq_true_eq, List.all_eq_true]
  exact ⟨⟨h.1, h.2.1⟩, fun c hc => h.2.2 c hc⟩
theorem Nm.ok {s : Str} (h : Nm s) : okD (.str s) := ⟨by have := h.2.1; omega, fun c hc => by have := (h.2.2 c hc).2; omega⟩
theorem str_len (s : Str) : s.length = s.cps.toList.length := by simp [Str.length]
theorem pys_len : ∀ {ds : List D} {xs : List PyData}, pys ds = some xs → xs.length = ds.length
  | [], xs, h => by simp only [pys, Option.some.injEq] at h; subst h; rfl
  | d :: ds, xs, h => by
    rw [pys] at h
    cases e1 : py d with
    | none => rw [e1] at h; cases h
    | some x =>
      cases e2 : pys ds with
      | none => rw [e1, e2] at h; cases h
      | some ys =>
        rw [e1, e2] at h
        simp only [Option.some.injEq] at h
        subst h
        simp [pys_len e2]
/-- is a list empty, by == -/
theorem eqB_nil {ds : List D} {xs : List PyData} (h : pys ds = some xs) (hs : SeqAt.shaped (.list xs) = true) : eqB (.lst ds) (.lst []) = some ds.isEmpty := by
  have e : py (.lst ds) = some (.list xs) := by rw [py, h]; rfl
  have e2 : py (.lst []) = some (.list []) := rfl
  unfold eqB
  simp only [flatV?, e, e2]
  rw [if_pos ⟨hs, by decide +kernel⟩]
  have hl := pys_len h
  cases xs with
  | nil =>
    cases ds with
    | nil => rfl
    | cons d ds => simp at hl
  | cons x xs =>
    cases ds with
    | nil => simp at hl
    | cons d ds => rfl
theorem okD_shaped {ds : List D} (h : ∀ d ∈ ds, okD d) : ∃ xs, pys ds = some xs ∧ SeqAt.shaped (.list xs) = true := by
  obtain ⟨xs, h1, h2, h3⟩ := okD_pys h
  exact ⟨xs, h1, by simp [SeqAt.shaped, PyData.canLay0, PyData.depth, h2, h3]⟩
theorem okD_nil {ds : List D} (h : ∀ d ∈ ds, okD d) : eqB (.lst ds) (.lst []) = some ds.isEmpty := by
  obtain ⟨xs, h1, h2⟩ := okD_shaped h
  exact eqB_nil h1 h2
theorem okD_sgn {c : Nat} (h : c < 1114112) : okD (.str ⟨#[c]⟩) := ⟨by show 1 ≤ 100; decide, fun d hd => by
  have : d = c := by simpa using hd
  rw [this]; exact h⟩
theorem item_letters' {i : Int} (h0 : 0 ≤ i) (h1 : i < 26) : itemD (.str "abcdefghijklmnopqrstuvwxyz") i = some (.str ⟨#[97 + i.toNat]⟩) := item_letters h0 h1
theorem notIn_letters' (c : Nat) : gNotIn (.str ⟨#[c]⟩) (.str "abcdefghijklmnopqrstuvwxyz") = some (.bl (!(decide (97 ≤ c) && decide (c < 123))), .st) := notIn_letters c
theorem menu {ds : List D} {i : Int} (h0 : 0 ≤ i) (h1 : i < ds.length) : ∃ x, x ∈ ds ∧ itemD (.lst ds) i = some x := by
  have hi : i.toNat < ds.length := by omega
  refine ⟨ds[i.toNat], List.getElem_mem hi, ?_⟩
  unfold itemD
  simp only
  rw [atI_nn h0 h1, List.getElem?_eq_getElem hi]
theorem small_of {i : Int} (h : -1000000000000 ≤ i ∧ i ≤ 1000000000000) : smallI i = true := by
  simp [smallI]; omega
theorem smallR_of {i : Int} (h : -1000000000000 ≤ i ∧ i ≤ 1000000000000) : smallR i = true := by
  simp [smallR]; omega
theorem mem_rng {lo c : Int} {n : Nat} {d : D} (h : d ∈ rng lo c n) : ∃ i : Nat, i < n ∧ d = .int (lo + i * c) := by
  simp only [rng, List.mem_map, List.mem_range] at h
  obtain ⟨i, h1, h2⟩ := h
  exact ⟨i, h1, h2.symm⟩
theorem get_rng {lo c : Int} {n m : Nat} {d : D} (h : (rng lo c n)[m]? = some d) : m < n ∧ d = .int (lo + m * c) := by
  simp only [rng, List.getElem?_map, Option.map_eq_some_iff] at h
  obtain ⟨j, h1, h2⟩ := h
  obtain ⟨h3, h4⟩ := List.getElem?_eq_some_iff.mp h1
  simp at h3 h4
  subst h4
  exact ⟨h3, h2.symm⟩
theorem rng_len {lo c : Int} {n : Nat} : (rng lo c n).length = n := by simp [rng]
/-- a name of signs drawn from the letters -/
theorem Nm.of {cs : List Nat} (h1 : 1 ≤ cs.length) (h2 : cs.length ≤ 12) (h : ∀ c ∈ cs, 97 ≤ c ∧ c < 123) : Nm ⟨cs.toArray⟩ := ⟨h1, h2, fun c hc => h c (by simpa using hc)⟩
theorem in_letters (c : Nat) : inB (.str ⟨#[c]⟩) (.str "abcdefghijklmnopqrstuvwxyz") = some (decide (97 ≤ c) && decide (c < 123)) := by
  unfold inB
  simp only [Option.some.injEq]
  rw [← Bool.decide_and]
  exact decide_eq_decide.mpr (letters_mem c)
/-! ### cutting, gluing, repeating -/
theorem nmof_l (cs : List Nat) : (⟨cs.toArray⟩ : Str).cps.toList = cs := by simp
theorem cut_len {s : Str} {lo hi : Option Int} : (cutS s lo hi).length ≤ s.length := by
  rw [str_len, str_len]
  simp only [cutS, List.toList_toArray]
  rw [List.length_take, List.length_drop]
  omega
theorem cut_mem {s : Str} {lo hi : Option Int} {c : Nat} (h : c ∈ (cutS s lo hi).cps.toList) : c ∈ s.cps.toList := by
  simp only [cutS, List.toList_toArray] at h
  exact List.mem_of_mem_drop (List.mem_of_mem_take h)
theorem app_l {s t : Str} : (s ++ t).cps.toList = s.cps.toList ++ t.cps.toList := TL.tl_append s t
theorem app_len {s t : Str} : (s ++ t).length = s.length + t.length := by
  rw [str_len, str_len, str_len, app_l, List.length_append]
theorem app_mem {s t : Str} {c : Nat} (h : c ∈ (s ++ t).cps.toList) : c ∈ s.cps.toList ∨ c ∈ t.cps.toList := by
  rw [app_l] at h
  exact List.mem_append.mp h
theorem sIx_pos {n d : Nat} {v : Int} (h : 0 ≤ v) : HT.sIx n d (some v) = min v.toNat n := by
  have e : v = ((v.toNat : Nat) : Int) := by omega
  calc HT.sIx n d (some v) = HT.sIx n d (some ((v.toNat : Nat) : Int)) := by rw [← e]
    _ = _ := HT.sIx_nat n d v.toNat
theorem cut_pre {s : Str} {v : Int} (h : 0 ≤ v) : (cutS s none (some v)).cps.toList = s.cps.toList.take v.toNat := by
  simp only [cutS, HT.sIx_none, sIx_pos h, List.toList_toArray, List.drop_zero, Nat.sub_zero]
  rw [str_len, List.take_eq_take_iff]
  omega
theorem cut_suf {s : Str} {v : Int} (h : 0 ≤ v) : (cutS s (some v) none).cps.toList = s.cps.toList.drop v.toNat := by
  simp only [cutS, HT.sIx_none, sIx_pos h, List.toList_toArray]
  rw [str_len]
  by_cases hv : v.toNat ≤ s.cps.toList.length
  · rw [Nat.min_eq_left hv]
    exact List.take_of_length_le (by rw [List.length_drop]; omega)
  · rw [Nat.min_eq_right (by omega), List.drop_of_length_le (Nat.le_refl _), List.drop_of_length_le (by omega)]
    simp
theorem mul_l (c : Nat) (n : Int) : (Txt.mul ⟨#[c]⟩ n).cps.toList = List.replicate n.toNat c := PyProof.Rows.mul_one_list c n
theorem nm_sz {s : Str} (h : Nm s) : s.length ≤ sizeLine := Nat.le_trans h.2.1 (by decide +kernel)
theorem imms_str : ∀ L : List Str, imms (L.map .str) = true
  | [] => rfl
  | s :: L => by rw [List.map_cons, imms, imms_str L]; rfl
theorem imms_rows : ∀ L : List Rw, imms (L.map rowD) = true
  | [] => rfl
  | s :: L => by rw [List.map_cons, imms, imms_rows L]; rfl
theorem ixN_in {n : Nat} {i : Int} (h0 : 0 ≤ i) (h1 : i < n) : ixN n i = some i.toNat := by
  unfold ixN
  rw [if_pos h0, if_pos h1]
/-! ### rows -/
def prOf : List Rw → Str → Str → Option Int
  | [], _, _ => none
  | r :: rs, a, b => if r.1 = a ∧ r.2.1 = b then some r.2.2 else prOf rs a b
theorem look_pr (rows : List Rw) (a b : Str) : lookS (tabK rows) [.inr a, .inr b] = (prOf rows a b).map Sc.int := by
  induction rows with
  | nil => rfl
  | cons r rs ih =>
    show (if ([Sum.inr r.1, Sum.inr r.2.1] : List Key) = [.inr a, .inr b] then some (Sc.int r.2.2) else lookS (tabK rs) [.inr a, .inr b]) = _
    unfold prOf
    by_cases h : r.1 = a ∧ r.2.1 = b
    · rw [if_pos h, if_pos (by rw [h.1, h.2])]; rfl
    · rw [if_neg h, if_neg (fun z => h (by simpa using z))]
      exact ih
theorem pr_none {rows : List Rw} {a b : Str} (h : prOf rows a b = none) : ∀ r ∈ rows, ¬ (r.1 = a ∧ r.2.1 = b) := by
  induction rows with
  | nil => intro r hr; cases hr
  | cons r rs ih =>
    unfold prOf at h
    split at h
    · cases h
    · rename_i hn
      intro x hx
      rcases List.mem_cons.mp hx with z | z
      · rw [z]; exact hn
      · exact ih h x z
theorem pr_snoc (rows : List Rw) (r : Rw) (a b : Str) : prOf (rows ++ [r]) a b = (prOf rows a b).or (if r.1 = a ∧ r.2.1 = b then some r.2.2 else none) := by
  induction rows with
  | nil => simp [prOf]
  | cons x rs ih =>
    have e1 : prOf (x :: rs ++ [r]) a b = if x.1 = a ∧ x.2.1 = b then some x.2.2 else prOf (rs ++ [r]) a b := rfl
    have e2 : prOf (x :: rs) a b = if x.1 = a ∧ x.2.1 = b then some x.2.2 else prOf rs a b := rfl
    rw [e1, e2, ih]
    split <;> rfl
/-- a good row behind others -/
def RowOk (rows : List Rw) (r : Rw) : Prop := Nm r.1 ∧ Nm r.2.1 ∧ r.1 ≠ r.2.1 ∧ 0 ≤ r.2.2 ∧ r.2.2 ≤ 1000000000000 ∧ prOf rows r.1 r.2.1 = none
/-- good rows, told from the left -/
def RowsOk (acc : List Rw) : List Rw → Prop
  | [] => True
  | r :: rs => RowOk acc r ∧ RowsOk (acc ++ [r]) rs
theorem RowsOk.snoc : ∀ {rs acc : List Rw} {r : Rw}, RowsOk acc rs → RowOk (acc ++ rs) r → RowsOk acc (rs ++ [r])
  | [], acc, r, _, h => ⟨by simpa using h, trivial⟩
  | x :: rs, acc, r, h1, h2 => ⟨h1.1, RowsOk.snoc (rs := rs) (acc := acc ++ [x]) h1.2 (by simpa using h2)⟩
theorem RowsOk.mem : ∀ {rs acc : List Rw}, RowsOk acc rs → ∀ r ∈ rs, Nm r.1 ∧ Nm r.2.1 ∧ r.1 ≠ r.2.1 ∧ 0 ≤ r.2.2 ∧ r.2.2 ≤ 1000000000000
  | [], _, _, r, h => nomatch h
  | x :: rs, acc, h, r, hr => by
    rcases List.mem_cons.mp hr with z | z
    · rw [z]; exact ⟨h.1.1, h.1.2.1, h.1.2.2.1, h.1.2.2.2.1, h.1.2.2.2.2.1⟩
    · exact h.2.mem r z
theorem item_rows {L : List Rw} {i : Int} (h0 : 0 ≤ i) (h1 : i < L.length) : ∃ r, L[i.toNat]? = some r ∧ itemD (.lst (L.map rowD)) i = some (rowD r) := by
  have h : i.toNat < L.length := by omega
  refine ⟨L[i.toNat], List.getElem?_eq_getElem h, ?_⟩
  unfold itemD atI ixN
  simp only
  rw [if_pos h0, if_pos (by simpa using h1)]
  show (L.map rowD)[i.toNat]? = _
  rw [List.getElem?_map, List.getElem?_eq_getElem h]
  rfl
theorem kitB_ii : kitB "int" "int" = some true := by decide +kernel
theorem kitB_bi : kitB "bool" "int" = some true := by decide +kernel
theorem kitB_si : kitB "str" "int" = some false := by decide +kernel
theorem kitB_ni : kitB "NoneType" "int" = some false := by decide +kernel
theorem kitB_ib : kitB "int" "bool" = some false := by decide +kernel
theorem kitB_bb : kitB "bool" "bool" = some true := by decide +kernel
theorem kitB_nb : kitB "NoneType" "bool" = some false := by decide +kernel
theorem kitB_tt : kitB "tuple" "tuple" = some true := by decide +kernel
theorem i_ii (i : Int) : gIsi "int" (.int i) = some (.bl true, .st) := by simp [gIsi, tyD, kitB_ii]
theorem i_bi (b : Bool) : gIsi "int" (.bl b) = some (.bl true, .st) := by simp [gIsi, tyD, kitB_bi]
theorem i_si (s : Str) : gIsi "int" (.str s) = some (.bl false, .st) := by simp [gIsi, tyD, kitB_si]
theorem i_ni : gIsi "int" .non = some (.bl false, .st) := by simp [gIsi, tyD, kitB_ni]
theorem i_ib (i : Int) : gIsi "bool" (.int i) = some (.bl false, .st) := by simp [gIsi, tyD, kitB_ib]
theorem i_bb (b : Bool) : gIsi "bool" (.bl b) = some (.bl true, .st) := by simp [gIsi, tyD, kitB_bb]
theorem i_nb : gIsi "bool" .non = some (.bl false, .st) := by simp [gIsi, tyD, kitB_nb]
theorem i_tt (ds : List D) : gIsi "tuple" (.tup ds) = some (.bl true, .st) := by simp [gIsi, tyD, kitB_tt]
theorem i_row (r : Rw) : gIsi "tuple" (rowD r) = some (.bl true, .st) := i_tt _
/-! ### data that equals itself -/
def okP (n : Nat) (d : D) : Prop := ∃ x, py d = some x ∧ PyData.canLay0 x = true ∧ PyData.depth x ≤ n
theorem okP_mono {n m : Nat} {d : D} (h : okP n d) (hm : n ≤ m) : okP m d := by
  obtain ⟨x, h1, h2, h3⟩ := h
  exact ⟨x, h1, h2, by omega⟩
theorem okP_int (i : Int) : okP 0 (.int i) := ⟨.int i, rfl, rfl, Nat.le_refl _⟩
theorem okP_non : okP 0 .non := ⟨.none, rfl, rfl, Nat.le_refl _⟩
theorem okP_bl (b : Bool) : okP 0 (.bl b) := ⟨.bool b, rfl, rfl, Nat.le_refl _⟩
theorem okP_str {s : Str} (h : ∀ c ∈ s.cps.toList, c < 1114112) : okP 0 (.str s) := ⟨.str s, rfl, strOk_of h, Nat.le_refl _⟩
theorem Nm.okP {s : Str} (h : Nm s) : okP 0 (.str s) := okP_str fun c hc => by have := (h.2.2 c hc).2; omega
theorem okP_all {n : Nat} : ∀ {ds : List D}, (∀ d ∈ ds, okP n d) → ∃ xs, pys ds = some xs ∧ PyData.canLayAll0 xs = true ∧ PyData.depthAll xs ≤ n
  | [], _ => ⟨[], rfl, rfl, Nat.zero_le _⟩
  | d :: ds, h => by
    obtain ⟨xs, h1, h2, h3⟩ := okP_all fun x hx => h x (List.mem_cons_of_mem d hx)
    obtain ⟨x, g1, g2, g3⟩ := h d (by simp)
    exact ⟨x :: xs, by rw [pys, g1, h1], by simp [PyData.canLayAll0, g2, h2], by simp [PyData.depthAll]; omega⟩
theorem okP_lst {n : Nat} {ds : List D} (h : ∀ d ∈ ds, okP n d) : okP (n + 1) (.lst ds) := by
  obtain ⟨xs, h1, h2, h3⟩ := okP_all h
  exact ⟨.list xs, by rw [py, h1]; rfl, by simp [PyData.canLay0, h2], by simp [PyData.depth]; omega⟩
theorem okP_tup {n : Nat} {ds : List D} (h : ∀ d ∈ ds, okP n d) : okP (n + 1) (.tup ds) := by
  obtain ⟨xs, h1, h2, h3⟩ := okP_all h
  exact ⟨.tuple xs, by rw [py, h1]; rfl, by simp [PyData.canLay0, h2], by simp [PyData.depth]; omega⟩
theorem eqB_self {d : D} (h : okP 64 d) : eqB d d = some true := by
  obtain ⟨x, h1, h2, h3⟩ := h
  have hs : SeqAt.shaped x = true := by simp [SeqAt.shaped, h2, h3]
  cases d with
  | non => simp [eqB, flatV?, scal]
  | bl b => simp [eqB, flatV?, scal]
  | int b => simp [eqB, flatV?, scal]
  | str b => simp [eqB, flatV?, scal]
  | _ =>
    unfold eqB
    simp only [flatV?, h1]
    rw [if_pos ⟨hs, hs⟩]
    exact congrArg some (SeqAt.eqv_refl _ h2.symm.symm)
theorem okP_row {r : Rw} (h1 : Nm r.1) (h2 : Nm r.2.1) : okP 1 (rowD r) := okP_tup fun d hd => by
  simp only [List.mem_cons, List.not_mem_nil, or_false] at hd
  rcases hd with rfl | rfl | rfl
  · exact h1.okP
  · exact h2.okP
  · exact okP_int _
theorem okP_rows {acc rows : List Rw} (h : RowsOk acc rows) : okP 2 (.lst (rows.map rowD)) := okP_lst fun d hd => by
  obtain ⟨r, hr, rfl⟩ := List.mem_map.mp hd
  exact okP_row (h.mem r hr).1 (h.mem r hr).2.1
/-! ### a dict that is filled once at each key -/
theorem putS_new {κ : Type} [DecidableEq κ] {kvs : List (κ × Sc)} {k : κ} {v : Sc} (h : lookS kvs k = none) : putS kvs k v = kvs ++ [(k, v)] := by
  have hn : ∀ kv ∈ kvs, kv.1 ≠ k := by
    induction kvs with
    | nil => intro kv h; cases h
    | cons x r ih =>
      unfold lookS at h
      split at h
      · cases h
      · rename_i hx
        intro kv hkv
        rcases List.mem_cons.mp hkv with z | z
        · rw [z]; exact hx
        · exact ih h kv z
  unfold putS
  rw [if_neg]
  intro z
  rw [List.any_eq_true] at z
  obtain ⟨kv, h1, h2⟩ := z
  exact hn kv h1 (by simpa using h2)
def toldK (rows : List Rw) : List (List Key × Sc) := rows.map fun r => ([.inr r.1, .inr r.2.1], .bl true)
theorem look_told (rows : List Rw) (a b : Str) : lookS (toldK rows) [.inr a, .inr b] = (prOf rows a b).map fun _ => Sc.bl true := by
  induction rows with
  | nil => rfl
  | cons r rs ih =>
    show (if ([Sum.inr r.1, Sum.inr r.2.1] : List Key) = [.inr a, .inr b] then some (Sc.bl true) else lookS (toldK rs) [.inr a, .inr b]) = _
    unfold prOf
    by_cases h : r.1 = a ∧ r.2.1 = b
    · rw [if_pos h, if_pos (by rw [h.1, h.2])]; rfl
    · rw [if_neg h, if_neg (fun z => h (by simpa using z))]
      exact ih
theorem item_of {ds : List D} {k : Nat} {d : D} (h : ds[k]? = some d) : itemD (.lst ds) k = some d := by
  have hl := (List.getElem?_eq_some_iff.mp h).1
  unfold itemD atI ixN
  simp only
  rw [if_pos (by omega), if_pos (by omega)]
  show ds[((k : Nat) : Int).toNat]? = _
  rw [Int.toNat_natCast]
  exact h
theorem RowsOk.take_pr : ∀ {rs acc : List Rw} {k : Nat} {r : Rw}, RowsOk acc rs → rs[k]? = some r → prOf (acc ++ rs.take k) r.1 r.2.1 = none
  | x :: rs, acc, 0, r, h, e => by
    simp at e
    subst e
    simpa using h.1.2.2.2.2.2
  | x :: rs, acc, k + 1, r, h, e => by
    have := RowsOk.take_pr (k := k) h.2 (by simpa using e)
    simpa using this
  | [], _, k, r, _, e => by simp at e
theorem rowD_snoc (R : List Rw) (a b : Str) (i : Int) : R.map rowD ++ [D.tup [D.str a, D.str b, D.int i]] = (R ++ [(a, b, i)]).map rowD := by
  rw [List.map_append]; rfl
theorem toldK_snoc (R : List Rw) (a b : Str) (i : Int) : toldK R ++ [([.inr a, .inr b], .bl true)] = toldK (R ++ [(a, b, i)]) := by
  unfold toldK; rw [List.map_append]; rfl
theorem tabK_snoc (R : List Rw) (a b : Str) (i : Int) : tabK R ++ [([.inr a, .inr b], .int i)] = tabK (R ++ [(a, b, i)]) := by
  unfold tabK; rw [List.map_append]; rfl
end DD

set_option maxRecDepth 100000
/-! # How the data functions run: rows to rewrite by -/
namespace DD
noncomputable section
open PySem L2
variable {δ : Dl} {d e u : D} {k k' k2 : Kd} {c : Ex} {i j : Int} {n m : Nat} {f f1 f2 f3 : Dl → Res} {b b' : Bool} {s t : Str} {ds es : List D} {fa : Dl → ResA} {o : Out} {K K1 K2 : Dl → Out} {p p1 p2 : Dl → ResB} {g g' : D → D → Opt}
/-! values -/
def vaX : Option Slot → Res
  | some (.sh d) => .ok d .st
  | some (.bo d) => .ok d .bw
  | some (.ow d) => .ok d .any
  | some (.dp d) => .ok d .any
  | some (.an d) => .ok d .any
  | _ => .no
theorem e_var : varR n δ = vaX δ[n]? := rfl
theorem e_sh : vaX (some (.sh d)) = .ok d .st := rfl
theorem e_bo : vaX (some (.bo d)) = .ok d .bw := rfl
theorem e_ow : vaX (some (.ow d)) = .ok d .any := rfl
theorem e_dp : vaX (some (.dp d)) = .ok d .any := rfl
theorem e_an : vaX (some (.an d)) = .ok d .any := rfl
theorem e_con : conR d δ = .ok d .st := rfl
theorem e_opt : optR (some (d, k)) = .ok d k := rfl
def op2 (g : D → D → Opt) (r1 r2 : Res) : Res := bindR r1 fun d _ => bindR r2 fun e _ => optR (g d e)
theorem e_op : opR g f1 f2 δ = op2 g (f1 δ) (f2 δ) := rfl
theorem e_op2 : op2 g (.ok d k) (.ok e k') = optR (g d e) := rfl
theorem e_op2e : op2 g (.er c) r = .er c := rfl
theorem e_op2f : op2 g (.ok d k) (.er c) = .er c := rfl
def op1 (g : D → Opt) (r1 : Res) : Res := bindR r1 fun d _ => optR (g d)
theorem e_un {g : D → Opt} : unR g f δ = op1 g (f δ) := rfl
theorem e_op1 {g : D → Opt} : op1 g (.ok d k) = optR (g d) := rfl
theorem e_op1e {g : D → Opt} : op1 g (.er c) = .er c := rfl
theorem e_add : gAdd (.int i) (.int j) = some (.int (i + j), .st) := rfl
theorem e_adds : gAdd (.str s) (.str t) = if s.length + t.length ≤ sizeLine then some (.str (s ++ t), .st) else none := rfl
theorem e_addl : gAdd (.lst ds) (.lst es) = if imms ds = true ∧ imms es = true ∧ ds.length + es.length ≤ sizeLine then some (.lst (ds ++ es), .tp) else none := rfl
theorem e_sub : gSub (.int i) (.int j) = some (.int (i - j), .st) := rfl
theorem e_mul : gMul (.int i) (.int j) = if (smallI i || smallI j) = true then some (.int (i * j), .st) else none := rfl
theorem e_muls : gMul (.str s) (.int j) = if s.length ≤ 16 ∧ -(2 ^ 63) ≤ j ∧ j ≤ 1048576 then some (.str (Txt.mul s j), .st) else none := rfl
theorem e_mull : gMul (.lst ds) (.int j) = if imms ds = true ∧ -(2 ^ 63) ≤ j ∧ j < 2 ^ 63 ∧ ds.length * j.toNat ≤ sizeLine then some (.lst (List.replicate j.toNat ds).flatten, .tp) else none := rfl
theorem e_mulI : gMulI (.int i) (.int j) = if (smallI i || smallI j) = true then some (.int (i * j), .st) else none := rfl
theorem e_div : gDiv (.int i) (.int j) = if 0 < j ∧ j < 1073741824 then some (.int (i / j), .st) else none := rfl
theorem e_mod : gMod (.int i) (.int j) = if 0 < j then some (.int (i % j), .st) else none := rfl
theorem e_lt : gLt (.int i) (.int j) = some (.bl (decide (i < j)), .st) := rfl
theorem e_le : gLe (.int i) (.int j) = some (.bl (decide (i ≤ j)), .st) := rfl
theorem e_gt : gGt (.int i) (.int j) = some (.bl (decide (j < i)), .st) := rfl
theorem e_ge : gGe (.int i) (.int j) = some (.bl (decide (j ≤ i)), .st) := rfl
theorem e_neg : gNeg (.int i) = some (.int (-i), .st) := rfl
theorem e_not : gNot (.bl b) = some (.bl (!b), .st) := rfl
theorem e_isn : gIsN d = some (.bl (isNon d), .st) := rfl
theorem e_notn : gNotN d = some (.bl (!isNon d), .st) := rfl
theorem e_nn : isNon .non = true := rfl
theorem e_ni : isNon (.int i) = false := rfl
theorem e_ns : isNon (.str s) = false := rfl
theorem e_nb : isNon (.bl b) = false := rfl
theorem e_nl : isNon (.lst ds) = false := rfl
theorem e_nt : isNon (.tup ds) = false := rfl
theorem e_eqs : eqB (.str s) (.str t) = some (decide (s = t)) := by simp [eqB, flatV?, scal]
theorem e_eqi : eqB (.int i) (.int j) = some (decide (i = j)) := by simp [eqB, flatV?, scal]
theorem e_eqb : eqB (.bl b) (.bl b') = some (decide (b = b')) := by simp [eqB, flatV?, scal]
theorem e_eqn : eqB .non .non = some true := by simp [eqB, flatV?, scal]
theorem e_eqni : eqB .non (.int i) = some false := by simp [eqB, flatV?, scal]
theorem e_eqin : eqB (.int i) .non = some false := by simp [eqB, flatV?, scal]
theorem e_eqns : eqB .non (.str s) = some false := by simp [eqB, flatV?, scal]
theorem e_eqsn : eqB (.str s) .non = some false := by simp [eqB, flatV?, scal]
theorem e_eqsi : eqB (.str s) (.int i) = some false := by simp [eqB, flatV?, scal]
theorem e_eqis : eqB (.int i) (.str s) = some false := by simp [eqB, flatV?, scal]
theorem e_eq : gEq d e = (eqB d e).map fun b => (.bl b, .st) := rfl
theorem e_ne : gNe d e = (eqB d e).map fun b => (.bl (!b), .st) := rfl
theorem e_in : gIn d e = (inB d e).map fun b => (.bl b, .st) := rfl
theorem e_nin : gNotIn d e = (inB d e).map fun b => (.bl (!b), .st) := rfl
theorem e_din : gDIn d e = (dgetB e d).map fun r => (.bl r.isSome, .st) := rfl
theorem e_dnin : gDNotIn d e = (dgetB e d).map fun r => (.bl (!r.isSome), .st) := rfl
theorem e_dget : gDGet d e = (dgetB d e).bind fun r => r.map scD := rfl
theorem e_dget1 : gDGet1 d e = (dgetB d e).map fun r => match r with
  | some s => scD s
  | none => (.non, .st) := rfl
def anX (r : Res) (f2 : Dl → Res) (δ : Dl) : Res := bindR r fun d _ => match d with
  | .bl true => f2 δ
  | .bl false => .ok (.bl false) .st
  | _ => .no
theorem e_and : andR f1 f2 δ = anX (f1 δ) f2 δ := rfl
theorem e_andt : anX (.ok (.bl true) k) f2 δ = f2 δ := rfl
theorem e_andf : anX (.ok (.bl false) k) f2 δ = .ok (.bl false) .st := rfl
theorem e_ande : anX (.er c) f2 δ = .er c := rfl
def orX (r : Res) (f2 : Dl → Res) (δ : Dl) : Res := bindR r fun d _ => match d with
  | .bl false => f2 δ
  | .bl true => .ok (.bl true) .st
  | _ => .no
theorem e_or : orR f1 f2 δ = orX (f1 δ) f2 δ := rfl
theorem e_orf : orX (.ok (.bl false) k) f2 δ = f2 δ := rfl
theorem e_ort : orX (.ok (.bl true) k) f2 δ = .ok (.bl true) .st := rfl
def tsX (r : Res) : ResB := match r with
  | .ok (.bl b) _ => .ok b
  | .er c => .er c
  | _ => .no
theorem e_tst : tstR f δ = tsX (f δ) := rfl
theorem e_ts : tsX (.ok (.bl b) k) = .ok b := rfl
theorem e_tse : tsX (.er c) = .er c := rfl
def baX (r : ResB) (f2 : Dl → ResB) (δ : Dl) : ResB := match r with
  | .ok true => f2 δ
  | r => r
theorem e_band : bandR p1 p2 δ = baX (p1 δ) p2 δ := rfl
theorem e_bat : baX (.ok true) p2 δ = p2 δ := rfl
theorem e_baf : baX (.ok false) p2 δ = .ok false := rfl
theorem e_bae : baX (.er c) p2 δ = .er c := rfl
def boX (r : ResB) (f2 : Dl → ResB) (δ : Dl) : ResB := match r with
  | .ok false => f2 δ
  | r => r
theorem e_bor : borR p1 p2 δ = boX (p1 δ) p2 δ := rfl
theorem e_bof : boX (.ok false) p2 δ = p2 δ := rfl
theorem e_bot : boX (.ok true) p2 δ = .ok true := rfl
theorem e_boe : boX (.er c) p2 δ = .er c := rfl
def bnX (r : ResB) : ResB := match r with
  | .ok b => .ok (!b)
  | r => r
theorem e_bnot : bnotR p δ = bnX (p δ) := rfl
theorem e_bn : bnX (.ok b) = .ok (!b) := rfl
theorem e_bne : bnX (.er c) = .er c := rfl
def ieX (r : ResB) (f g : Dl → Res) (δ : Dl) : Res := match r with
  | .ok true => f δ
  | .ok false => g δ
  | .er c => .er c
  | .no => .no
theorem e_ife : ifR p f1 f2 δ = ieX (p δ) f1 f2 δ := rfl
theorem e_iet : ieX (.ok true) f1 f2 δ = f1 δ := rfl
theorem e_ief : ieX (.ok false) f1 f2 δ = f2 δ := rfl
def chX (r : Opt) (g' : D → D → Opt) (e : D) (f3 : Dl → Res) (δ : Dl) : Res := match r with
  | some (.bl true, .st) => bindR (f3 δ) fun u _ => optR (g' e u)
  | some (.bl false, .st) => .ok (.bl false) .st
  | _ => .no
def ch2 (g g' : D → D → Opt) (r1 r2 : Res) (f3 : Dl → Res) (δ : Dl) : Res := bindR r1 fun d _ => bindR r2 fun e _ => chX (g d e) g' e f3 δ
theorem e_ch : chR g g' f1 f2 f3 δ = ch2 g g' (f1 δ) (f2 δ) f3 δ := rfl
theorem e_ch2 : ch2 g g' (.ok d k) (.ok e k') f3 δ = chX (g d e) g' e f3 δ := rfl
theorem e_cht : chX (some (.bl true, .st)) g' e f3 δ = op1 (g' e) (f3 δ) := rfl
theorem e_chf : chX (some (.bl false, .st)) g' e f3 δ = .ok (.bl false) .st := rfl
theorem e_nil : nilR δ = .ok [] true := rfl
def cnX (r : Res) (q : ResA) : ResA := match r with
  | .ok d k => (match q with
    | .ok ds st => .ok (d :: ds) (stK d k && st)
    | .er c => .er c
    | .no => .no)
  | .er c => .er c
  | .no => .no
theorem e_cons : consR f fa δ = cnX (f δ) (fa δ) := rfl
theorem e_cn : cnX (.ok d k) (.ok ds b) = .ok (d :: ds) (stK d k && b) := rfl
theorem e_cne : cnX (.er c) q = .er c := rfl
theorem e_cnf : cnX (.ok d k) (.er c) = .er c := rfl
theorem e_arg1 : arg1 f δ = cnX (f δ) (.ok [] true) := rfl
theorem e_arg2 : arg2 f1 f2 δ = cnX (f1 δ) (cnX (f2 δ) (.ok [] true)) := rfl
def lsX (r : ResA) : Res := match r with
  | .ok ds st => if st = true ∧ ds.length ≤ sizeLine then .ok (.lst ds) .tp else .no
  | .er c => .er c
  | .no => .no
theorem e_lst : lstR fa δ = lsX (fa δ) := rfl
theorem e_ls (h : ds.length ≤ sizeLine := by exact Nat.le_of_ble_eq_true rfl) : lsX (.ok ds true) = .ok (.lst ds) .tp := by unfold lsX; simp only [h, and_self, if_true]
theorem e_lse : lsX (.er c) = .er c := rfl
theorem le_sz0 : (0 : Nat) ≤ sizeLine := Nat.zero_le _
theorem le_sz {n : Nat} (h : n ≤ 1000) : n ≤ sizeLine := Nat.le_trans h (by decide +kernel)
theorem lt_sz {n : Nat} (h : n ≤ 1000) : n < sizeLine := Nat.lt_of_le_of_lt h (by decide +kernel)
theorem e_ls0 : lsX (.ok [] true) = .ok (.lst []) .tp := e_ls (le_sz0)
theorem e_ls1 {a : D} : lsX (.ok [a] true) = .ok (.lst [a]) .tp := e_ls (le_sz (by simp))
theorem e_ls2 {a1 a2 : D} : lsX (.ok [a1, a2] true) = .ok (.lst [a1, a2]) .tp := e_ls (le_sz (by simp))
theorem e_ls3 {a1 a2 a3 : D} : lsX (.ok [a1, a2, a3] true) = .ok (.lst [a1, a2, a3]) .tp := e_ls (le_sz (by simp))
theorem e_ls4 {a1 a2 a3 a4 : D} : lsX (.ok [a1, a2, a3, a4] true) = .ok (.lst [a1, a2, a3, a4]) .tp := e_ls (le_sz (by simp))
theorem e_ls5 {a1 a2 a3 a4 a5 : D} : lsX (.ok [a1, a2, a3, a4, a5] true) = .ok (.lst [a1, a2, a3, a4, a5]) .tp := e_ls (le_sz (by simp))
theorem e_ls6 {a1 a2 a3 a4 a5 a6 : D} : lsX (.ok [a1, a2, a3, a4, a5, a6] true) = .ok (.lst [a1, a2, a3, a4, a5, a6]) .tp := e_ls (le_sz (by simp))
theorem e_ls7 {a1 a2 a3 a4 a5 a6 a7 : D} : lsX (.ok [a1, a2, a3, a4, a5, a6, a7] true) = .ok (.lst [a1, a2, a3, a4, a5, a6, a7]) .tp := e_ls (le_sz (by simp))
theorem e_ls8 {a1 a2 a3 a4 a5 a6 a7 a8 : D} : lsX (.ok [a1, a2, a3, a4, a5, a6, a7, a8] true) = .ok (.lst [a1, a2, a3, a4, a5, a6, a7, a8]) .tp := e_ls (le_sz (by simp))
def tuX (r : ResA) : Res := match r with
  | .ok ds st => if st = true ∧ ds.length ≤ sizeLine then .ok (.tup ds) .st else .no
  | .er c => .er c
  | .no => .no
theorem e_tup : tupR fa δ = tuX (fa δ) := rfl
theorem e_tu (h : ds.length ≤ sizeLine) : tuX (.ok ds true) = .ok (.tup ds) .st := by unfold tuX; simp only [h, and_self, if_true]
theorem e_tue : tuX (.er c) = .er c := rfl
theorem e_tu0 : tuX (.ok [] true) = .ok (.tup []) .st := e_tu (le_sz0)
theorem e_tu1 {a : D} : tuX (.ok [a] true) = .ok (.tup [a]) .st := e_tu (le_sz (by simp))
theorem e_tu2 {a1 a2 : D} : tuX (.ok [a1, a2] true) = .ok (.tup [a1, a2]) .st := e_tu (le_sz (by simp))
theorem e_tu3 {a1 a2 a3 : D} : tuX (.ok [a1, a2, a3] true) = .ok (.tup [a1, a2, a3]) .st := e_tu (le_sz (by simp))
theorem e_tu4 {a1 a2 a3 a4 : D} : tuX (.ok [a1, a2, a3, a4] true) = .ok (.tup [a1, a2, a3, a4]) .st := e_tu (le_sz (by simp))
theorem e_dnew : gDnew δ = .ok (.dt []) .tp := rfl
def cbX (g : List D → Opt) (r : ResA) : Res := match r with
  | .ok ds _ => optR (g ds)
  | .er c => .er c
  | .no => .no
theorem e_cb {g : List D → Opt} : cbR g fa δ = cbX g (fa δ) := rfl
theorem e_cbo {g : List D → Opt} : cbX g (.ok ds b) = optR (g ds) := rfl
theorem e_cbe {g : List D → Opt} : cbX g (.er c) = .er c := rfl
theorem e_lens : gLen [.str s] = if s.length ≤ sizeLine then some (.int s.length, .st) else none := rfl
theorem e_lenl : gLen [.lst ds] = some (.int ds.length, .st) := rfl
theorem e_lent : gLen [.tup ds] = some (.int ds.length, .st) := rfl
theorem e_lenc {ns : List Int} : gLen [.scr ns] = some (.int ns.length, .st) := rfl
theorem e_list : gList [.lst ds] = if imms ds = true then some (.lst ds, .tp) else none := rfl
theorem e_listt : gList [.tup ds] = if imms ds = true then some (.lst ds, .tp) else none := rfl
theorem e_inti : gInt [.int i] = some (.int i, .st) := rfl
theorem e_intb : gInt [.bl b] = some (.int (if b then 1 else 0), .st) := rfl
theorem e_ints : gInt [.str s] = if s.length ≤ 640 then (PySem.intText? s).map fun n => (.int n, .st) else none := rfl
theorem e_max : gMax2 [.int i, .int j] = some (.int (if j > i then j else i), .st) := rfl
theorem e_min : gMin2 [.int i, .int j] = some (.int (if j < i then j else i), .st) := rfl
/-! holding -/
theorem e_kst : stK d .st = true := rfl
theorem e_ktp : stK d .tp = true := rfl
theorem e_kdp : stK d .dp = true := rfl
theorem e_ki : stK (.int i) k = true := by cases k <;> rfl
theorem e_ks : stK (.str s) k = true := by cases k <;> rfl
theorem e_kb : stK (.bl b) k = true := by cases k <;> rfl
theorem e_kn : stK .non k = true := by cases k <;> rfl
theorem e_ktb : stK (.tup ds) .bw = imms ds := rfl
theorem e_kta : stK (.tup ds) .any = imms ds := rfl
theorem e_xst : kIx d .st = .st := rfl
theorem e_xtp : kIx d .tp = .st := rfl
theorem e_xdp : kIx d .dp = .st := rfl
theorem e_xbw : kIx (.lst ds) .bw = .bw := rfl
theorem e_xan : kIx (.lst ds) .any = .any := rfl
theorem e_xcb {ns : List Int} : kIx (.scr ns) .bw = .bw := rfl
theorem e_xs : kIx (.str s) k = .st := by cases k <;> rfl
theorem e_si : setS (.int i) k = some (.sh (.int i)) := rfl
theorem e_ss : setS (.str s) k = some (.sh (.str s)) := rfl
theorem e_sb : setS (.bl b) k = some (.sh (.bl b)) := rfl
theorem e_sn : setS .non k = some (.sh .non) := rfl
theorem e_slt : setS (.lst ds) .tp = some (.ow (.lst ds)) := rfl
theorem e_sls : setS (.lst ds) .st = some (.sh (.lst ds)) := rfl
theorem e_slb : setS (.lst ds) .bw = some (.bo (.lst ds)) := rfl
theorem e_sld (h : imms ds = true) : setS (.lst ds) .dp = some (.ow (.lst ds)) := by simp only [setS, imm, h, if_true, Bool.false_eq_true, if_false]
theorem e_sdp {kvs} : setS (.dt kvs) .tp = some (.ow (.dt kvs)) := rfl
theorem e_sst : setS d .st = some (.sh d) := by unfold setS; split <;> rfl
theorem e_its : itemS d .st = some (.sh d) := by unfold itemS; split <;> rfl
theorem e_itb (h : imm d = true) : itemS d .bw = some (.sh d) := by unfold itemS; rw [if_pos h]
theorem e_itbl : itemS (.lst ds) .bw = some (.bo (.lst ds)) := rfl
/-! reading -/
def ixX (r1 r2 : Res) : Res := bindR r1 fun d k => bindR r2 fun e _ => optR (gIx d k e)
theorem e_ix : ixR f1 f2 δ = ixX (f1 δ) (f2 δ) := rfl
theorem e_ixo : ixX (.ok d k) (.ok (.int i) k') = optR ((itemD d i).map fun x => (x, kIx d k)) := rfl
theorem e_ixe : ixX (.er c) r = .er c := rfl
theorem e_ixf : ixX (.ok d k) (.er c) = .er c := rfl
theorem e_nop : noPart δ = .ok none := rfl
def smX (r : Res) : ResO := match r with
  | .ok (.int i) _ => .ok (some i)
  | .er c => .er c
  | _ => .no
theorem e_som : someR f δ = smX (f δ) := rfl
theorem e_smo : smX (.ok (.int i) k) = .ok (some i) := rfl
def slX (r : Res) (p q : ResO) : Res := bindR r fun d _ => match p with
  | .ok lo => (match q with
    | .ok hi => optR (gSl d lo hi)
    | .er c => .er c
    | .no => .no)
  | .er c => .er c
  | .no => .no
theorem e_sl {p q : Dl → ResO} : slR f p q δ = slX (f δ) (p δ) (q δ) := rfl
theorem e_slo {lo hi : Option Int} : slX (.ok d k) (.ok lo) (.ok hi) = optR (gSl d lo hi) := rfl
theorem e_gsl {lo hi : Option Int} : gSl (.lst ds) lo hi = if imms ds = true then some (.lst (cutD ds lo hi), .tp) else none := rfl
theorem e_gss {lo hi : Option Int} : gSl (.str s) lo hi = if s.length ≤ sizeLine then some (.str (cutS s lo hi), .st) else none := rfl
theorem e_rev : gRev (.lst ds) = if imms ds = true then some (.lst ds.reverse, .tp) else none := rfl
def d1X (r1 r2 : Res) : Res := bindR r1 fun d _ => if isDic d = true then bindR r2 fun e _ => optR (gDGet1 d e) else .no
theorem e_dg1 : dg1R f1 f2 δ = d1X (f1 δ) (f2 δ) := rfl
theorem e_d1o {kvs} : d1X (.ok (.dt kvs) k) (.ok e k') = optR (gDGet1 (.dt kvs) e) := rfl
theorem e_d1k {kvs} : d1X (.ok (.dk kvs) k) (.ok e k') = optR (gDGet1 (.dk kvs) e) := rfl
def m1X (g : D → D → Opt) (r1 r2 : Res) : Res := bindR r1 fun d _ => if isStr d = true then bindR r2 fun e _ => optR (g d e) else .no
theorem e_m1 : m1R g f1 f2 δ = m1X g (f1 δ) (f2 δ) := rfl
theorem e_m1o : m1X g (.ok (.str s) k) (.ok e k') = optR (g (.str s) e) := rfl
/-! calls -/
def clX (g : List D → Ret) (r : ResA) : Res := match r with
  | .ok ds _ => (match g ds with
    | .ok d => .ok d .dp
    | .er c => .er c
    | .no => .no)
  | .er c => .er c
  | .no => .no
def reX (r : Ret) : Res := match r with
  | .ok d => .ok d .dp
  | .er c => .er c
  | .no => .no
theorem e_call {g : List D → Ret} : callR g fa δ = clX g (fa δ) := rfl
theorem e_cl {g : List D → Ret} : clX g (.ok ds b) = reX (g ds) := rfl
theorem e_cle {g : List D → Ret} : clX g (.er c) = .er c := rfl
theorem e_re : reX (.ok d) = .ok d .dp := rfl
theorem e_ree : reX (.er c) = .er c := rfl
theorem e_rt : outR (.rt d) = .ok d := rfl
theorem e_rnx : outR (.nx δ) = .ok .non := rfl
theorem e_rer : outR (.er c δ) = .er c := rfl
theorem e_def0 : defR 0 m K [] = outR (K (List.replicate m .un)) := rfl
theorem e_def1 {a : D} : defR 1 m K [a] = outR (K (.bo a :: List.replicate m .un)) := rfl
theorem e_def2 {a1 a2 : D} : defR 2 m K [a1, a2] = outR (K (.bo a1 :: .bo a2 :: List.replicate m .un)) := rfl
theorem e_def3 {a1 a2 a3 : D} : defR 3 m K [a1, a2, a3] = outR (K (.bo a1 :: .bo a2 :: .bo a3 :: List.replicate m .un)) := rfl
theorem e_def4 {a1 a2 a3 a4 : D} : defR 4 m K [a1, a2, a3, a4] = outR (K (.bo a1 :: .bo a2 :: .bo a3 :: .bo a4 :: List.replicate m .un)) := rfl
theorem e_def5 {a1 a2 a3 a4 a5 : D} : defR 5 m K [a1, a2, a3, a4, a5] = outR (K (.bo a1 :: .bo a2 :: .bo a3 :: .bo a4 :: .bo a5 :: List.replicate m .un)) := rfl
theorem e_def6 {a1 a2 a3 a4 a5 a6 : D} : defR 6 m K [a1, a2, a3, a4, a5, a6] = outR (K (.bo a1 :: .bo a2 :: .bo a3 :: .bo a4 :: .bo a5 :: .bo a6 :: List.replicate m .un)) := rfl
/-! statements -/
theorem e_seq : seqF K1 K2 δ = seqO (K1 δ) K2 := rfl
theorem e_sqn : seqO (.nx δ) K = K δ := rfl
theorem e_sqr : seqO (.rt d) K = .rt d := rfl
theorem e_sqe : seqO (.er c δ) K = .er c δ := rfl
theorem e_sqb : seqO (.bk δ) K = .bk δ := rfl
theorem e_sqc : seqO (.ct δ) K = .ct δ := rfl
def seX (n : Nat) (r : Res) (δ : Dl) : Out := match r with
  | .ok d k => (match setS d k with
    | some x => .nx (δ.set n x)
    | none => .no)
  | .er c => .er c δ
  | .no => .no
def se2 (n : Nat) (r : Option Slot) (δ : Dl) : Out := match r with
  | some x => .nx (δ.set n x)
  | none => .no
theorem e_set : setO n f δ = seX n (f δ) δ := rfl
theorem e_seo : seX n (.ok d k) δ = se2 n (setS d k) δ := rfl
theorem e_see : seX n (.er c) δ = .er c δ := rfl
theorem e_se2 {x : Slot} : se2 n (some x) δ = .nx (δ.set n x) := rfl
def ifX (r : ResB) (k1 k2 : Dl → Out) (δ : Dl) : Out := match r with
  | .ok true => k1 δ
  | .ok false => k2 δ
  | .er c => .er c δ
  | .no => .no
theorem e_if : ifO p K1 K2 δ = ifX (p δ) K1 K2 δ := rfl
theorem e_ift : ifX (.ok true) K1 K2 δ = K1 δ := rfl
theorem e_iff : ifX (.ok false) K1 K2 δ = K2 δ := rfl
theorem e_ifr : ifX (.er c) K1 K2 δ = .er c δ := rfl
def rtX (r : Res) (δ : Dl) : Out := match r with
  | .ok d k => if stK d k = true then .rt d else .no
  | .er c => .er c δ
  | .no => .no
theorem e_ret : retO f δ = rtX (f δ) δ := rfl
theorem e_rto : rtX (.ok d k) δ = if stK d k = true then .rt d else .no := rfl
theorem e_rte : rtX (.er c) δ = .er c δ := rfl
def epX (r : Res) (δ : Dl) : Out := match r with
  | .ok _ _ => .nx δ
  | .er c => .er c δ
  | .no => .no
theorem e_exp : expO f δ = epX (f δ) δ := rfl
theorem e_epo : epX (.ok d k) δ = .nx δ := rfl
theorem e_epe : epX (.er c) δ = .er c δ := rfl
theorem e_rai : raiO c δ = .er c δ := rfl
theorem e_frz {is : List Nat} : frzF is K δ = K (frzO is δ) := rfl
theorem e_fro : frzO [] δ = δ := rfl
theorem e_frc {is : List Nat} : frzO (n :: is) δ = frzO is (match δ[n]? with
  | some x => δ.set n (frzS x)
  | none => δ) := rfl
theorem e_fzo : frzS (.ow d) = .sh d := rfl
theorem e_fzd : frzS (.dp d) = .sh d := rfl
theorem e_fzs : frzS (.sh d) = .sh d := rfl
theorem e_fzb : frzS (.bo d) = .bo d := rfl
theorem e_fzu : frzS .un = .un := rfl
def foX (r : ItR) (n : Nat) (K : Dl → Out) (δ : Dl) : Out := match r with
  | .ok items k => if k = .st ∨ k = .bw then forL n k K items δ else .no
  | .er c => .er c δ
  | .no => .no
theorem e_for {it : Dl → ItR} : forO it n K δ = foX (it δ) n K δ := rfl
theorem e_fos : foX (.ok ds .st) n K δ = forL n .st K ds δ := rfl
theorem e_fob : foX (.ok ds .bw) n K δ = forL n .bw K ds δ := rfl
theorem e_foe : foX (.er c) n K δ = .er c δ := rfl
def liX (r : Res) : ItR := match r with
  | .ok (.lst ds) k => .ok ds (kIx (.lst ds) k)
  | .er c => .er c
  | _ => .no
theorem e_lii : lstI f δ = liX (f δ) := rfl
theorem e_lio : liX (.ok (.lst ds) k) = .ok ds (kIx (.lst ds) k) := rfl
def tiX (r : Res) : ItR := match r with
  | .ok (.tup ds) k => .ok ds (kIx (.tup ds) k)
  | .er c => .er c
  | _ => .no
theorem e_tii : tupI f δ = tiX (f δ) := rfl
theorem e_tio : tiX (.ok (.tup ds) k) = .ok ds (kIx (.tup ds) k) := rfl
def stX (r : Res) : ItR := match r with
  | .ok (.str s) _ => .ok (sgns s) .st
  | .er c => .er c
  | _ => .no
theorem e_sti : strI f δ = stX (f δ) := rfl
theorem e_sto : stX (.ok (.str s) k) = .ok (sgns s) .st := rfl
def r1X (r : Res) : ItR := match r with
  | .ok (.int j) _ => if smallR j = true then .ok (rng 0 1 j.toNat) .st else .no
  | .er c => .er c
  | _ => .no
theorem e_r1 : rng1I f δ = r1X (f δ) := rfl
theorem e_r1o : r1X (.ok (.int j) k) = if smallR j = true then .ok (rng 0 1 j.toNat) .st else .no := rfl
def r2X (r q : Res) : ItR := match r with
  | .ok (.int i) _ => (match q with
    | .ok (.int j) _ => if smallR i = true ∧ smallR j = true then .ok (rng i 1 (j - i).toNat) .st else .no
    | .er c => .er c
    | _ => .no)
  | .er c => .er c
  | _ => .no
theorem e_r2 : rng2I f1 f2 δ = r2X (f1 δ) (f2 δ) := rfl
theorem e_r2o : r2X (.ok (.int i) k) (.ok (.int j) k') = if smallR i = true ∧ smallR j = true then .ok (rng i 1 (j - i).toNat) .st else .no := rfl
def coX (r : ItR) (n : Nat) (p : Dl → ResB) (f : Dl → Res) (δ : Dl) : Res := match r with
  | .ok items _ => if noAn (δ.set n .un) = true then (match compL n p f (δ.set n .un) items [] with
    | some acc => .ok (.lst acc) .tp
    | none => .no) else .no
  | .er c => .er c
  | .no => .no
def ccX (r : Option (List D)) : Res := match r with
    | some acc => .ok (.lst acc) .tp
    | none => .no
theorem e_comp {it : Dl → ItR} : compR it n p f δ = coX (it δ) n p f δ := rfl
theorem e_coo : coX (.ok ds k) n p f δ = if noAn (δ.set n .un) = true then ccX (compL n p f (δ.set n .un) ds []) else .no := rfl
theorem e_cc : ccX (some ds) = .ok (.lst ds) .tp := rfl
theorem e_yes : yesR δ = .ok true := rfl
theorem e_na0 : noAn [] = true := rfl
theorem e_nas : noAn (.sh d :: δ) = noAn δ := rfl
theorem e_nab : noAn (.bo d :: δ) = noAn δ := rfl
theorem e_nao : noAn (.ow d :: δ) = noAn δ := rfl
theorem e_nad : noAn (.dp d :: δ) = noAn δ := rfl
theorem e_nau : noAn (.un :: δ) = noAn δ := rfl
theorem e_naa : noAn (.an d :: δ) = false := rfl
theorem e_nae : noAn (.ex c :: δ) = noAn δ := rfl
theorem e_ne0 : noEx [] = true := rfl
theorem e_nes : noEx (.sh d :: δ) = noEx δ := rfl
theorem e_neb : noEx (.bo d :: δ) = noEx δ := rfl
theorem e_neo : noEx (.ow d :: δ) = noEx δ := rfl
theorem e_ned : noEx (.dp d :: δ) = noEx δ := rfl
theorem e_neu : noEx (.un :: δ) = noEx δ := rfl
theorem e_nea : noEx (.an d :: δ) = noEx δ := rfl
theorem e_nee : noEx (.ex c :: δ) = false := rfl
def apX (r : Option Slot) (q : Res) (n : Nat) (δ : Dl) : Out := match r with
  | some (.ow (.lst ds)) => (match q with
    | .ok d k => if stK d k = true ∧ ds.length < sizeLine ∧ noAn δ = true then .nx (δ.set n (.ow (.lst (ds ++ [d])))) else .no
    | .er c => .er c δ
    | .no => .no)
  | _ => .no
theorem e_app : appO n f δ = apX δ[n]? (f δ) n δ := rfl
theorem e_apo : apX (some (.ow (.lst ds))) (.ok d k) n δ = if stK d k = true ∧ ds.length < sizeLine ∧ noAn δ = true then .nx (δ.set n (.ow (.lst (ds ++ [d])))) else .no := rfl
def siX (q : Res) (r : Option Slot) (x : Res) (n : Nat) (δ : Dl) : Out := match q with
  | .ok d k => (match r with
    | some (.ow (.lst ds)) => (match x with
      | .ok (.int j) _ => (match ixN ds.length j with
        | some at' => if stK d k = true ∧ noAn δ = true then .nx (δ.set n (.ow (.lst (ds.set at' d)))) else .no
        | none => .no)
      | .er c => .er c δ
      | _ => .no)
    | _ => .no)
  | .er c => .er c δ
  | .no => .no
def si2 (r : Option Nat) (d : D) (k : Kd) (ds : List D) (n : Nat) (δ : Dl) : Out := match r with
        | some at' => if stK d k = true ∧ noAn δ = true then .nx (δ.set n (.ow (.lst (ds.set at' d)))) else .no
        | none => .no
theorem e_sei : setiO n f1 f2 δ = siX (f2 δ) δ[n]? (f1 δ) n δ := rfl
theorem e_sio : siX (.ok d k) (some (.ow (.lst ds))) (.ok (.int j) k') n δ = si2 (ixN ds.length j) d k ds n δ := rfl
theorem e_si2 : si2 (some m) d k ds n δ = if stK d k = true ∧ noAn δ = true then .nx (δ.set n (.ow (.lst (ds.set m d)))) else .no := rfl
def dpX (q : Res) (r : Option Slot) (x : Res) (n : Nat) (δ : Dl) : Out := match q with
  | .ok d _ => (match scOf d with
    | some v => (match r with
      | some (.ow m) => (match x with
        | .ok kd _ => (match dput m kd v with
          | some m' => if noAn δ = true then .nx (δ.set n (.ow m')) else .no
          | none => .no)
        | .er c => .er c δ
        | .no => .no)
      | _ => .no)
    | none => .no)
  | .er c => .er c δ
  | .no => .no
def dp2 (r : Option D) (n : Nat) (δ : Dl) : Out := match r with
          | some m' => if noAn δ = true then .nx (δ.set n (.ow m')) else .no
          | none => .no
theorem e_dput : dputO n f1 f2 δ = dpX (f2 δ) δ[n]? (f1 δ) n δ := rfl
theorem e_dpi {m : D} : dpX (.ok (.int i) k) (some (.ow m)) (.ok e k') n δ = dp2 (dput m e (.int i)) n δ := rfl
theorem e_dpb {m : D} : dpX (.ok (.bl b) k) (some (.ow m)) (.ok e k') n δ = dp2 (dput m e (.bl b)) n δ := rfl
theorem e_dp2 {m : D} : dp2 (some m) n δ = if noAn δ = true then .nx (δ.set n (.ow m)) else .no := rfl
def tyX (o : Out) (j : Option Nat) (takes : Ex → Bool) (K : Dl → Out) : Out := match o with
  | .er c δ' => if takes c = true then (if noEx δ' = true then behO j (K (exO j c δ')) else .no) else .er c δ'
  | o => o
theorem e_try {j : Option Nat} {tk : Ex → Bool} : tryO j tk K1 K2 δ = tyX (K1 δ) j tk K2 := rfl
theorem e_tyn {j : Option Nat} {tk : Ex → Bool} : tyX (.nx δ) j tk K2 = .nx δ := rfl
theorem e_tyr {j : Option Nat} {tk : Ex → Bool} : tyX (.rt d) j tk K2 = .rt d := rfl
theorem e_tye {j : Option Nat} {tk : Ex → Bool} : tyX (.er c δ) j tk K2 = if tk c = true then (if noEx δ = true then behO j (K2 (exO j c δ)) else .no) else .er c δ := rfl
theorem e_exs : exO (some n) c δ = δ.set n (.ex c) := rfl
theorem e_exn : exO none c δ = δ := rfl
theorem e_uns : unO (some n) δ = δ.set n .un := rfl
theorem e_unn : unO none δ = δ := rfl
theorem e_ber {j : Option Nat} : behO j (.rt d) = .rt d := rfl
theorem e_ben {j : Option Nat} : behO j (.nx δ) = (match noEx (unO j δ) with
    | true => .nx (unO j δ)
    | false => .no) := rfl
theorem e_tka : takeAll c = true := rfl
theorem e_tko {c' : Ex} : takeOnly c c' = decide (c' = c) := rfl
def erX (r : Option Slot) (tk : Ex → Bool) : Res := match r with
  | some (.ex c) => .ok (.bl (tk c)) .st
  | _ => .no
theorem e_ise {tk : Ex → Bool} : isER n tk δ = erX δ[n]? tk := rfl
theorem e_ero {tk : Ex → Bool} : erX (some (.ex c)) tk = .ok (.bl (tk c)) .st := rfl
def unX (r : Res) (n m : Nat) (δ : Dl) : Out := match r with
  | .ok (.tup [d, e]) k => if stK (.tup [d, e]) k = true then .nx ((δ.set n (.sh d)).set m (.sh e)) else .no
  | .er c => .er c δ
  | _ => .no
theorem e_unp : unpO n m f δ = unX (f δ) n m δ := rfl
theorem e_unt : unX (.ok (.tup [d, e]) k) n m δ = if stK (.tup [d, e]) k = true then .nx ((δ.set n (.sh d)).set m (.sh e)) else .no := rfl
theorem e_imi : imm (.int i) = true := rfl
theorem e_ims : imm (.str s) = true := rfl
theorem e_imb : imm (.bl b) = true := rfl
theorem e_imn : imm .non = true := rfl
theorem e_imt : imm (.tup ds) = imms ds := rfl
theorem e_im0 : imms [] = true := rfl
theorem e_imc : imms (d :: ds) = (imm d && imms ds) := rfl
theorem e_sml (h1 : -1000000000000 ≤ i) (h2 : i ≤ 1000000000000) : smallI i = true := by
  simp only [smallI, Bool.and_eq_true, decide_eq_true_eq]; omega
theorem e_smr (h1 : -1000000000000 ≤ i) (h2 : i ≤ 1000000000000) : smallR i = true := by
  simp only [smallR, Bool.and_eq_true, decide_eq_true_eq]; omega
theorem get_rng1 {n m : Nat} {d : D} (h : (rng 0 1 n)[m]? = some d) : m < n ∧ d = .int m := by
  simp only [rng, List.getElem?_map, Option.map_eq_some_iff] at h
  obtain ⟨j, h1, h2⟩ := h
  obtain ⟨h3, h4⟩ := List.getElem?_eq_some_iff.mp h1
  simp at h3 h4
  subst h4
  exact ⟨h3, by rw [← h2]; congr 1; omega⟩
theorem item_l (h0 : 0 ≤ i) (h1 : i < ds.length) : itemD (.lst ds) i = ds[i.toNat]? := by
  unfold itemD atI ixN
  simp only
  rw [if_pos h0, if_pos h1]
  rfl
theorem item_t (h0 : 0 ≤ i) (h1 : i < ds.length) : itemD (.tup ds) i = ds[i.toNat]? := by
  unfold itemD atI ixN
  simp only
  rw [if_pos h0, if_pos h1]
  rfl
theorem item_str {L : List Str} (h0 : 0 ≤ i) (h1 : i < L.length) : itemD (.lst (L.map .str)) i = some (.str (L.getD i.toNat "")) := by
  rw [item_l h0 (by simpa using h1), List.getElem?_map, List.getElem?_eq_getElem (by omega), List.getD_eq_getElem?_getD, List.getElem?_eq_getElem (by omega)]
  rfl
theorem e_it0 {a0 : D} : itemD (.lst (a0 :: ds)) 0 = some a0 := by rw [item_l (by decide) (by simp only [List.length_cons]; omega)]; rfl
theorem e_it1 {a0 a1 : D} : itemD (.lst (a0 :: a1 :: ds)) 1 = some a1 := by rw [item_l (by decide) (by simp only [List.length_cons]; omega)]; rfl
theorem e_it2 {a0 a1 a2 : D} : itemD (.lst (a0 :: a1 :: a2 :: ds)) 2 = some a2 := by rw [item_l (by decide) (by simp only [List.length_cons]; omega)]; rfl
theorem e_it3 {a0 a1 a2 a3 : D} : itemD (.lst (a0 :: a1 :: a2 :: a3 :: ds)) 3 = some a3 := by rw [item_l (by decide) (by simp only [List.length_cons]; omega)]; rfl
theorem e_it4 {a0 a1 a2 a3 a4 : D} : itemD (.lst (a0 :: a1 :: a2 :: a3 :: a4 :: ds)) 4 = some a4 := by rw [item_l (by decide) (by simp only [List.length_cons]; omega)]; rfl
theorem e_itt0 {a0 : D} : itemD (.tup (a0 :: ds)) 0 = some a0 := by rw [item_t (by decide) (by simp only [List.length_cons]; omega)]; rfl
theorem e_itt1 {a0 a1 : D} : itemD (.tup (a0 :: a1 :: ds)) 1 = some a1 := by rw [item_t (by decide) (by simp only [List.length_cons]; omega)]; rfl
theorem e_itt2 {a0 a1 a2 : D} : itemD (.tup (a0 :: a1 :: a2 :: ds)) 2 = some a2 := by rw [item_t (by decide) (by simp only [List.length_cons]; omega)]; rfl
theorem e_itt3 {a0 a1 a2 a3 : D} : itemD (.tup (a0 :: a1 :: a2 :: a3 :: ds)) 3 = some a3 := by rw [item_t (by decide) (by simp only [List.length_cons]; omega)]; rfl
theorem e_itt4 {a0 a1 a2 a3 a4 : D} : itemD (.tup (a0 :: a1 :: a2 :: a3 :: a4 :: ds)) 4 = some a4 := by rw [item_t (by decide) (by simp only [List.length_cons]; omega)]; rfl
def plS : Slot → Bool
  | .an _ => false
  | .ex _ => false
  | _ => true
theorem e_pla {x : Slot} (h : plS x = true) : noAn (x :: δ) = noAn δ := by
  cases x <;> first | rfl | cases h
theorem e_ple {x : Slot} (h : plS x = true) : noEx (x :: δ) = noEx δ := by
  cases x <;> first | rfl | cases h
theorem e_pls : plS (.sh d) = true := rfl
theorem e_plu : plS .un = true := rfl
theorem e_plb : plS (.bo d) = true := rfl
theorem e_plo : plS (.ow d) = true := rfl
def flX (g : D → Option D) (r : Res) : Res := bindR r fun d k => match g d with
  | some x => .ok x (kIx d k)
  | none => .no
theorem e_fld {g : D → Option D} : fldR g f δ = flX g (f δ) := rfl
theorem e_flr {rows : List Rw} : flX gRows (.ok (.tar rows) k) = .ok (.lst (rows.map rowD)) (kIx (.tar rows) k) := rfl
theorem e_flt {rows : List Rw} : flX gTab (.ok (.tar rows) k) = .ok (.dt (tabK rows)) (kIx (.tar rows) k) := rfl
theorem e_xtb {rows : List Rw} : kIx (.tar rows) .bw = .bw := rfl
theorem e_xta {rows : List Rw} : kIx (.tar rows) .any = .any := rfl
def mtX (g : List D → Ret) (r : Res) (q : ResA) : Res := bindR r fun d _ => match d with
  | .tar rows => mtArg g rows q
  | _ => .no
theorem e_mth {g : List D → Ret} : mthR g f fa δ = mtX g (f δ) (fa δ) := rfl
theorem e_rrx : reR r = reX r := by cases r <;> rfl
theorem e_mto {g : List D → Ret} {rows : List Rw} : mtX g (.ok (.tar rows) k) (.ok ds b) = reX (g (.tar rows :: ds)) := by rw [← e_rrx]; rfl
def mkX (r : RetM) : Res := match r with
  | .ok rows => .ok (.tar rows) .dp
  | .er c => .er c
  | .no => .no
theorem e_mkt {g : D → RetM} : mkTarR g fa δ = mkA g (fa δ) := rfl
theorem e_mko {g : D → RetM} : mkA g (.ok [d] b) = mkX (g d) := by simp only [mkA]; cases g d <;> rfl
theorem e_mke {g : D → RetM} : mkA g (.er c) = .er c := rfl
theorem e_mkx {rows : List Rw} : mkX (.ok rows) = .ok (.tar rows) .dp := rfl
theorem e_mky : mkX (.er c) = .er c := rfl
theorem e_srt {rows : List Rw} : setS (.tar rows) .dp = some (.dp (.tar rows)) := rfl
theorem e_l2 : lst2R f1 f2 δ = l2X (f1 δ) (f2 δ) := rfl
theorem e_l2o : l2X (.ok d k) (.ok e k') = if frK d k = true ∧ frK e k' = true then .ok (.lst [d, e]) .dp else .no := rfl
theorem e_frd : frK d .dp = true := rfl
theorem e_frt : frK (.lst ds) .tp = imms ds := rfl
theorem e_sln (h : imms ds = false) : setS (.lst ds) .dp = some (.dp (.lst ds)) := by simp only [setS, imm, h, Bool.false_eq_true, if_false]
def paX (r : Option Slot) (n : Nat) (i j : Int) (f : Dl → Res) (δ : Dl) : Out := match r with
  | some (.dp (.lst ds)) => pairB n (itemD (.lst ds) i) (itemD (.lst ds) j) f δ
  | _ => .no
theorem e_pair : pairO n i j f δ = paX δ[n]? n i j f δ := rfl
theorem e_pao : paX (some (.dp (.lst ds))) n i j f δ = pairB n (itemD (.lst ds) i) (itemD (.lst ds) j) f δ := rfl
theorem e_pab {es : List D} : pairB n (some (.lst ds)) (some (.lst es)) f δ = if imms ds = true ∧ imms es = true ∧ noAn δ = true ∧ es.length < sizeLine then pairA n (f (δ.set n .un)) δ else .no := rfl
theorem e_paa : pairA n (.ok d k) δ = .nx (δ.set n .un) := rfl
def puX (g : List Rw → D → D → D → RetM) (n : Nat) (r : Option Slot) (δ : Dl) (q : ResA) : Out := match r with
  | some (.dp (.tar rows)) => putA g n rows δ q
  | _ => .no
def puY (r : RetM) (n : Nat) (δ : Dl) : Out := match r with
    | .ok rows' => .nx (δ.set n (.dp (.tar rows')))
    | .er e => .er e δ
    | .no => .no
theorem e_put {g : List Rw → D → D → D → RetM} : putO g n fa δ = puX g n δ[n]? δ (fa δ) := rfl
theorem e_puo {g : List Rw → D → D → D → RetM} {rows : List Rw} {a1 a2 a3 : D} : puX g n (some (.dp (.tar rows))) δ (.ok [a1, a2, a3] b) = if (flatV? a1).isSome = true ∧ (flatV? a2).isSome = true ∧ (flatV? a3).isSome = true ∧ noAn δ = true then puY (g rows a1 a2 a3) n δ else .no := rfl
theorem e_puy {rows : List Rw} : puY (.ok rows) n δ = .nx (δ.set n (.dp (.tar rows))) := rfl
theorem e_pue : puY (.er c) n δ = .er c δ := rfl
theorem e_fvs : flatV? (.str s) = some (.str s) := rfl
theorem e_fvi : flatV? (.int i) = some (.int i) := rfl
theorem e_fvb : flatV? (.bl b) = some (.bl b) := rfl
theorem e_fvn : flatV? .non = some .non := rfl
theorem e_dgt {kvs : List (List Key × Sc)} : dgetB (.dt kvs) (.tup [.str s, .str t]) = some (lookS kvs [.inr s, .inr t]) := rfl
theorem e_dgs {kvs : List (Key × Sc)} : dgetB (.dk kvs) (.str s) = some (lookS kvs (.inr s)) := rfl
theorem e_dgi {kvs : List (Key × Sc)} : dgetB (.dk kvs) (.int i) = some (lookS kvs (.inl i)) := rfl
theorem e_dpt {kvs : List (List Key × Sc)} {v : Sc} : dput (.dt kvs) (.tup [.str s, .str t]) v = if kvs.length < sizeLine then some (.dt (putS kvs [.inr s, .inr t] v)) else none := rfl
theorem e_dps {kvs : List (Key × Sc)} {v : Sc} : dput (.dk kvs) (.str s) v = if kvs.length < sizeLine then some (.dk (putS kvs (.inr s) v)) else none := rfl
theorem e_sdi : scD (.int i) = (.int i, .st) := rfl
theorem e_sdb : scD (.bl b) = (.bl b, .st) := rfl
theorem e_pld : plS (.dp d) = true := rfl
/-! tests that are not decided yet (given to `ev` by name) -/
def orY (b : Bool) (r : Res) : Res := match b with
  | true => .ok (.bl true) .st
  | false => r
theorem u_or : orX (.ok (.bl b) k) f2 δ = orY b (f2 δ) := by cases b <;> rfl
theorem u_oro : orY b (.ok (.bl b') .st) = .ok (.bl (b || b')) .st := by cases b <;> rfl
def anY (b : Bool) (r : Res) : Res := match b with
  | true => r
  | false => .ok (.bl false) .st
theorem u_an : anX (.ok (.bl b) k) f2 δ = anY b (f2 δ) := by cases b <;> rfl
theorem u_ano : anY b (.ok (.bl b') .st) = .ok (.bl (b && b')) .st := by cases b <;> rfl
def baY (b : Bool) (r : ResB) : ResB := match b with
  | true => r
  | false => .ok false
theorem u_ba : baX (.ok b) p2 δ = baY b (p2 δ) := by cases b <;> rfl
theorem u_bao : baY b (.ok b') = .ok (b && b') := by cases b <;> rfl
def boY (b : Bool) (r : ResB) : ResB := match b with
  | true => .ok true
  | false => r
theorem u_bo : boX (.ok b) p2 δ = boY b (p2 δ) := by cases b <;> rfl
theorem u_boo : boY b (.ok b') = .ok (b || b') := by cases b <;> rfl
/-! a < b < c < d, range(a, b, -1), d.get(k, e), x.clear(), x.extend(e), x.index(e) -/
def c3X (g g' g2 : D → D → Opt) (r1 r2 : Res) (f3 f4 : Dl → Res) (δ : Dl) : Res := bindR r1 fun d _ => bindR r2 fun e _ => chM3 g' g2 e f3 f4 δ (g d e)
theorem e_ch3 {g g' g2 : D → D → Opt} {f4 : Dl → Res} : ch3R g g' g2 f1 f2 f3 f4 δ = c3X g g' g2 (f1 δ) (f2 δ) f3 f4 δ := rfl
theorem e_c3o {g g' g2 : D → D → Opt} {f4 : Dl → Res} : c3X g g' g2 (.ok d k) (.ok e k') f3 f4 δ = chM3 g' g2 e f3 f4 δ (g d e) := rfl
def cmX (g' g2 : D → D → Opt) (e : D) (r : Res) (f4 : Dl → Res) (δ : Dl) : Res := bindR r fun u _ => chR3 g2 u (f4 δ) (g' e u)
theorem e_cmt {g' g2 : D → D → Opt} {f4 : Dl → Res} : chM3 g' g2 e f3 f4 δ (some (.bl true, .st)) = cmX g' g2 e (f3 δ) f4 δ := rfl
theorem e_cmf {g' g2 : D → D → Opt} {f4 : Dl → Res} : chM3 g' g2 e f3 f4 δ (some (.bl false, .st)) = .ok (.bl false) .st := rfl
theorem e_cmo {g' g2 : D → D → Opt} {f4 : Dl → Res} : cmX g' g2 e (.ok u k) f4 δ = chR3 g2 u (f4 δ) (g' e u) := rfl
theorem e_crt {r : Res} : chR3 g u r (some (.bl true, .st)) = op1 (g u) r := rfl
theorem e_crf {r : Res} : chR3 g u r (some (.bl false, .st)) = .ok (.bl false) .st := rfl
def r3X (r1 r2 r3 : Res) : ItR := match r1 with
  | .ok (.int i) _ => (match r2 with
    | .ok (.int j) _ => rng3A i j r3
    | .er c => .er c
    | _ => .no)
  | .er c => .er c
  | _ => .no
theorem e_r3 : rng3I f1 f2 f3 δ = r3X (f1 δ) (f2 δ) (f3 δ) := rfl
theorem e_r3o : r3X (.ok (.int i) k) (.ok (.int j) k') (.ok (.int (-1)) k2) = if smallR i = true ∧ smallR j = true then .ok (rng i (-1) (i - j).toNat) .st else .no := by
  simp only [r3X, rng3A, and_true]
def d2X (r1 r2 r3 : Res) : Res := bindR r1 fun d _ => if isDic d = true then bindR r2 fun e _ => bindR r3 fun u _ => optR (gDGet2 d e u) else .no
theorem e_dg2 : dg2R f1 f2 f3 δ = d2X (f1 δ) (f2 δ) (f3 δ) := rfl
theorem e_d2o {kvs} : d2X (.ok (.dt kvs) k) (.ok e k') (.ok u k2) = optR (gDGet2 (.dt kvs) e u) := rfl
theorem e_gd2 : gDGet2 d e u = match dgetB d e with
  | some (some s) => some (scD s)
  | some none => (match flatV? u with
    | some _ => some (u, .st)
    | none => none)
  | none => none := rfl
def caX (r : Option Slot) (n : Nat) (δ : Dl) : Out := match r with
  | some (.ow (.lst _)) => if noAn δ = true then .nx (δ.set n (.ow (.lst []))) else .no
  | _ => .no
theorem e_clr : clrO n δ = caX δ[n]? n δ := rfl
theorem e_cao : caX (some (.ow (.lst ds))) n δ = if noAn δ = true then .nx (δ.set n (.ow (.lst []))) else .no := rfl
def exX (r : Option Slot) (q : Res) (n : Nat) (δ : Dl) : Out := match r with
  | some (.ow (.lst ds)) => extA n ds δ q
  | _ => .no
theorem e_ext : extO n f δ = exX δ[n]? (f δ) n δ := rfl
theorem e_exo {es : List D} : exX (some (.ow (.lst ds))) (.ok (.lst es) k) n δ = if imms es = true ∧ ds.length + es.length ≤ sizeLine ∧ noAn δ = true then .nx (δ.set n (.ow (.lst (ds ++ es)))) else .no := rfl
def inX (r1 r2 : Res) : Res := bindR r1 fun d _ => if isLst d = true then bindR r2 fun e _ => optR (gIndex d e) else .no
theorem e_idx : indexR f1 f2 δ = inX (f1 δ) (f2 δ) := rfl
theorem e_ixl : inX (.ok (.lst ds) k) (.ok e k') = optR (gIndex (.lst ds) e) := rfl
end
end DD

set_option maxRecDepth 100000
namespace DD
noncomputable section
open PySem L2N
open L2 hiding XE Takes CX takes_of passes_call MkP PMk ps_raise mk_of ps_try_as pmk_own passAt HdsOk ps_try_many ps_try_only takes0
open L2H (HotC Hot1 RoomH roomH_of)
def b1_is_place : Dl → Out := (ifO (tstR (opR gNotIn (varR 1) (conR (.str "abcdefghijklmnopqrstuvwxyz")))) (retO (conR (.bl false))) .nx)
/-- is_place: what it computes of the slots 0 thing, 1 sign -/
def d_is_place : Dl → Out := (seqF (ifO (borR (bnotR (tstR (unR (gIsi "str") (varR 0)))) (bnotR (tstR (chR gLe gLe (conR (.int 1)) (cbR gLen (arg1 (varR 0))) (conR (.int 12)))))) (retO (conR (.bl false))) .nx)
  (seqF (forO (strI (varR 0)) 1 b1_is_place)
  (retO (conR (.bl true)))))
def g_is_place : List D → Ret := sealF (defR 1 1 d_is_place)
/-- is_price: what it computes of the slots 0 thing -/
def d_is_price : Dl → Out := (retO (andR (unR (gIsi "int") (varR 0)) (andR (unR gNot (unR (gIsi "bool") (varR 0))) (chR gLe gLe (conR (.int 0)) (varR 0) (conR (.int 1000000000000))))))
def g_is_price : List D → Ret := sealF (defR 1 0 d_is_price)
def p_put : Dl → Out := (seqF (ifO (borR (bnotR (tstR (callR g_is_place (consR (varR 1) nilR)))) (bnotR (tstR (callR g_is_place (consR (varR 2) nilR))))) (raiO .place) .nx)
  (seqF (ifO (tstR (opR gEq (varR 1) (varR 2))) (raiO .place) .nx)
  (seqF (ifO (bnotR (tstR (callR g_is_price (consR (varR 3) nilR)))) (raiO .price) .nx)
  (seqF (ifO (tstR (opR gDIn (tupR (consR (varR 1) (consR (varR 2) nilR))) (fldR gTab (varR 0)))) (raiO .twice) .nx)
  (seqF (ifO (tstR (opR gGe (cbR gLen (arg1 (fldR gRows (varR 0)))) (conR (.int 160)))) (raiO .many) .nx)
  .nx)))))
def g_put : List Rw → D → D → D → RetM := putG p_put
def g_init : D → RetM := initG g_put
/-- price: what it computes of the slots 0 self, 1 here, 2 there -/
def d_price : Dl → Out := (retO (dg1R (fldR gTab (varR 0)) (tupR (consR (varR 1) (consR (varR 2) nilR)))))
def g_price : List D → Ret := sealF (defR 3 0 d_price)
/-- told: what it computes of the slots 0 self -/
def d_told : Dl → Out := (retO (cbR gList (arg1 (fldR gRows (varR 0)))))
def g_told : List D → Ret := sealF (defR 1 0 d_told)
def b1_need_journey : Dl → Out := (seqF (ifO (bnotR (tstR (callR g_is_place (consR (varR 2) nilR)))) (raiO .place) .nx)
  (seqF (ifO (tstR (opR gEq (varR 2) (varR 1))) (raiO .journey) .nx)
  (setO 1 (varR 2))))
/-- need_journey: what it computes of the slots 0 places, 1 ahead, 2 place -/
def d_need_journey : Dl → Out := (seqF (ifO (bnotR (tstR (chR gLe gLe (conR (.int 2)) (cbR gLen (arg1 (varR 0))) (conR (.int 40))))) (raiO .journey) .nx)
  (seqF (setO 1 (conR .non))
  (seqF (forO (lstI (varR 0)) 2 b1_need_journey)
  (retO (cbR gList (arg1 (varR 0)))))))
def g_need_journey : List D → Ret := sealF (defR 1 2 d_need_journey)
def b1_fault : Dl → Out := (ifO (tstR (opR gIn (ixR (varR 4) (varR 6)) (slR (varR 4) (someR (varR 2)) (someR (varR 6))))) (frzF [6] (retO (tupR (consR (conR (.str "twice")) (consR (varR 6) nilR))))) .nx)
def b2_fault : Dl → Out := (seqF (setO 8 (mthR g_price (varR 0) (consR (ixR (varR 4) (varR 6)) (consR (ixR (varR 4) (varR 7)) nilR))))
  (ifO (bandR (tstR (unR gNotN (varR 8))) (tstR (opR gGt (varR 8) (varR 5)))) (frzF [6, 7] (retO (tupR (consR (conR (.str "dearer")) (consR (varR 6) (consR (varR 7) nilR)))))) .nx))
def b3_fault : Dl → Out := (forO (rng2I (opR gAdd (varR 6) (conR (.int 1))) (opR gAdd (varR 3) (conR (.int 1)))) 7 b2_fault)
/-- fault: what it computes of the slots 0 tariff, 1 journey, 2 at, 3 to, 4 places, 5 price, 6 k, 7 m, 8 found -/
def d_fault : Dl → Out := (seqF (setO 4 (callR g_need_journey (consR (varR 1) nilR)))
  (seqF (ifO (bnotR (tstR (ch3R gLe gLt gLt (conR (.int 0)) (varR 2) (varR 3) (cbR gLen (arg1 (varR 4)))))) (raiO .cuts) .nx)
  (seqF (setO 5 (mthR g_price (varR 0) (consR (ixR (varR 4) (varR 2)) (consR (ixR (varR 4) (varR 3)) nilR))))
  (seqF (ifO (tstR (unR gIsN (varR 5))) (retO (tupR (consR (conR (.str "price")) nilR))) .nx)
  (seqF (forO (rng2I (opR gAdd (varR 2) (conR (.int 1))) (opR gAdd (varR 3) (conR (.int 1)))) 6 b1_fault)
  (seqF (forO (rng2I (varR 2) (varR 3)) 6 b3_fault)
  (retO (conR .non))))))))
def g_fault : List D → Ret := sealF (defR 4 5 d_fault)
def b1_ends_from : Dl → Out := (seqF (ifO (tstR (opR gDIn (ixR (varR 1) (varR 7)) (varR 6))) .bk .nx)
  (seqF (dputO 6 (ixR (varR 1) (varR 7)) (conR (.bl true)))
  (seqF (setO 8 (mthR g_price (varR 0) (consR (ixR (varR 1) (varR 2)) (consR (ixR (varR 1) (varR 7)) nilR))))
  (seqF (setO 9 (cbR gMax2 (arg2 (ixR (varR 3) (varR 7)) (ixR (varR 5) (opR gSub (varR 7) (conR (.int 1)))))))
  (seqF (ifO (bandR (tstR (unR gNotN (varR 8))) (tstR (opR gGe (varR 8) (varR 9)))) (seqF (appO 4 (varR 7))
  (setO 9 (varR 8))) .nx)
  (setiO 5 (varR 7) (ifR (tstR (unR gIsN (varR 8))) (varR 9) (cbR gMax2 (arg2 (varR 9) (varR 8))))))))))
/-- ends_from: what it computes of the slots 0 tariff, 1 places, 2 at, 3 greatest, 4 ends, 5 row, 6 seen, 7 to, 8 price, 9 within -/
def d_ends_from : Dl → Out := (seqF (setO 4 (lstR nilR))
  (seqF (setO 5 (opR gMul (lstR (consR (unR gNeg (conR (.int 1))) nilR)) (cbR gLen (arg1 (varR 1)))))
  (seqF (setO 6 (disp1R (ixR (varR 1) (varR 2)) (conR (.bl true))))
  (seqF (forO (rng2I (opR gAdd (varR 2) (conR (.int 1))) (cbR gLen (arg1 (varR 1)))) 7 b1_ends_from)
  (frzF [4, 5] (retO (tupR (consR (varR 4) (consR (varR 5) nilR)))))))))
def g_ends_from : List D → Ret := sealF (defR 4 6 d_ends_from)
def e1_held : Dl → Res := (lstR nilR)
def b1_held : Dl → Out := (seqF (unpO 7 5 (callR g_ends_from (consR (varR 0) (consR (varR 2) (consR (varR 6) (consR (varR 5) nilR))))))
  (setiO 4 (varR 6) (varR 7)))
/-- held: what it computes of the slots 0 tariff, 1 journey, 2 places, 3 place, 4 found, 5 greatest, 6 at, 7 ends -/
def d_held : Dl → Out := (seqF (setO 2 (callR g_need_journey (consR (varR 1) nilR)))
  (seqF (setO 4 (compR (lstI (varR 2)) 3 yesR e1_held))
  (seqF (setO 5 (opR gMul (lstR (consR (unR gNeg (conR (.int 1))) nilR)) (cbR gLen (arg1 (varR 2)))))
  (seqF (forO (rng3I (opR gSub (cbR gLen (arg1 (varR 2))) (conR (.int 2))) (unR gNeg (conR (.int 1))) (unR gNeg (conR (.int 1)))) 6 b1_held)
  (frzF [4] (retO (varR 4)))))))
def g_held : List D → Ret := sealF (defR 2 6 d_held)
def b1_price_of : Dl → Out := (ifO (tstR (opR gLe (ixR (varR 2) (varR 4)) (ixR (varR 2) (opR gSub (varR 4) (conR (.int 1)))))) (raiO .cuts) .nx)
def b2_price_of : Dl → Out := (seqF (ifO (tstR (unR gNotN (callR g_fault (consR (varR 0) (consR (varR 3) (consR (ixR (varR 2) (opR gSub (varR 4) (conR (.int 1)))) (consR (ixR (varR 2) (varR 4)) nilR))))))) (raiO .held) .nx)
  (setO 5 (opR gAdd (varR 5) (mthR g_price (varR 0) (consR (ixR (varR 3) (ixR (varR 2) (opR gSub (varR 4) (conR (.int 1))))) (consR (ixR (varR 3) (ixR (varR 2) (varR 4))) nilR))))))
/-- price_of: what it computes of the slots 0 tariff, 1 journey, 2 cuts, 3 places, 4 k, 5 total -/
def d_price_of : Dl → Out := (seqF (setO 3 (callR g_need_journey (consR (varR 1) nilR)))
  (seqF (ifO (borR (tstR (opR gLt (cbR gLen (arg1 (varR 2))) (conR (.int 2)))) (borR (tstR (opR gNe (ixR (varR 2) (conR (.int 0))) (conR (.int 0)))) (tstR (opR gNe (ixR (varR 2) (unR gNeg (conR (.int 1)))) (opR gSub (cbR gLen (arg1 (varR 3))) (conR (.int 1))))))) (raiO .cuts) .nx)
  (seqF (forO (rng2I (conR (.int 1)) (cbR gLen (arg1 (varR 2)))) 4 b1_price_of)
  (seqF (setO 5 (conR (.int 0)))
  (seqF (forO (rng2I (conR (.int 1)) (cbR gLen (arg1 (varR 2)))) 4 b2_price_of)
  (frzF [5] (retO (varR 5))))))))
def g_price_of : List D → Ret := sealF (defR 3 3 d_price_of)
def e1_walked_back : Dl → Res := (conR .non)
def b1_walked_back : Dl → Out := (ifO (tstR (unR gNotN (ixR (varR 5) (varR 7)))) (seqF (setO 8 (opR gAdd (mthR g_price (varR 0) (consR (ixR (varR 1) (varR 6)) (consR (ixR (varR 1) (varR 7)) nilR))) (ixR (ixR (varR 5) (varR 7)) (conR (.int 0)))))
  (seqF (setO 9 (opR gAdd (ixR (ixR (varR 5) (varR 7)) (conR (.int 1))) (conR (.int 1))))
  (ifO (borR (tstR (unR gIsN (ixR (varR 5) (varR 6)))) (tstR (opR gLeT (tupR (consR (varR 8) (consR (varR 9) nilR))) (tupR (consR (ixR (ixR (varR 5) (varR 6)) (conR (.int 0))) (consR (ixR (ixR (varR 5) (varR 6)) (conR (.int 1))) nilR)))))) (setiO 5 (varR 6) (tupR (consR (varR 8) (consR (varR 9) (consR (varR 7) nilR))))) .nx))) .nx)
def b2_walked_back : Dl → Out := (forO (lstI (ixR (varR 2) (varR 6))) 7 b1_walked_back)
/-- walked_back: what it computes of the slots 0 tariff, 1 places, 2 ends, 3 last, 4 place, 5 best, 6 at, 7 to, 8 price, 9 many -/
def d_walked_back : Dl → Out := (seqF (setO 2 (callR g_held (consR (varR 0) (consR (varR 1) nilR))))
  (seqF (setO 3 (opR gSub (cbR gLen (arg1 (varR 1))) (conR (.int 1))))
  (seqF (setO 5 (compR (lstI (varR 1)) 4 yesR e1_walked_back))
  (seqF (setiO 5 (varR 3) (tupR (consR (conR (.int 0)) (consR (conR (.int 0)) (consR (varR 3) nilR)))))
  (seqF (frzF [2] (forO (rng3I (opR gSub (varR 3) (conR (.int 1))) (unR gNeg (conR (.int 1))) (unR gNeg (conR (.int 1)))) 6 b2_walked_back))
  (frzF [5] (retO (varR 5))))))))
def g_walked_back : List D → Ret := sealF (defR 2 8 d_walked_back)
def b1_left : Dl → Out := (ifO (tstR (unR gIsN (varR 3))) (appO 2 (conR .non)) (appO 2 (ixR (varR 3) (conR (.int 0)))))
/-- left: what it computes of the slots 0 tariff, 1 journey, 2 found, 3 one -/
def d_left : Dl → Out := (seqF (setO 2 (lstR nilR))
  (seqF (forO (lstI (callR g_walked_back (consR (varR 0) (consR (callR g_need_journey (consR (varR 1) nilR)) nilR)))) 3 b1_left)
  (frzF [2] (retO (varR 2)))))
def g_left : List D → Ret := sealF (defR 2 2 d_left)
def b1_priced : Dl → Out := (appO 3 (ixR (ixR (varR 2) (ixR (varR 3) (unR gNeg (conR (.int 1))))) (conR (.int 2))))
def w1_priced : Dl → ResB := (tstR (opR gLt (ixR (varR 3) (unR gNeg (conR (.int 1)))) (opR gSub (cbR gLen (arg1 (varR 2))) (conR (.int 1)))))
/-- priced: what it computes of the slots 0 tariff, 1 journey, 2 best, 3 cuts -/
def d_priced : Dl → Out := (seqF (setO 2 (callR g_walked_back (consR (varR 0) (consR (callR g_need_journey (consR (varR 1) nilR)) nilR))))
  (seqF (ifO (tstR (unR gIsN (ixR (varR 2) (conR (.int 0))))) (raiO .parting) .nx)
  (seqF (setO 3 (lstR (consR (conR (.int 0)) nilR)))
  (seqF (whL w1_priced b1_priced 64)
  (frzF [3] (retO (tupR (consR (ixR (ixR (varR 2) (conR (.int 0))) (conR (.int 0))) (consR (varR 3) nilR)))))))))
def g_priced : List D → Ret := sealF (defR 2 2 d_priced)
/-- parted: what it computes of the slots 0 tariff, 1 journey -/
def d_parted : Dl → Out := (retO (ixR (callR g_priced (consR (varR 0) (consR (varR 1) nilR))) (conR (.int 1))))
def g_parted : List D → Ret := sealF (defR 2 0 d_parted)
/-- line_of: what it computes of the slots 0 here, 1 there, 2 price -/
def d_line_of : Dl → Out := (retO (opR gAdd (opR gAdd (opR gAdd (opR gAdd (varR 0) (conR (.str " "))) (varR 1)) (conR (.str " "))) (cbR gStrI (arg1 (varR 2)))))
def g_line_of : List D → Ret := sealF (defR 3 0 d_line_of)
def b1_bill : Dl → Out := (seqF (setO 7 (ixR (varR 2) (ixR (varR 4) (opR gSub (varR 6) (conR (.int 1))))))
  (seqF (setO 8 (ixR (varR 2) (ixR (varR 4) (varR 6))))
  (appO 5 (callR g_line_of (consR (varR 7) (consR (varR 8) (consR (mthR g_price (varR 0) (consR (varR 7) (consR (varR 8) nilR))) nilR)))))))
/-- bill: what it computes of the slots 0 tariff, 1 journey, 2 places, 3 total, 4 cuts, 5 lines, 6 k, 7 here, 8 there -/
def d_bill : Dl → Out := (seqF (setO 2 (callR g_need_journey (consR (varR 1) nilR)))
  (seqF (unpO 3 4 (callR g_priced (consR (varR 0) (consR (varR 2) nilR))))
  (seqF (setO 5 (lstR nilR))
  (seqF (forO (rng2I (conR (.int 1)) (cbR gLen (arg1 (varR 4)))) 6 b1_bill)
  (seqF (appO 5 (opR gAdd (conR (.str "all ")) (cbR gStrI (arg1 (varR 3)))))
  (frzF [5] (retO (varR 5))))))))
def g_bill : List D → Ret := sealF (defR 2 7 d_bill)
/-- _law_cell_at: what it computes of the slots 0 _law_script, 1 _law_k -/
def d_law_cell_at : Dl → Out := (seqF (ifO (tstR (opR gLt (varR 1) (cbR gLen (arg1 (varR 0))))) (retO (ixR (varR 0) (varR 1))) .nx)
  (retO (conR (.int 0))))
def g_law_cell_at : List D → Ret := sealF (defR 2 0 d_law_cell_at)
def e1_law_place : Dl → Res := (ixR (varR 1) (opR gMod (opR gAdd (opR gDiv (varR 0) (conR (.int 12))) (opR gMul (varR 2) (opR gMod (opR gDiv (varR 0) (conR (.int 312))) (conR (.int 25))))) (conR (.int 26))))
/-- _law_place: what it computes of the slots 0 _law_cell, 1 _law_letters, 2 _law_k -/
def d_law_place : Dl → Out := (seqF (setO 1 (conR (.str "abcdefghijklmnopqrstuvwxyz")))
  (retO (m1R gJoin (conR (.str "")) (compR (rng1I (opR gAdd (conR (.int 1)) (opR gMod (varR 0) (conR (.int 12))))) 2 yesR e1_law_place))))
def g_law_place : List D → Ret := sealF (defR 1 2 d_law_place)
def b1_law_row : Dl → Out := (seqF (setO 4 (callR g_law_place (consR (opR gAdd (callR g_law_cell_at (consR (varR 0) (consR (opR gAdd (conR (.int 4)) (opR gMod (varR 3) (conR (.int 58)))) nilR))) (opR gMul (conR (.int 97)) (opR gDiv (varR 3) (conR (.int 58))))) nilR)))
  (seqF (ifO (bandR (tstR (opR gGt (varR 3) (conR (.int 0)))) (tstR (opR gEq (varR 4) (ixR (varR 2) (opR gSub (varR 3) (conR (.int 1))))))) (setO 4 (ixR (lstR (consR (conR (.str "a")) (consR (conR (.str "b")) nilR))) (cbR gInt (arg1 (opR gEq (varR 4) (conR (.str "a"))))))) .nx)
  (appO 2 (varR 4))))
/-- _law_row: what it computes of the slots 0 _law_script, 1 _law_size, 2 _law_row_here, 3 _law_k, 4 _law_name -/
def d_law_row : Dl → Out := (seqF (setO 1 (opR gMod (callR g_law_cell_at (consR (varR 0) (consR (conR (.int 0)) nilR))) (conR (.int 43))))
  (seqF (ifO (tstR (opR gEq (opR gMod (opR gDiv (callR g_law_cell_at (consR (varR 0) (consR (conR (.int 0)) nilR))) (conR (.int 43))) (conR (.int 3))) (conR (.int 1)))) (setO 1 (ixR (lstR (consR (conR (.int 0)) (consR (conR (.int 1)) (consR (conR (.int 2)) (consR (conR (.int 39)) (consR (conR (.int 40)) (consR (conR (.int 41)) nilR))))))) (opR gMod (opR gDiv (callR g_law_cell_at (consR (varR 0) (consR (conR (.int 0)) nilR))) (conR (.int 129))) (conR (.int 6))))) .nx)
  (seqF (setO 2 (lstR nilR))
  (seqF (forO (rng1I (varR 1)) 3 b1_law_row)
  (frzF [2] (retO (varR 2)))))))
def g_law_row : List D → Ret := sealF (defR 1 4 d_law_row)
/-- _law_bad: what it computes of the slots 0 _law_cell, 1 _law_name, 2 _law_at, 3 _law_odd -/
def d_law_bad : Dl → Out := (seqF (setO 2 (opR gMod (opR gDiv (varR 0) (conR (.int 7))) (conR (.int 12))))
  (seqF (setO 3 (opR gAdd (slR (varR 1) noPart (someR (varR 2))) (ixR (conR (.str "AZ09_ -.[`{@/")) (opR gMod (opR gDiv (varR 0) (conR (.int 84))) (conR (.int 13))))))
  (seqF (setO 3 (opR gAdd (varR 3) (slR (slR (varR 1) (someR (varR 2)) noPart) noPart (someR (conR (.int 11))))))
  (retO (ixR (lstR (consR (conR (.str "")) (consR (opR gMul (slR (varR 1) noPart (someR (conR (.int 1)))) (conR (.int 13))) (consR (slR (varR 3) noPart (someR (conR (.int 12)))) (consR (conR .non) (consR (conR (.int 5)) (consR (opR gMul (slR (varR 1) noPart (someR (conR (.int 1)))) (conR (.int 20))) (consR (slR (varR 3) noPart (someR (conR (.int 12)))) nilR)))))))) (opR gMod (varR 0) (conR (.int 7))))))))
def g_law_bad : List D → Ret := sealF (defR 2 2 d_law_bad)
def t1_law_is_place : Dl → ResB := (tstR (opR gNotIn (varR 1) (conR (.str "abcdefghijklmnopqrstuvwxyz"))))
def e1_law_is_place : Dl → Res := (varR 1)
/-- _law_is_place: what it computes of the slots 0 _law_thing, 1 _law_sign -/
def d_law_is_place : Dl → Out := (seqF (ifO (borR (bnotR (tstR (unR (gIsi "str") (varR 0)))) (bnotR (tstR (chR gLe gLe (conR (.int 1)) (cbR gLen (arg1 (varR 0))) (conR (.int 12)))))) (retO (conR (.bl false))) .nx)
  (retO (opR gEq (compR (strI (varR 0)) 1 t1_law_is_place e1_law_is_place) (lstR nilR))))
def g_law_is_place : List D → Ret := sealF (defR 1 1 d_law_is_place)
def b1_law_due : Dl → Out := (seqF (ifO (bnotR (tstR (callR g_law_is_place (consR (ixR (varR 0) (varR 1)) nilR)))) (retO (conR (.str "place"))) .nx)
  (ifO (bandR (tstR (opR gGt (varR 1) (conR (.int 0)))) (tstR (opR gEq (ixR (varR 0) (varR 1)) (ixR (varR 0) (opR gSub (varR 1) (conR (.int 1))))))) (retO (conR (.str "journey"))) .nx))
/-- _law_due: what it computes of the slots 0 _law_row_here, 1 _law_k -/
def d_law_due : Dl → Out := (seqF (ifO (bnotR (tstR (chR gLe gLe (conR (.int 2)) (cbR gLen (arg1 (varR 0))) (conR (.int 40))))) (retO (conR (.str "journey"))) .nx)
  (seqF (forO (rng1I (cbR gLen (arg1 (varR 0)))) 1 b1_law_due)
  (retO (conR (.str "")))))
def g_law_due : List D → Ret := sealF (defR 1 1 d_law_due)
def t1_law_tariff : Dl → ResB := (bandR (tstR (opR gEq (ixR (varR 3) (conR (.int 0))) (ixR (varR 0) (opR gSub (varR 2) (conR (.int 1)))))) (tstR (opR gEq (ixR (varR 3) (conR (.int 1))) (ixR (varR 0) (varR 2)))))
def e1_law_tariff : Dl → Res := (conR (.int 1))
def b1_law_tariff : Dl → Out := (ifO (bandR (tstR (callR g_law_is_place (consR (ixR (varR 0) (varR 2)) nilR))) (bandR (tstR (callR g_law_is_place (consR (ixR (varR 0) (opR gSub (varR 2) (conR (.int 1)))) nilR))) (tstR (opR gNe (ixR (varR 0) (varR 2)) (ixR (varR 0) (opR gSub (varR 2) (conR (.int 1)))))))) (ifO (tstR (opR gEq (compR (lstI (varR 1)) 3 t1_law_tariff e1_law_tariff) (lstR nilR))) (appO 1 (tupR (consR (ixR (varR 0) (opR gSub (varR 2) (conR (.int 1)))) (consR (ixR (varR 0) (varR 2)) (consR (opR gMul (conR (.int 3)) (varR 2)) nilR))))) .nx) .nx)
/-- _law_tariff: what it computes of the slots 0 _law_row_here, 1 _law_rows, 2 _law_k, 3 _law_one -/
def d_law_tariff : Dl → Out := (seqF (setO 1 (lstR nilR))
  (seqF (forO (rng2I (conR (.int 1)) (cbR gLen (arg1 (varR 0)))) 2 b1_law_tariff)
  (frzF [1] (retO (varR 1)))))
def g_law_tariff : List D → Ret := sealF (defR 1 3 d_law_tariff)
/-- _law_deed: what it computes of the slots 0 _law_pick, 1 _law_tariff_here, 2 _law_row_here, 3 _law_more -/
def d_law_deed : Dl → Out := (seqF (setO 3 (opR gMod (opR gDiv (varR 0) (conR (.int 7))) (conR (.int 3))))
  (seqF (ifO (tstR (opR gEq (opR gMod (varR 0) (conR (.int 7))) (conR (.int 0)))) (retO (callR g_fault (consR (varR 1) (consR (varR 2) (consR (ixR (lstR (consR (conR (.int 0)) (consR (conR (.int 3)) (consR (unR gNeg (conR (.int 1))) nilR)))) (varR 3)) (consR (ixR (lstR (consR (conR (.int 1)) (consR (conR (.int 2)) (consR (conR (.int 99)) nilR)))) (varR 3)) nilR)))))) .nx)
  (seqF (ifO (tstR (opR gEq (opR gMod (varR 0) (conR (.int 7))) (conR (.int 1)))) (retO (callR g_held (consR (varR 1) (consR (varR 2) nilR)))) .nx)
  (seqF (ifO (tstR (opR gEq (opR gMod (varR 0) (conR (.int 7))) (conR (.int 2)))) (retO (callR g_price_of (consR (varR 1) (consR (varR 2) (consR (ixR (lstR (consR (lstR (consR (conR (.int 0)) (consR (opR gSub (cbR gLen (arg1 (varR 2))) (conR (.int 1))) nilR))) (consR (lstR nilR) (consR (lstR (consR (conR (.int 5)) (consR (conR (.int 4)) nilR))) nilR)))) (varR 3)) nilR))))) .nx)
  (seqF (ifO (tstR (opR gEq (opR gMod (varR 0) (conR (.int 7))) (conR (.int 3)))) (retO (callR g_left (consR (varR 1) (consR (varR 2) nilR)))) .nx)
  (seqF (ifO (tstR (opR gEq (opR gMod (varR 0) (conR (.int 7))) (conR (.int 4)))) (retO (callR g_parted (consR (varR 1) (consR (varR 2) nilR)))) .nx)
  (seqF (ifO (tstR (opR gEq (opR gMod (varR 0) (conR (.int 7))) (conR (.int 5)))) (retO (callR g_priced (consR (varR 1) (consR (varR 2) nilR)))) .nx)
  (retO (callR g_bill (consR (varR 1) (consR (varR 2) nilR)))))))))))
def g_law_deed : List D → Ret := sealF (defR 3 1 d_law_deed)
def b1_law : Dl → Out := (ifO (tstR (opR gGt (cbR gLen (arg1 (varR 1))) (conR (.int 0)))) (seqF (setO 3 (opR gMod (callR g_law_cell_at (consR (varR 0) (consR (opR gAdd (conR (.int 2)) (varR 2)) nilR))) (cbR gLen (arg1 (varR 1)))))
  (seqF (setO 4 (callR g_law_cell_at (consR (varR 0) (consR (opR gSub (conR (.int 62)) (varR 2)) nilR))))
  (ifO (borR (tstR (opR gEq (varR 3) (conR (.int 0)))) (tstR (opR gEq (opR gMod (opR gDiv (callR g_law_cell_at (consR (varR 0) (consR (conR (.int 1)) nilR))) (opR gAdd (conR (.int 3)) (varR 2))) (conR (.int 2))) (conR (.int 0))))) (setiO 1 (varR 3) (callR g_law_bad (consR (varR 4) (consR (callR g_law_place (consR (opR gDiv (varR 4) (conR (.int 91))) nilR)) nilR)))) (setiO 1 (varR 3) (ixR (varR 1) (opR gSub (varR 3) (conR (.int 1)))))))) .nx)
def y1_law : Dl → Out := (expO (callR g_law_deed (consR (callR g_law_cell_at (consR (varR 0) (consR (conR (.int 60)) nilR))) (consR (varR 6) (consR (varR 7) nilR)))))
def h1_law : Dl → Out := (seqF (ifO (borR (tstR (opR gNe (varR 7) (varR 1))) (borR (tstR (opR gNe (mthR g_told (varR 6) nilR) (varR 5))) (tstR (opR gEq (isER 8 (takeOnly .place)) (isER 8 (takeOnly .journey)))))) (retO (conR (.bl false))) .nx)
  (retO (opR gEq (ixR (lstR (consR (conR (.str "place")) (consR (conR (.str "journey")) nilR))) (cbR gInt (arg1 (isER 8 (takeOnly .journey))))) (callR g_law_due (consR (varR 1) nilR)))))
def r6_law : Dl → Out := (retO (conR (.bl false)))
def r5_law : Dl → Out := (seqF (tryO (some 8) takeAll y1_law h1_law)
  r6_law)
def r4_law : Dl → Out := (seqF (setO 7 (cbR gList (arg1 (varR 1))))
  r5_law)
def r3_law : Dl → Out := (seqF (setO 6 (mkTarR g_init (consR (varR 5) nilR)))
  r4_law)
def r2_law : Dl → Out := (seqF (setO 5 (callR g_law_tariff (consR (varR 1) nilR)))
  r3_law)
def r1_law : Dl → Out := (seqF (forO (rng1I (opR gAdd (conR (.int 1)) (opR gMod (callR g_law_cell_at (consR (varR 0) (consR (conR (.int 1)) nilR))) (conR (.int 2))))) 2 b1_law)
  r2_law)
/-- law: what it computes of the slots 0 _law_script, 1 _law_row_here, 2 _law_turn, 3 _law_at, 4 _law_cell, 5 _law_rows, 6 _law_tariff_here, 7 _law_handed, 8 error -/
def d_law : Dl → Out := (seqF (setO 1 (callR g_law_row (consR (varR 0) nilR)))
  r1_law)
def g_law : List D → Ret := sealF (defR 1 8 d_law)
end
end DD

set_option maxRecDepth 100000
set_option maxHeartbeats 4000000
namespace DD
open PySem L2
local macro_rules | `(tactic| walk_at "ev0") => `(tactic| simp only [e_var, e_ch3, e_c3o, e_cmt, e_cmf, e_cmo, e_crt, e_crf, e_r3, e_r3o, e_dg2, e_d2o, e_gd2, e_clr, e_cao, e_ext, e_exo, e_idx, e_ixl, e_fld, e_flr, e_flt, e_xtb, e_xta, e_mth, e_rrx, e_mto, e_mkt, e_mko, e_mke, e_mkx, e_mky, e_srt, e_l2, e_l2o, e_frd, e_frt, e_pair, e_pao, e_pab, e_paa, e_put, e_puo, e_puy, e_pue, e_fvs, e_fvi, e_fvb, e_fvn, e_dgt, e_dgs, e_dgi, e_dpt, e_dps, e_sdi, e_sdb, e_sml, e_smr, e_sh, e_bo, e_ow, e_dp, e_an, e_con, e_opt, e_op, e_op2, e_op2e, e_op2f, e_un, e_op1, e_op1e, e_add, e_adds, e_addl, e_sub, e_mul, e_muls, e_mull, e_mulI, e_div, e_mod, e_lt, e_le, e_gt, e_ge, e_neg, e_not, e_isn, e_notn, e_nn, e_ni, e_ns, e_nb, e_nl, e_nt, e_eqs, e_eqi, e_eqb, e_eqn, e_eqni, e_eqin, e_eqns, e_eqsn, e_eqsi, e_eqis, e_eq, e_ne, e_in, e_nin, e_din, e_dnin, e_dget, e_dget1, e_and, e_andt, e_andf, e_ande, e_or, e_orf, e_ort, e_tst, e_ts, e_tse, e_band, e_bat, e_baf, e_bae, e_bor, e_bof, e_bot, e_boe, e_bnot, e_bn, e_bne, e_ife, e_iet, e_ief, e_ch, e_ch2, e_cht, e_chf, e_nil, e_cons, e_cn, e_cne, e_cnf, e_arg1, e_arg2, e_lst, e_lse, e_ls0, e_ls1, e_ls2, e_ls3, e_ls4, e_ls5, e_ls6, e_ls7, e_ls8, e_tup, e_tue, e_tu0, e_tu1, e_tu2, e_tu3, e_tu4, e_dnew, e_cb, e_cbo, e_cbe, e_lens, e_lenl, e_lent, e_lenc, e_list, e_listt, e_inti, e_intb, e_ints, e_max, e_min, e_kst, e_ktp, e_kdp, e_ki, e_ks, e_kb, e_kn, e_ktb, e_kta, e_xst, e_xtp, e_xdp, e_xbw, e_xan, e_xcb, e_xs, e_si, e_ss, e_sb, e_sn, e_slt, e_sls, e_slb, e_sdp, e_sst, e_its, e_itbl, e_ix, e_ixo, e_ixe, e_ixf, e_nop, e_som, e_smo, e_sl, e_slo, e_gsl, e_gss, e_rev, e_dg1, e_d1o, e_d1k, e_m1, e_m1o, e_call, e_cl, e_cle, e_re, e_ree, e_rt, e_rnx, e_rer, e_def0, e_def1, e_def2, e_def3, e_def4, e_def5, e_def6, e_seq, e_sqn, e_sqr, e_sqe, e_sqb, e_sqc, e_set, e_seo, e_see, e_se2, e_if, e_ift, e_iff, e_ifr, e_ret, e_rto, e_rte, e_exp, e_epo, e_epe, e_rai, e_frz, e_fro, e_frc, e_fzo, e_fzd, e_fzs, e_fzb, e_fzu, e_for, e_fos, e_fob, e_foe, e_lii, e_lio, e_tii, e_tio, e_sti, e_sto, e_r1, e_r1o, e_r2, e_r2o, e_comp, e_coo, e_cc, e_yes, e_na0, e_nas, e_nab, e_nao, e_nad, e_nau, e_naa, e_nae, e_ne0, e_nes, e_neb, e_neo, e_ned, e_neu, e_nea, e_nee, e_app, e_apo, e_sei, e_sio, e_si2, e_dput, e_dpi, e_dpb, e_dp2, e_try, e_tyn, e_tyr, e_tye, e_exs, e_exn, e_uns, e_unn, e_ber, e_ben, e_tka, e_tko, e_ise, e_ero, e_unp, e_unt, e_imi, e_ims, e_imb, e_imn, e_imt, e_im0, e_imc, List.map_cons, List.map_nil, List.cons_append, List.nil_append, List.replicate_succ, List.replicate_zero, List.length_cons, List.length_nil, List.getElem?_cons_zero, List.getElem?_cons_succ, List.set_cons_zero, List.set_cons_succ, Option.map_some, Option.map_none, Option.bind_some, Option.isSome_some, Option.isSome_none, if_true, if_false, reduceIte, Bool.and_true, Bool.true_and, Bool.and_false, Bool.false_and, Bool.or_true, Bool.true_or, Bool.or_false, Bool.false_or, Bool.not_true, Bool.not_false, Nat.reduceAdd, Nat.reduceEqDiff, Bool.false_eq_true, decide_true, decide_false, reduceCtorEq, and_self, true_and, and_true, true_or, or_true, false_or, or_false, or_self, Nat.reducePow, Nat.reduceLeDiff, Nat.reduceSub, Int.reduceLT, Int.reduceLE, Int.reduceAdd, Int.reduceSub, Int.reduceMul, Int.reduceNeg, Int.reduceEq, List.length_map, List.length_append, e_it0, e_it1, e_it2, e_it3, e_it4, e_itt0, e_itt1, e_itt2, e_itt3, e_itt4, eq_self, Int.reduceToNat, false_and, and_false, Int.reducePow, e_pla, e_ple, e_seal])
theorem cell_ok (ns : List Int) (k : Int) (hk : 0 ≤ k) : g_law_cell_at [.scr ns, .int k] = .ok (.int (cell ns k)) := by
  unfold g_law_cell_at d_law_cell_at
  walk_at "ev0"
  by_cases h : k < ns.length
  · have e : ns[k.toNat]? = some (cell ns k) := by
      unfold cell
      rw [List.getElem?_eq_getElem (by omega), List.getD_eq_getElem?_getD, List.getElem?_eq_getElem (by omega)]; rfl
    rw [decide_eq_true h]
    walk_at "ev0"
    rw [show itemD (.scr ns) k = some (.int (cell ns k)) by simp only [itemD, atI_nn hk h, e, Option.map_some]]
    walk_at "ev0"
  · rw [decide_eq_false h]
    walk_at "ev0"
    unfold cell
    rw [List.getD_eq_getElem?_getD, List.getElem?_eq_none (by omega)]
    rfl

theorem isPl_str (s : Str) : isPl (.str s) = (decide (1 ≤ s.length) && decide (s.length ≤ 12) && s.cps.toList.all fun c => decide (97 ≤ c) && decide (c < 123)) := rfl
-- is a thing a place: the program's answer
local macro_rules | `(tactic| walk_at "ev1") => `(tactic| simp only [e_var, e_ch3, e_c3o, e_cmt, e_cmf, e_cmo, e_crt, e_crf, e_r3, e_r3o, e_dg2, e_d2o, e_gd2, e_clr, e_cao, e_ext, e_exo, e_idx, e_ixl, e_fld, e_flr, e_flt, e_xtb, e_xta, e_mth, e_rrx, e_mto, e_mkt, e_mko, e_mke, e_mkx, e_mky, e_srt, e_l2, e_l2o, e_frd, e_frt, e_pair, e_pao, e_pab, e_paa, e_put, e_puo, e_puy, e_pue, e_fvs, e_fvi, e_fvb, e_fvn, e_dgt, e_dgs, e_dgi, e_dpt, e_dps, e_sdi, e_sdb, e_sml, e_smr, e_sh, e_bo, e_ow, e_dp, e_an, e_con, e_opt, e_op, e_op2, e_op2e, e_op2f, e_un, e_op1, e_op1e, e_add, e_adds, e_addl, e_sub, e_mul, e_muls, e_mull, e_mulI, e_div, e_mod, e_lt, e_le, e_gt, e_ge, e_neg, e_not, e_isn, e_notn, e_nn, e_ni, e_ns, e_nb, e_nl, e_nt, e_eqs, e_eqi, e_eqb, e_eqn, e_eqni, e_eqin, e_eqns, e_eqsn, e_eqsi, e_eqis, e_eq, e_ne, e_in, e_nin, e_din, e_dnin, e_dget, e_dget1, e_and, e_andt, e_andf, e_ande, e_or, e_orf, e_ort, e_tst, e_ts, e_tse, e_band, e_bat, e_baf, e_bae, e_bor, e_bof, e_bot, e_boe, e_bnot, e_bn, e_bne, e_ife, e_iet, e_ief, e_ch, e_ch2, e_cht, e_chf, e_nil, e_cons, e_cn, e_cne, e_cnf, e_arg1, e_arg2, e_lst, e_lse, e_ls0, e_ls1, e_ls2, e_ls3, e_ls4, e_ls5, e_ls6, e_ls7, e_ls8, e_tup, e_tue, e_tu0, e_tu1, e_tu2, e_tu3, e_tu4, e_dnew, e_cb, e_cbo, e_cbe, e_lens, e_lenl, e_lent, e_lenc, e_list, e_listt, e_inti, e_intb, e_ints, e_max, e_min, e_kst, e_ktp, e_kdp, e_ki, e_ks, e_kb, e_kn, e_ktb, e_kta, e_xst, e_xtp, e_xdp, e_xbw, e_xan, e_xcb, e_xs, e_si, e_ss, e_sb, e_sn, e_slt, e_sls, e_slb, e_sdp, e_sst, e_its, e_itbl, e_ix, e_ixo, e_ixe, e_ixf, e_nop, e_som, e_smo, e_sl, e_slo, e_gsl, e_gss, e_rev, e_dg1, e_d1o, e_d1k, e_m1, e_m1o, e_call, e_cl, e_cle, e_re, e_ree, e_rt, e_rnx, e_rer, e_def0, e_def1, e_def2, e_def3, e_def4, e_def5, e_def6, e_seq, e_sqn, e_sqr, e_sqe, e_sqb, e_sqc, e_set, e_seo, e_see, e_se2, e_if, e_ift, e_iff, e_ifr, e_ret, e_rto, e_rte, e_exp, e_epo, e_epe, e_rai, e_frz, e_fro, e_frc, e_fzo, e_fzd, e_fzs, e_fzb, e_fzu, e_for, e_fos, e_fob, e_foe, e_lii, e_lio, e_tii, e_tio, e_sti, e_sto, e_r1, e_r1o, e_r2, e_r2o, e_comp, e_coo, e_cc, e_yes, e_na0, e_nas, e_nab, e_nao, e_nad, e_nau, e_naa, e_nae, e_ne0, e_nes, e_neb, e_neo, e_ned, e_neu, e_nea, e_nee, e_app, e_apo, e_sei, e_sio, e_si2, e_dput, e_dpi, e_dpb, e_dp2, e_try, e_tyn, e_tyr, e_tye, e_exs, e_exn, e_uns, e_unn, e_ber, e_ben, e_tka, e_tko, e_ise, e_ero, e_unp, e_unt, e_imi, e_ims, e_imb, e_imn, e_imt, e_im0, e_imc, List.map_cons, List.map_nil, List.cons_append, List.nil_append, List.replicate_succ, List.replicate_zero, List.length_cons, List.length_nil, List.getElem?_cons_zero, List.getElem?_cons_succ, List.set_cons_zero, List.set_cons_succ, Option.map_some, Option.map_none, Option.bind_some, Option.isSome_some, Option.isSome_none, if_true, if_false, reduceIte, Bool.and_true, Bool.true_and, Bool.and_false, Bool.false_and, Bool.or_true, Bool.true_or, Bool.or_false, Bool.false_or, Bool.not_true, Bool.not_false, Nat.reduceAdd, Nat.reduceEqDiff, Bool.false_eq_true, decide_true, decide_false, reduceCtorEq, and_self, true_and, and_true, true_or, or_true, false_or, or_false, or_self, Nat.reducePow, Nat.reduceLeDiff, Nat.reduceSub, Int.reduceLT, Int.reduceLE, Int.reduceAdd, Int.reduceSub, Int.reduceMul, Int.reduceNeg, Int.reduceEq, List.length_map, List.length_append, e_it0, e_it1, e_it2, e_it3, e_it4, e_itt0, e_itt1, e_itt2, e_itt3, e_itt4, eq_self, Int.reduceToNat, false_and, and_false, Int.reducePow, e_pla, e_ple, e_seal, in_letters])
theorem is_place_ok (d : D) (h : okD d) : g_is_place [d] = .ok (.bl (isPl d)) := by
  unfold g_is_place d_is_place
  cases d with
  | int i => walk_at "ev0"; rw [isi_strI]; walk_at "ev0"; rfl
  | non => walk_at "ev0"; rw [isi_strN]; walk_at "ev0"; rfl
  | str s =>
    have hl : s.length ≤ sizeLine := Nat.le_trans h.1 (by decide)
    have key := forL_inv (i := 1) (k := .st) (body := b1_is_place)
      (fun n δ => (∃ x, δ = [.bo (.str s), x]) ∧ (s.cps.toList.take n).all fun c => decide (97 ≤ c) && decide (c < 123)) (fun o => o = .rt (.bl false) ∧ (s.cps.toList.all fun c => decide (97 ≤ c) && decide (c < 123)) = false)
      (sgns s) 0 [.bo (.str s), .un] ⟨⟨_, rfl⟩, by simp⟩ (by
        rintro m d δ hd ⟨⟨x, rfl⟩, hm⟩
        rw [Nat.zero_add] at hm ⊢
        simp only [sgns, List.getElem?_map, Option.map_eq_some_iff] at hd
        obtain ⟨c, hc, rfl⟩ := hd
        refine ⟨_, rfl, ?_⟩
        unfold b1_is_place
        walk_at "ev1"
        cases hb : (decide (97 ≤ c) && decide (c < 123)) with
        | true =>
          walk_at "ev0"
          refine ⟨⟨_, rfl⟩, ?_⟩
          have := take_more' hc
          rw [this, List.all_append, hm]
          simp [hb]
        | false =>
          walk_at "ev0"
          rw [List.all_eq_false]
          exact ⟨c, List.mem_of_getElem? hc, by simp [hb]⟩)
    walk_at "ev0"
    rw [isi_str]
    walk_at "ev0"
    rw [if_pos hl]
    walk_at "ev0"
    by_cases h1 : (1 : Int) ≤ s.length
    · rw [decide_eq_true h1]
      walk_at "ev0"
      by_cases h2 : (s.length : Int) ≤ 12
      · rw [decide_eq_true h2]
        walk_at "ev0"
        have e : isPl (.str s) = s.cps.toList.all fun c => decide (97 ≤ c) && decide (c < 123) := by
          rw [isPl_str, decide_eq_true (by omega), decide_eq_true (by omega)]
          rfl
        rw [e]
        rcases key with ⟨δ', k1, ⟨x, rfl⟩, k2⟩ | ⟨k1, k2⟩
        · rw [k1]
          walk_at "ev0"
          rw [Nat.zero_add, show (sgns s).length = s.cps.toList.length by simp [sgns], List.take_length] at k2
          rw [k2]
        · rw [k1, k2]
          walk_at "ev0"
      · rw [decide_eq_false h2]
        walk_at "ev0"
        rw [isPl_str, decide_eq_false (show ¬ s.length ≤ 12 by omega)]
        simp
    · rw [decide_eq_false h1]
      walk_at "ev0"
      rw [isPl_str, decide_eq_false (show ¬ 1 ≤ s.length by omega)]
      simp
  | _ => exact h.elim

local macro_rules | `(tactic| walk_at "ev2") => `(tactic| simp only [e_var, e_ch3, e_c3o, e_cmt, e_cmf, e_cmo, e_crt, e_crf, e_r3, e_r3o, e_dg2, e_d2o, e_gd2, e_clr, e_cao, e_ext, e_exo, e_idx, e_ixl, e_fld, e_flr, e_flt, e_xtb, e_xta, e_mth, e_rrx, e_mto, e_mkt, e_mko, e_mke, e_mkx, e_mky, e_srt, e_l2, e_l2o, e_frd, e_frt, e_pair, e_pao, e_pab, e_paa, e_put, e_puo, e_puy, e_pue, e_fvs, e_fvi, e_fvb, e_fvn, e_dgt, e_dgs, e_dgi, e_dpt, e_dps, e_sdi, e_sdb, e_sml, e_smr, e_sh, e_bo, e_ow, e_dp, e_an, e_con, e_opt, e_op, e_op2, e_op2e, e_op2f, e_un, e_op1, e_op1e, e_add, e_adds, e_addl, e_sub, e_mul, e_muls, e_mull, e_mulI, e_div, e_mod, e_lt, e_le, e_gt, e_ge, e_neg, e_not, e_isn, e_notn, e_nn, e_ni, e_ns, e_nb, e_nl, e_nt, e_eqs, e_eqi, e_eqb, e_eqn, e_eqni, e_eqin, e_eqns, e_eqsn, e_eqsi, e_eqis, e_eq, e_ne, e_in, e_nin, e_din, e_dnin, e_dget, e_dget1, e_and, e_andt, e_andf, e_ande, e_or, e_orf, e_ort, e_tst, e_ts, e_tse, e_band, e_bat, e_baf, e_bae, e_bor, e_bof, e_bot, e_boe, e_bnot, e_bn, e_bne, e_ife, e_iet, e_ief, e_ch, e_ch2, e_cht, e_chf, e_nil, e_cons, e_cn, e_cne, e_cnf, e_arg1, e_arg2, e_lst, e_lse, e_ls0, e_ls1, e_ls2, e_ls3, e_ls4, e_ls5, e_ls6, e_ls7, e_ls8, e_tup, e_tue, e_tu0, e_tu1, e_tu2, e_tu3, e_tu4, e_dnew, e_cb, e_cbo, e_cbe, e_lens, e_lenl, e_lent, e_lenc, e_list, e_listt, e_inti, e_intb, e_ints, e_max, e_min, e_kst, e_ktp, e_kdp, e_ki, e_ks, e_kb, e_kn, e_ktb, e_kta, e_xst, e_xtp, e_xdp, e_xbw, e_xan, e_xcb, e_xs, e_si, e_ss, e_sb, e_sn, e_slt, e_sls, e_slb, e_sdp, e_sst, e_its, e_itbl, e_ix, e_ixo, e_ixe, e_ixf, e_nop, e_som, e_smo, e_sl, e_slo, e_gsl, e_gss, e_rev, e_dg1, e_d1o, e_d1k, e_m1, e_m1o, e_call, e_cl, e_cle, e_re, e_ree, e_rt, e_rnx, e_rer, e_def0, e_def1, e_def2, e_def3, e_def4, e_def5, e_def6, e_seq, e_sqn, e_sqr, e_sqe, e_sqb, e_sqc, e_set, e_seo, e_see, e_se2, e_if, e_ift, e_iff, e_ifr, e_ret, e_rto, e_rte, e_exp, e_epo, e_epe, e_rai, e_frz, e_fro, e_frc, e_fzo, e_fzd, e_fzs, e_fzb, e_fzu, e_for, e_fos, e_fob, e_foe, e_lii, e_lio, e_tii, e_tio, e_sti, e_sto, e_r1, e_r1o, e_r2, e_r2o, e_comp, e_coo, e_cc, e_yes, e_na0, e_nas, e_nab, e_nao, e_nad, e_nau, e_naa, e_nae, e_ne0, e_nes, e_neb, e_neo, e_ned, e_neu, e_nea, e_nee, e_app, e_apo, e_sei, e_sio, e_si2, e_dput, e_dpi, e_dpb, e_dp2, e_try, e_tyn, e_tyr, e_tye, e_exs, e_exn, e_uns, e_unn, e_ber, e_ben, e_tka, e_tko, e_ise, e_ero, e_unp, e_unt, e_imi, e_ims, e_imb, e_imn, e_imt, e_im0, e_imc, List.map_cons, List.map_nil, List.cons_append, List.nil_append, List.replicate_succ, List.replicate_zero, List.length_cons, List.length_nil, List.getElem?_cons_zero, List.getElem?_cons_succ, List.set_cons_zero, List.set_cons_succ, Option.map_some, Option.map_none, Option.bind_some, Option.isSome_some, Option.isSome_none, if_true, if_false, reduceIte, Bool.and_true, Bool.true_and, Bool.and_false, Bool.false_and, Bool.or_true, Bool.true_or, Bool.or_false, Bool.false_or, Bool.not_true, Bool.not_false, Nat.reduceAdd, Nat.reduceEqDiff, Bool.false_eq_true, decide_true, decide_false, reduceCtorEq, and_self, true_and, and_true, true_or, or_true, false_or, or_false, or_self, Nat.reducePow, Nat.reduceLeDiff, Nat.reduceSub, Int.reduceLT, Int.reduceLE, Int.reduceAdd, Int.reduceSub, Int.reduceMul, Int.reduceNeg, Int.reduceEq, List.length_map, List.length_append, e_it0, e_it1, e_it2, e_it3, e_it4, e_itt0, e_itt1, e_itt2, e_itt3, e_itt4, eq_self, Int.reduceToNat, false_and, and_false, Int.reducePow, e_pla, e_ple, e_seal, i_ii, i_ib])
theorem is_price_i (i : Int) : g_is_price [.int i] = .ok (.bl (decide (0 ≤ i) && decide (i ≤ 1000000000000))) := by
  unfold g_is_price d_is_price
  walk_at "ev2"
  by_cases h : 0 ≤ i
  · simp only [e_var, e_ch3, e_c3o, e_cmt, e_cmf, e_cmo, e_crt, e_crf, e_r3, e_r3o, e_dg2, e_d2o, e_gd2, e_clr, e_cao, e_ext, e_exo, e_idx, e_ixl, e_fld, e_flr, e_flt, e_xtb, e_xta, e_mth, e_rrx, e_mto, e_mkt, e_mko, e_mke, e_mkx, e_mky, e_srt, e_l2, e_l2o, e_frd, e_frt, e_pair, e_pao, e_pab, e_paa, e_put, e_puo, e_puy, e_pue, e_fvs, e_fvi, e_fvb, e_fvn, e_dgt, e_dgs, e_dgi, e_dpt, e_dps, e_sdi, e_sdb, e_sml, e_smr, e_sh, e_bo, e_ow, e_dp, e_an, e_con, e_opt, e_op, e_op2, e_op2e, e_op2f, e_un, e_op1, e_op1e, e_add, e_adds, e_addl, e_sub, e_mul, e_muls, e_mull, e_mulI, e_div, e_mod, e_lt, e_le, e_gt, e_ge, e_neg, e_not, e_isn, e_notn, e_nn, e_ni, e_ns, e_nb, e_nl, e_nt, e_eqs, e_eqi, e_eqb, e_eqn, e_eqni, e_eqin, e_eqns, e_eqsn, e_eqsi, e_eqis, e_eq, e_ne, e_in, e_nin, e_din, e_dnin, e_dget, e_dget1, e_and, e_andt, e_andf, e_ande, e_or, e_orf, e_ort, e_tst, e_ts, e_tse, e_band, e_bat, e_baf, e_bae, e_bor, e_bof, e_bot, e_boe, e_bnot, e_bn, e_bne, e_ife, e_iet, e_ief, e_ch, e_ch2, e_cht, e_chf, e_nil, e_cons, e_cn, e_cne, e_cnf, e_arg1, e_arg2, e_lst, e_lse, e_ls0, e_ls1, e_ls2, e_ls3, e_ls4, e_ls5, e_ls6, e_ls7, e_ls8, e_tup, e_tue, e_tu0, e_tu1, e_tu2, e_tu3, e_tu4, e_dnew, e_cb, e_cbo, e_cbe, e_lens, e_lenl, e_lent, e_lenc, e_list, e_listt, e_inti, e_intb, e_ints, e_max, e_min, e_kst, e_ktp, e_kdp, e_ki, e_ks, e_kb, e_kn, e_ktb, e_kta, e_xst, e_xtp, e_xdp, e_xbw, e_xan, e_xcb, e_xs, e_si, e_ss, e_sb, e_sn, e_slt, e_sls, e_slb, e_sdp, e_sst, e_its, e_itbl, e_ix, e_ixo, e_ixe, e_ixf, e_nop, e_som, e_smo, e_sl, e_slo, e_gsl, e_gss, e_rev, e_dg1, e_d1o, e_d1k, e_m1, e_m1o, e_call, e_cl, e_cle, e_re, e_ree, e_rt, e_rnx, e_rer, e_def0, e_def1, e_def2, e_def3, e_def4, e_def5, e_def6, e_seq, e_sqn, e_sqr, e_sqe, e_sqb, e_sqc, e_set, e_seo, e_see, e_se2, e_if, e_ift, e_iff, e_ifr, e_ret, e_rto, e_rte, e_exp, e_epo, e_epe, e_rai, e_frz, e_fro, e_frc, e_fzo, e_fzd, e_fzs, e_fzb, e_fzu, e_for, e_fos, e_fob, e_foe, e_lii, e_lio, e_tii, e_tio, e_sti, e_sto, e_r1, e_r1o, e_r2, e_r2o, e_comp, e_coo, e_cc, e_yes, e_na0, e_nas, e_nab, e_nao, e_nad, e_nau, e_naa, e_nae, e_ne0, e_nes, e_neb, e_neo, e_ned, e_neu, e_nea, e_nee, e_app, e_apo, e_sei, e_sio, e_si2, e_dput, e_dpi, e_dpb, e_dp2, e_try, e_tyn, e_tyr, e_tye, e_exs, e_exn, e_uns, e_unn, e_ber, e_ben, e_tka, e_tko, e_ise, e_ero, e_unp, e_unt, e_imi, e_ims, e_imb, e_imn, e_imt, e_im0, e_imc, List.map_cons, List.map_nil, List.cons_append, List.nil_append, List.replicate_succ, List.replicate_zero, List.length_cons, List.length_nil, List.getElem?_cons_zero, List.getElem?_cons_succ, List.set_cons_zero, List.set_cons_succ, Option.map_some, Option.map_none, Option.bind_some, Option.isSome_some, Option.isSome_none, if_true, if_false, reduceIte, Bool.and_true, Bool.true_and, Bool.and_false, Bool.false_and, Bool.or_true, Bool.true_or, Bool.or_false, Bool.false_or, Bool.not_true, Bool.not_false, Nat.reduceAdd, Nat.reduceEqDiff, Bool.false_eq_true, decide_true, decide_false, reduceCtorEq, and_self, true_and, and_true, true_or, or_true, false_or, or_false, or_self, Nat.reducePow, Nat.reduceLeDiff, Nat.reduceSub, Int.reduceLT, Int.reduceLE, Int.reduceAdd, Int.reduceSub, Int.reduceMul, Int.reduceNeg, Int.reduceEq, List.length_map, List.length_append, e_it0, e_it1, e_it2, e_it3, e_it4, e_itt0, e_itt1, e_itt2, e_itt3, e_itt4, eq_self, Int.reduceToNat, false_and, and_false, Int.reducePow, e_pla, e_ple, e_seal, h]
  · simp only [e_var, e_ch3, e_c3o, e_cmt, e_cmf, e_cmo, e_crt, e_crf, e_r3, e_r3o, e_dg2, e_d2o, e_gd2, e_clr, e_cao, e_ext, e_exo, e_idx, e_ixl, e_fld, e_flr, e_flt, e_xtb, e_xta, e_mth, e_rrx, e_mto, e_mkt, e_mko, e_mke, e_mkx, e_mky, e_srt, e_l2, e_l2o, e_frd, e_frt, e_pair, e_pao, e_pab, e_paa, e_put, e_puo, e_puy, e_pue, e_fvs, e_fvi, e_fvb, e_fvn, e_dgt, e_dgs, e_dgi, e_dpt, e_dps, e_sdi, e_sdb, e_sml, e_smr, e_sh, e_bo, e_ow, e_dp, e_an, e_con, e_opt, e_op, e_op2, e_op2e, e_op2f, e_un, e_op1, e_op1e, e_add, e_adds, e_addl, e_sub, e_mul, e_muls, e_mull, e_mulI, e_div, e_mod, e_lt, e_le, e_gt, e_ge, e_neg, e_not, e_isn, e_notn, e_nn, e_ni, e_ns, e_nb, e_nl, e_nt, e_eqs, e_eqi, e_eqb, e_eqn, e_eqni, e_eqin, e_eqns, e_eqsn, e_eqsi, e_eqis, e_eq, e_ne, e_in, e_nin, e_din, e_dnin, e_dget, e_dget1, e_and, e_andt, e_andf, e_ande, e_or, e_orf, e_ort, e_tst, e_ts, e_tse, e_band, e_bat, e_baf, e_bae, e_bor, e_bof, e_bot, e_boe, e_bnot, e_bn, e_bne, e_ife, e_iet, e_ief, e_ch, e_ch2, e_cht, e_chf, e_nil, e_cons, e_cn, e_cne, e_cnf, e_arg1, e_arg2, e_lst, e_lse, e_ls0, e_ls1, e_ls2, e_ls3, e_ls4, e_ls5, e_ls6, e_ls7, e_ls8, e_tup, e_tue, e_tu0, e_tu1, e_tu2, e_tu3, e_tu4, e_dnew, e_cb, e_cbo, e_cbe, e_lens, e_lenl, e_lent, e_lenc, e_list, e_listt, e_inti, e_intb, e_ints, e_max, e_min, e_kst, e_ktp, e_kdp, e_ki, e_ks, e_kb, e_kn, e_ktb, e_kta, e_xst, e_xtp, e_xdp, e_xbw, e_xan, e_xcb, e_xs, e_si, e_ss, e_sb, e_sn, e_slt, e_sls, e_slb, e_sdp, e_sst, e_its, e_itbl, e_ix, e_ixo, e_ixe, e_ixf, e_nop, e_som, e_smo, e_sl, e_slo, e_gsl, e_gss, e_rev, e_dg1, e_d1o, e_d1k, e_m1, e_m1o, e_call, e_cl, e_cle, e_re, e_ree, e_rt, e_rnx, e_rer, e_def0, e_def1, e_def2, e_def3, e_def4, e_def5, e_def6, e_seq, e_sqn, e_sqr, e_sqe, e_sqb, e_sqc, e_set, e_seo, e_see, e_se2, e_if, e_ift, e_iff, e_ifr, e_ret, e_rto, e_rte, e_exp, e_epo, e_epe, e_rai, e_frz, e_fro, e_frc, e_fzo, e_fzd, e_fzs, e_fzb, e_fzu, e_for, e_fos, e_fob, e_foe, e_lii, e_lio, e_tii, e_tio, e_sti, e_sto, e_r1, e_r1o, e_r2, e_r2o, e_comp, e_coo, e_cc, e_yes, e_na0, e_nas, e_nab, e_nao, e_nad, e_nau, e_naa, e_nae, e_ne0, e_nes, e_neb, e_neo, e_ned, e_neu, e_nea, e_nee, e_app, e_apo, e_sei, e_sio, e_si2, e_dput, e_dpi, e_dpb, e_dp2, e_try, e_tyn, e_tyr, e_tye, e_exs, e_exn, e_uns, e_unn, e_ber, e_ben, e_tka, e_tko, e_ise, e_ero, e_unp, e_unt, e_imi, e_ims, e_imb, e_imn, e_imt, e_im0, e_imc, List.map_cons, List.map_nil, List.cons_append, List.nil_append, List.replicate_succ, List.replicate_zero, List.length_cons, List.length_nil, List.getElem?_cons_zero, List.getElem?_cons_succ, List.set_cons_zero, List.set_cons_succ, Option.map_some, Option.map_none, Option.bind_some, Option.isSome_some, Option.isSome_none, if_true, if_false, reduceIte, Bool.and_true, Bool.true_and, Bool.and_false, Bool.false_and, Bool.or_true, Bool.true_or, Bool.or_false, Bool.false_or, Bool.not_true, Bool.not_false, Nat.reduceAdd, Nat.reduceEqDiff, Bool.false_eq_true, decide_true, decide_false, reduceCtorEq, and_self, true_and, and_true, true_or, or_true, false_or, or_false, or_self, Nat.reducePow, Nat.reduceLeDiff, Nat.reduceSub, Int.reduceLT, Int.reduceLE, Int.reduceAdd, Int.reduceSub, Int.reduceMul, Int.reduceNeg, Int.reduceEq, List.length_map, List.length_append, e_it0, e_it1, e_it2, e_it3, e_it4, e_itt0, e_itt1, e_itt2, e_itt3, e_itt4, eq_self, Int.reduceToNat, false_and, and_false, Int.reducePow, e_pla, e_ple, e_seal, h]
theorem put_good {rows : List Rw} {r : Rw} (h : RowOk rows r) (hl : rows.length < 160) : g_put rows (.str r.1) (.str r.2.1) (.int r.2.2) = .ok (rows ++ [r]) := by
  obtain ⟨h1, h2, h3, h4, h5, h6⟩ := h
  have e1 := is_place_ok (.str r.1) h1.ok
  have e2 := is_place_ok (.str r.2.1) h2.ok
  have e3 := is_price_i r.2.2
  rw [h1.isPl] at e1
  rw [h2.isPl] at e2
  rw [decide_eq_true h4, decide_eq_true h5] at e3
  have e4 := look_pr rows r.1 r.2.1
  rw [h6] at e4
  have e5 : ¬ (160 : Int) ≤ rows.length := by omega
  have e6 : rows.length < sizeLine := lt_sz (by omega)
  have e7 : (rows.all fun x => !(decide (x.1 = r.1) && decide (x.2.1 = r.2.1))) = true := by
    rw [List.all_eq_true]
    intro x hx
    have := pr_none h6 x hx
    simp only [Bool.not_eq_true', Bool.and_eq_false_iff, decide_eq_false_iff_not]
    by_cases q : x.1 = r.1
    · exact .inr fun z => this ⟨q, z⟩
    · exact .inl q
  unfold g_put putG p_put
  simp only [e_var, e_ch3, e_c3o, e_cmt, e_cmf, e_cmo, e_crt, e_crf, e_r3, e_r3o, e_dg2, e_d2o, e_gd2, e_clr, e_cao, e_ext, e_exo, e_idx, e_ixl, e_fld, e_flr, e_flt, e_xtb, e_xta, e_mth, e_rrx, e_mto, e_mkt, e_mko, e_mke, e_mkx, e_mky, e_srt, e_l2, e_l2o, e_frd, e_frt, e_pair, e_pao, e_pab, e_paa, e_put, e_puo, e_puy, e_pue, e_fvs, e_fvi, e_fvb, e_fvn, e_dgt, e_dgs, e_dgi, e_dpt, e_dps, e_sdi, e_sdb, e_sml, e_smr, e_sh, e_bo, e_ow, e_dp, e_an, e_con, e_opt, e_op, e_op2, e_op2e, e_op2f, e_un, e_op1, e_op1e, e_add, e_adds, e_addl, e_sub, e_mul, e_muls, e_mull, e_mulI, e_div, e_mod, e_lt, e_le, e_gt, e_ge, e_neg, e_not, e_isn, e_notn, e_nn, e_ni, e_ns, e_nb, e_nl, e_nt, e_eqs, e_eqi, e_eqb, e_eqn, e_eqni, e_eqin, e_eqns, e_eqsn, e_eqsi, e_eqis, e_eq, e_ne, e_in, e_nin, e_din, e_dnin, e_dget, e_dget1, e_and, e_andt, e_andf, e_ande, e_or, e_orf, e_ort, e_tst, e_ts, e_tse, e_band, e_bat, e_baf, e_bae, e_bor, e_bof, e_bot, e_boe, e_bnot, e_bn, e_bne, e_ife, e_iet, e_ief, e_ch, e_ch2, e_cht, e_chf, e_nil, e_cons, e_cn, e_cne, e_cnf, e_arg1, e_arg2, e_lst, e_lse, e_ls0, e_ls1, e_ls2, e_ls3, e_ls4, e_ls5, e_ls6, e_ls7, e_ls8, e_tup, e_tue, e_tu0, e_tu1, e_tu2, e_tu3, e_tu4, e_dnew, e_cb, e_cbo, e_cbe, e_lens, e_lenl, e_lent, e_lenc, e_list, e_listt, e_inti, e_intb, e_ints, e_max, e_min, e_kst, e_ktp, e_kdp, e_ki, e_ks, e_kb, e_kn, e_ktb, e_kta, e_xst, e_xtp, e_xdp, e_xbw, e_xan, e_xcb, e_xs, e_si, e_ss, e_sb, e_sn, e_slt, e_sls, e_slb, e_sdp, e_sst, e_its, e_itbl, e_ix, e_ixo, e_ixe, e_ixf, e_nop, e_som, e_smo, e_sl, e_slo, e_gsl, e_gss, e_rev, e_dg1, e_d1o, e_d1k, e_m1, e_m1o, e_call, e_cl, e_cle, e_re, e_ree, e_rt, e_rnx, e_rer, e_def0, e_def1, e_def2, e_def3, e_def4, e_def5, e_def6, e_seq, e_sqn, e_sqr, e_sqe, e_sqb, e_sqc, e_set, e_seo, e_see, e_se2, e_if, e_ift, e_iff, e_ifr, e_ret, e_rto, e_rte, e_exp, e_epo, e_epe, e_rai, e_frz, e_fro, e_frc, e_fzo, e_fzd, e_fzs, e_fzb, e_fzu, e_for, e_fos, e_fob, e_foe, e_lii, e_lio, e_tii, e_tio, e_sti, e_sto, e_r1, e_r1o, e_r2, e_r2o, e_comp, e_coo, e_cc, e_yes, e_na0, e_nas, e_nab, e_nao, e_nad, e_nau, e_naa, e_nae, e_ne0, e_nes, e_neb, e_neo, e_ned, e_neu, e_nea, e_nee, e_app, e_apo, e_sei, e_sio, e_si2, e_dput, e_dpi, e_dpb, e_dp2, e_try, e_tyn, e_tyr, e_tye, e_exs, e_exn, e_uns, e_unn, e_ber, e_ben, e_tka, e_tko, e_ise, e_ero, e_unp, e_unt, e_imi, e_ims, e_imb, e_imn, e_imt, e_im0, e_imc, List.map_cons, List.map_nil, List.cons_append, List.nil_append, List.replicate_succ, List.replicate_zero, List.length_cons, List.length_nil, List.getElem?_cons_zero, List.getElem?_cons_succ, List.set_cons_zero, List.set_cons_succ, Option.map_some, Option.map_none, Option.bind_some, Option.isSome_some, Option.isSome_none, if_true, if_false, reduceIte, Bool.and_true, Bool.true_and, Bool.and_false, Bool.false_and, Bool.or_true, Bool.true_or, Bool.or_false, Bool.false_or, Bool.not_true, Bool.not_false, Nat.reduceAdd, Nat.reduceEqDiff, Bool.false_eq_true, decide_true, decide_false, reduceCtorEq, and_self, true_and, and_true, true_or, or_true, false_or, or_false, or_self, Nat.reducePow, Nat.reduceLeDiff, Nat.reduceSub, Int.reduceLT, Int.reduceLE, Int.reduceAdd, Int.reduceSub, Int.reduceMul, Int.reduceNeg, Int.reduceEq, List.length_map, List.length_append, e_it0, e_it1, e_it2, e_it3, e_it4, e_itt0, e_itt1, e_itt2, e_itt3, e_itt4, eq_self, Int.reduceToNat, false_and, and_false, Int.reducePow, e_pla, e_ple, e_seal, e1, e2, h3, e3, e4, e5]
  simp only [putN]
  rw [if_pos ⟨e6, e7⟩]
theorem put_all : ∀ (rs acc : List Rw), RowsOk acc rs → acc.length + rs.length ≤ 160 → putAll g_put acc (rs.map rowD) = .ok (acc ++ rs)
  | [], acc, _, _ => by simp [putAll]
  | r :: rs, acc, h, hl => by
    have ih := put_all rs (acc ++ [r]) h.2 (by simp at hl ⊢; omega)
    have hp := put_good h.1 (by simp at hl; omega)
    rw [List.map_cons]
    simp only [putAll]
    rw [show rowD r = .tup [.str r.1, .str r.2.1, .int r.2.2] from rfl]
    simp only [e_var, e_ch3, e_c3o, e_cmt, e_cmf, e_cmo, e_crt, e_crf, e_r3, e_r3o, e_dg2, e_d2o, e_gd2, e_clr, e_cao, e_ext, e_exo, e_idx, e_ixl, e_fld, e_flr, e_flt, e_xtb, e_xta, e_mth, e_rrx, e_mto, e_mkt, e_mko, e_mke, e_mkx, e_mky, e_srt, e_l2, e_l2o, e_frd, e_frt, e_pair, e_pao, e_pab, e_paa, e_put, e_puo, e_puy, e_pue, e_fvs, e_fvi, e_fvb, e_fvn, e_dgt, e_dgs, e_dgi, e_dpt, e_dps, e_sdi, e_sdb, e_sml, e_smr, e_sh, e_bo, e_ow, e_dp, e_an, e_con, e_opt, e_op, e_op2, e_op2e, e_op2f, e_un, e_op1, e_op1e, e_add, e_adds, e_addl, e_sub, e_mul, e_muls, e_mull, e_mulI, e_div, e_mod, e_lt, e_le, e_gt, e_ge, e_neg, e_not, e_isn, e_notn, e_nn, e_ni, e_ns, e_nb, e_nl, e_nt, e_eqs, e_eqi, e_eqb, e_eqn, e_eqni, e_eqin, e_eqns, e_eqsn, e_eqsi, e_eqis, e_eq, e_ne, e_in, e_nin, e_din, e_dnin, e_dget, e_dget1, e_and, e_andt, e_andf, e_ande, e_or, e_orf, e_ort, e_tst, e_ts, e_tse, e_band, e_bat, e_baf, e_bae, e_bor, e_bof, e_bot, e_boe, e_bnot, e_bn, e_bne, e_ife, e_iet, e_ief, e_ch, e_ch2, e_cht, e_chf, e_nil, e_cons, e_cn, e_cne, e_cnf, e_arg1, e_arg2, e_lst, e_lse, e_ls0, e_ls1, e_ls2, e_ls3, e_ls4, e_ls5, e_ls6, e_ls7, e_ls8, e_tup, e_tue, e_tu0, e_tu1, e_tu2, e_tu3, e_tu4, e_dnew, e_cb, e_cbo, e_cbe, e_lens, e_lenl, e_lent, e_lenc, e_list, e_listt, e_inti, e_intb, e_ints, e_max, e_min, e_kst, e_ktp, e_kdp, e_ki, e_ks, e_kb, e_kn, e_ktb, e_kta, e_xst, e_xtp, e_xdp, e_xbw, e_xan, e_xcb, e_xs, e_si, e_ss, e_sb, e_sn, e_slt, e_sls, e_slb, e_sdp, e_sst, e_its, e_itbl, e_ix, e_ixo, e_ixe, e_ixf, e_nop, e_som, e_smo, e_sl, e_slo, e_gsl, e_gss, e_rev, e_dg1, e_d1o, e_d1k, e_m1, e_m1o, e_call, e_cl, e_cle, e_re, e_ree, e_rt, e_rnx, e_rer, e_def0, e_def1, e_def2, e_def3, e_def4, e_def5, e_def6, e_seq, e_sqn, e_sqr, e_sqe, e_sqb, e_sqc, e_set, e_seo, e_see, e_se2, e_if, e_ift, e_iff, e_ifr, e_ret, e_rto, e_rte, e_exp, e_epo, e_epe, e_rai, e_frz, e_fro, e_frc, e_fzo, e_fzd, e_fzs, e_fzb, e_fzu, e_for, e_fos, e_fob, e_foe, e_lii, e_lio, e_tii, e_tio, e_sti, e_sto, e_r1, e_r1o, e_r2, e_r2o, e_comp, e_coo, e_cc, e_yes, e_na0, e_nas, e_nab, e_nao, e_nad, e_nau, e_naa, e_nae, e_ne0, e_nes, e_neb, e_neo, e_ned, e_neu, e_nea, e_nee, e_app, e_apo, e_sei, e_sio, e_si2, e_dput, e_dpi, e_dpb, e_dp2, e_try, e_tyn, e_tyr, e_tye, e_exs, e_exn, e_uns, e_unn, e_ber, e_ben, e_tka, e_tko, e_ise, e_ero, e_unp, e_unt, e_imi, e_ims, e_imb, e_imn, e_imt, e_im0, e_imc, List.map_cons, List.map_nil, List.cons_append, List.nil_append, List.replicate_succ, List.replicate_zero, List.length_cons, List.length_nil, List.getElem?_cons_zero, List.getElem?_cons_succ, List.set_cons_zero, List.set_cons_succ, Option.map_some, Option.map_none, Option.bind_some, Option.isSome_some, Option.isSome_none, if_true, if_false, reduceIte, Bool.and_true, Bool.true_and, Bool.and_false, Bool.false_and, Bool.or_true, Bool.true_or, Bool.or_false, Bool.false_or, Bool.not_true, Bool.not_false, Nat.reduceAdd, Nat.reduceEqDiff, Bool.false_eq_true, decide_true, decide_false, reduceCtorEq, and_self, true_and, and_true, true_or, or_true, false_or, or_false, or_self, Nat.reducePow, Nat.reduceLeDiff, Nat.reduceSub, Int.reduceLT, Int.reduceLE, Int.reduceAdd, Int.reduceSub, Int.reduceMul, Int.reduceNeg, Int.reduceEq, List.length_map, List.length_append, e_it0, e_it1, e_it2, e_it3, e_it4, e_itt0, e_itt1, e_itt2, e_itt3, e_itt4, eq_self, Int.reduceToNat, false_and, and_false, Int.reducePow, e_pla, e_ple, e_seal, hp]
    rw [ih]
    simp
theorem init_ok {rows : List Rw} (h : RowsOk [] rows) (hl : rows.length ≤ 160) : g_init (.lst (rows.map rowD)) = .ok rows := by
  unfold g_init
  show putAll g_put [] (rows.map rowD) = _
  rw [put_all rows [] h (by simpa using hl)]
  simp
local macro_rules | `(tactic| walk_at "ev3") => `(tactic| simp only [e_var, e_ch3, e_c3o, e_cmt, e_cmf, e_cmo, e_crt, e_crf, e_r3, e_r3o, e_dg2, e_d2o, e_gd2, e_clr, e_cao, e_ext, e_exo, e_idx, e_ixl, e_fld, e_flr, e_flt, e_xtb, e_xta, e_mth, e_rrx, e_mto, e_mkt, e_mko, e_mke, e_mkx, e_mky, e_srt, e_l2, e_l2o, e_frd, e_frt, e_pair, e_pao, e_pab, e_paa, e_put, e_puo, e_puy, e_pue, e_fvs, e_fvi, e_fvb, e_fvn, e_dgt, e_dgs, e_dgi, e_dpt, e_dps, e_sdi, e_sdb, e_sml, e_smr, e_sh, e_bo, e_ow, e_dp, e_an, e_con, e_opt, e_op, e_op2, e_op2e, e_op2f, e_un, e_op1, e_op1e, e_add, e_adds, e_addl, e_sub, e_mul, e_muls, e_mull, e_mulI, e_div, e_mod, e_lt, e_le, e_gt, e_ge, e_neg, e_not, e_isn, e_notn, e_nn, e_ni, e_ns, e_nb, e_nl, e_nt, e_eqs, e_eqi, e_eqb, e_eqn, e_eqni, e_eqin, e_eqns, e_eqsn, e_eqsi, e_eqis, e_eq, e_ne, e_in, e_nin, e_din, e_dnin, e_dget, e_dget1, e_and, e_andt, e_andf, e_ande, e_or, e_orf, e_ort, e_tst, e_ts, e_tse, e_band, e_bat, e_baf, e_bae, e_bor, e_bof, e_bot, e_boe, e_bnot, e_bn, e_bne, e_ife, e_iet, e_ief, e_ch, e_ch2, e_cht, e_chf, e_nil, e_cons, e_cn, e_cne, e_cnf, e_arg1, e_arg2, e_lst, e_lse, e_ls0, e_ls1, e_ls2, e_ls3, e_ls4, e_ls5, e_ls6, e_ls7, e_ls8, e_tup, e_tue, e_tu0, e_tu1, e_tu2, e_tu3, e_tu4, e_dnew, e_cb, e_cbo, e_cbe, e_lens, e_lenl, e_lent, e_lenc, e_list, e_listt, e_inti, e_intb, e_ints, e_max, e_min, e_kst, e_ktp, e_kdp, e_ki, e_ks, e_kb, e_kn, e_ktb, e_kta, e_xst, e_xtp, e_xdp, e_xbw, e_xan, e_xcb, e_xs, e_si, e_ss, e_sb, e_sn, e_slt, e_sls, e_slb, e_sdp, e_sst, e_its, e_itbl, e_ix, e_ixo, e_ixe, e_ixf, e_nop, e_som, e_smo, e_sl, e_slo, e_gsl, e_gss, e_rev, e_dg1, e_d1o, e_d1k, e_m1, e_m1o, e_call, e_cl, e_cle, e_re, e_ree, e_rt, e_rnx, e_rer, e_def0, e_def1, e_def2, e_def3, e_def4, e_def5, e_def6, e_seq, e_sqn, e_sqr, e_sqe, e_sqb, e_sqc, e_set, e_seo, e_see, e_se2, e_if, e_ift, e_iff, e_ifr, e_ret, e_rto, e_rte, e_exp, e_epo, e_epe, e_rai, e_frz, e_fro, e_frc, e_fzo, e_fzd, e_fzs, e_fzb, e_fzu, e_for, e_fos, e_fob, e_foe, e_lii, e_lio, e_tii, e_tio, e_sti, e_sto, e_r1, e_r1o, e_r2, e_r2o, e_comp, e_coo, e_cc, e_yes, e_na0, e_nas, e_nab, e_nao, e_nad, e_nau, e_naa, e_nae, e_ne0, e_nes, e_neb, e_neo, e_ned, e_neu, e_nea, e_nee, e_app, e_apo, e_sei, e_sio, e_si2, e_dput, e_dpi, e_dpb, e_dp2, e_try, e_tyn, e_tyr, e_tye, e_exs, e_exn, e_uns, e_unn, e_ber, e_ben, e_tka, e_tko, e_ise, e_ero, e_unp, e_unt, e_imi, e_ims, e_imb, e_imn, e_imt, e_im0, e_imc, List.map_cons, List.map_nil, List.cons_append, List.nil_append, List.replicate_succ, List.replicate_zero, List.length_cons, List.length_nil, List.getElem?_cons_zero, List.getElem?_cons_succ, List.set_cons_zero, List.set_cons_succ, Option.map_some, Option.map_none, Option.bind_some, Option.isSome_some, Option.isSome_none, if_true, if_false, reduceIte, Bool.and_true, Bool.true_and, Bool.and_false, Bool.false_and, Bool.or_true, Bool.true_or, Bool.or_false, Bool.false_or, Bool.not_true, Bool.not_false, Nat.reduceAdd, Nat.reduceEqDiff, Bool.false_eq_true, decide_true, decide_false, reduceCtorEq, and_self, true_and, and_true, true_or, or_true, false_or, or_false, or_self, Nat.reducePow, Nat.reduceLeDiff, Nat.reduceSub, Int.reduceLT, Int.reduceLE, Int.reduceAdd, Int.reduceSub, Int.reduceMul, Int.reduceNeg, Int.reduceEq, List.length_map, List.length_append, e_it0, e_it1, e_it2, e_it3, e_it4, e_itt0, e_itt1, e_itt2, e_itt3, e_itt4, eq_self, Int.reduceToNat, false_and, and_false, Int.reducePow, e_pla, e_ple, e_seal, Sc.d])
theorem price_ok (rows : List Rw) (a b : Str) : g_price [.tar rows, .str a, .str b] = .ok (match prOf rows a b with
    | some i => .int i
    | none => .non) := by
  unfold g_price d_price
  have e := look_pr rows a b
  simp only [e_var, e_ch3, e_c3o, e_cmt, e_cmf, e_cmo, e_crt, e_crf, e_r3, e_r3o, e_dg2, e_d2o, e_gd2, e_clr, e_cao, e_ext, e_exo, e_idx, e_ixl, e_fld, e_flr, e_flt, e_xtb, e_xta, e_mth, e_rrx, e_mto, e_mkt, e_mko, e_mke, e_mkx, e_mky, e_srt, e_l2, e_l2o, e_frd, e_frt, e_pair, e_pao, e_pab, e_paa, e_put, e_puo, e_puy, e_pue, e_fvs, e_fvi, e_fvb, e_fvn, e_dgt, e_dgs, e_dgi, e_dpt, e_dps, e_sdi, e_sdb, e_sml, e_smr, e_sh, e_bo, e_ow, e_dp, e_an, e_con, e_opt, e_op, e_op2, e_op2e, e_op2f, e_un, e_op1, e_op1e, e_add, e_adds, e_addl, e_sub, e_mul, e_muls, e_mull, e_mulI, e_div, e_mod, e_lt, e_le, e_gt, e_ge, e_neg, e_not, e_isn, e_notn, e_nn, e_ni, e_ns, e_nb, e_nl, e_nt, e_eqs, e_eqi, e_eqb, e_eqn, e_eqni, e_eqin, e_eqns, e_eqsn, e_eqsi, e_eqis, e_eq, e_ne, e_in, e_nin, e_din, e_dnin, e_dget, e_dget1, e_and, e_andt, e_andf, e_ande, e_or, e_orf, e_ort, e_tst, e_ts, e_tse, e_band, e_bat, e_baf, e_bae, e_bor, e_bof, e_bot, e_boe, e_bnot, e_bn, e_bne, e_ife, e_iet, e_ief, e_ch, e_ch2, e_cht, e_chf, e_nil, e_cons, e_cn, e_cne, e_cnf, e_arg1, e_arg2, e_lst, e_lse, e_ls0, e_ls1, e_ls2, e_ls3, e_ls4, e_ls5, e_ls6, e_ls7, e_ls8, e_tup, e_tue, e_tu0, e_tu1, e_tu2, e_tu3, e_tu4, e_dnew, e_cb, e_cbo, e_cbe, e_lens, e_lenl, e_lent, e_lenc, e_list, e_listt, e_inti, e_intb, e_ints, e_max, e_min, e_kst, e_ktp, e_kdp, e_ki, e_ks, e_kb, e_kn, e_ktb, e_kta, e_xst, e_xtp, e_xdp, e_xbw, e_xan, e_xcb, e_xs, e_si, e_ss, e_sb, e_sn, e_slt, e_sls, e_slb, e_sdp, e_sst, e_its, e_itbl, e_ix, e_ixo, e_ixe, e_ixf, e_nop, e_som, e_smo, e_sl, e_slo, e_gsl, e_gss, e_rev, e_dg1, e_d1o, e_d1k, e_m1, e_m1o, e_call, e_cl, e_cle, e_re, e_ree, e_rt, e_rnx, e_rer, e_def0, e_def1, e_def2, e_def3, e_def4, e_def5, e_def6, e_seq, e_sqn, e_sqr, e_sqe, e_sqb, e_sqc, e_set, e_seo, e_see, e_se2, e_if, e_ift, e_iff, e_ifr, e_ret, e_rto, e_rte, e_exp, e_epo, e_epe, e_rai, e_frz, e_fro, e_frc, e_fzo, e_fzd, e_fzs, e_fzb, e_fzu, e_for, e_fos, e_fob, e_foe, e_lii, e_lio, e_tii, e_tio, e_sti, e_sto, e_r1, e_r1o, e_r2, e_r2o, e_comp, e_coo, e_cc, e_yes, e_na0, e_nas, e_nab, e_nao, e_nad, e_nau, e_naa, e_nae, e_ne0, e_nes, e_neb, e_neo, e_ned, e_neu, e_nea, e_nee, e_app, e_apo, e_sei, e_sio, e_si2, e_dput, e_dpi, e_dpb, e_dp2, e_try, e_tyn, e_tyr, e_tye, e_exs, e_exn, e_uns, e_unn, e_ber, e_ben, e_tka, e_tko, e_ise, e_ero, e_unp, e_unt, e_imi, e_ims, e_imb, e_imn, e_imt, e_im0, e_imc, List.map_cons, List.map_nil, List.cons_append, List.nil_append, List.replicate_succ, List.replicate_zero, List.length_cons, List.length_nil, List.getElem?_cons_zero, List.getElem?_cons_succ, List.set_cons_zero, List.set_cons_succ, Option.map_some, Option.map_none, Option.bind_some, Option.isSome_some, Option.isSome_none, if_true, if_false, reduceIte, Bool.and_true, Bool.true_and, Bool.and_false, Bool.false_and, Bool.or_true, Bool.true_or, Bool.or_false, Bool.false_or, Bool.not_true, Bool.not_false, Nat.reduceAdd, Nat.reduceEqDiff, Bool.false_eq_true, decide_true, decide_false, reduceCtorEq, and_self, true_and, and_true, true_or, or_true, false_or, or_false, or_self, Nat.reducePow, Nat.reduceLeDiff, Nat.reduceSub, Int.reduceLT, Int.reduceLE, Int.reduceAdd, Int.reduceSub, Int.reduceMul, Int.reduceNeg, Int.reduceEq, List.length_map, List.length_append, e_it0, e_it1, e_it2, e_it3, e_it4, e_itt0, e_itt1, e_itt2, e_itt3, e_itt4, eq_self, Int.reduceToNat, false_and, and_false, Int.reducePow, e_pla, e_ple, e_seal, e]
  cases prOf rows a b with
  | none => walk_at "ev0"
  | some i => walk_at "ev3"
local macro_rules | `(tactic| walk_at "ev4") => `(tactic| simp only [e_var, e_ch3, e_c3o, e_cmt, e_cmf, e_cmo, e_crt, e_crf, e_r3, e_r3o, e_dg2, e_d2o, e_gd2, e_clr, e_cao, e_ext, e_exo, e_idx, e_ixl, e_fld, e_flr, e_flt, e_xtb, e_xta, e_mth, e_rrx, e_mto, e_mkt, e_mko, e_mke, e_mkx, e_mky, e_srt, e_l2, e_l2o, e_frd, e_frt, e_pair, e_pao, e_pab, e_paa, e_put, e_puo, e_puy, e_pue, e_fvs, e_fvi, e_fvb, e_fvn, e_dgt, e_dgs, e_dgi, e_dpt, e_dps, e_sdi, e_sdb, e_sml, e_smr, e_sh, e_bo, e_ow, e_dp, e_an, e_con, e_opt, e_op, e_op2, e_op2e, e_op2f, e_un, e_op1, e_op1e, e_add, e_adds, e_addl, e_sub, e_mul, e_muls, e_mull, e_mulI, e_div, e_mod, e_lt, e_le, e_gt, e_ge, e_neg, e_not, e_isn, e_notn, e_nn, e_ni, e_ns, e_nb, e_nl, e_nt, e_eqs, e_eqi, e_eqb, e_eqn, e_eqni, e_eqin, e_eqns, e_eqsn, e_eqsi, e_eqis, e_eq, e_ne, e_in, e_nin, e_din, e_dnin, e_dget, e_dget1, e_and, e_andt, e_andf, e_ande, e_or, e_orf, e_ort, e_tst, e_ts, e_tse, e_band, e_bat, e_baf, e_bae, e_bor, e_bof, e_bot, e_boe, e_bnot, e_bn, e_bne, e_ife, e_iet, e_ief, e_ch, e_ch2, e_cht, e_chf, e_nil, e_cons, e_cn, e_cne, e_cnf, e_arg1, e_arg2, e_lst, e_lse, e_ls0, e_ls1, e_ls2, e_ls3, e_ls4, e_ls5, e_ls6, e_ls7, e_ls8, e_tup, e_tue, e_tu0, e_tu1, e_tu2, e_tu3, e_tu4, e_dnew, e_cb, e_cbo, e_cbe, e_lens, e_lenl, e_lent, e_lenc, e_list, e_listt, e_inti, e_intb, e_ints, e_max, e_min, e_kst, e_ktp, e_kdp, e_ki, e_ks, e_kb, e_kn, e_ktb, e_kta, e_xst, e_xtp, e_xdp, e_xbw, e_xan, e_xcb, e_xs, e_si, e_ss, e_sb, e_sn, e_slt, e_sls, e_slb, e_sdp, e_sst, e_its, e_itbl, e_ix, e_ixo, e_ixe, e_ixf, e_nop, e_som, e_smo, e_sl, e_slo, e_gsl, e_gss, e_rev, e_dg1, e_d1o, e_d1k, e_m1, e_m1o, e_call, e_cl, e_cle, e_re, e_ree, e_rt, e_rnx, e_rer, e_def0, e_def1, e_def2, e_def3, e_def4, e_def5, e_def6, e_seq, e_sqn, e_sqr, e_sqe, e_sqb, e_sqc, e_set, e_seo, e_see, e_se2, e_if, e_ift, e_iff, e_ifr, e_ret, e_rto, e_rte, e_exp, e_epo, e_epe, e_rai, e_frz, e_fro, e_frc, e_fzo, e_fzd, e_fzs, e_fzb, e_fzu, e_for, e_fos, e_fob, e_foe, e_lii, e_lio, e_tii, e_tio, e_sti, e_sto, e_r1, e_r1o, e_r2, e_r2o, e_comp, e_coo, e_cc, e_yes, e_na0, e_nas, e_nab, e_nao, e_nad, e_nau, e_naa, e_nae, e_ne0, e_nes, e_neb, e_neo, e_ned, e_neu, e_nea, e_nee, e_app, e_apo, e_sei, e_sio, e_si2, e_dput, e_dpi, e_dpb, e_dp2, e_try, e_tyn, e_tyr, e_tye, e_exs, e_exn, e_uns, e_unn, e_ber, e_ben, e_tka, e_tko, e_ise, e_ero, e_unp, e_unt, e_imi, e_ims, e_imb, e_imn, e_imt, e_im0, e_imc, List.map_cons, List.map_nil, List.cons_append, List.nil_append, List.replicate_succ, List.replicate_zero, List.length_cons, List.length_nil, List.getElem?_cons_zero, List.getElem?_cons_succ, List.set_cons_zero, List.set_cons_succ, Option.map_some, Option.map_none, Option.bind_some, Option.isSome_some, Option.isSome_none, if_true, if_false, reduceIte, Bool.and_true, Bool.true_and, Bool.and_false, Bool.false_and, Bool.or_true, Bool.true_or, Bool.or_false, Bool.false_or, Bool.not_true, Bool.not_false, Nat.reduceAdd, Nat.reduceEqDiff, Bool.false_eq_true, decide_true, decide_false, reduceCtorEq, and_self, true_and, and_true, true_or, or_true, false_or, or_false, or_self, Nat.reducePow, Nat.reduceLeDiff, Nat.reduceSub, Int.reduceLT, Int.reduceLE, Int.reduceAdd, Int.reduceSub, Int.reduceMul, Int.reduceNeg, Int.reduceEq, List.length_map, List.length_append, e_it0, e_it1, e_it2, e_it3, e_it4, e_itt0, e_itt1, e_itt2, e_itt3, e_itt4, eq_self, Int.reduceToNat, false_and, and_false, Int.reducePow, e_pla, e_ple, e_seal, imms_rows])
theorem told_ok (rows : List Rw) : g_told [.tar rows] = .ok (.lst (rows.map rowD)) := by
  unfold g_told d_told
  walk_at "ev4"

-- the first thing wrong
def eqT (d e : D) : Bool := match eqB d e with
  | some b => b
  | none => false
theorem eqT_of {d e : D} {b : Bool} (h : eqB d e = some b) : eqT d e = b := by unfold eqT; rw [h]
def chk : Option D → List D → Option Ex
  | _, [] => none
  | a, d :: ds => if isPl d = false then some .place else if eqT d (a.getD .non) = true then some .journey else chk (some d) ds
def duE (ds : List D) : Option Ex := if 2 ≤ ds.length ∧ ds.length ≤ 40 then chk none ds else some .journey
theorem eqB_okD {d e : D} (hd : okD d) (he : okD e) : ∃ b, eqB d e = some b := by
  cases d <;> first | exact hd.elim | (cases e <;> first | exact he.elim | exact ⟨_, e_eqs⟩ | exact ⟨_, e_eqi⟩ | exact ⟨_, e_eqn⟩ | exact ⟨_, e_eqni⟩ | exact ⟨_, e_eqin⟩ | exact ⟨_, e_eqns⟩ | exact ⟨_, e_eqsn⟩ | exact ⟨_, e_eqsi⟩ | exact ⟨_, e_eqis⟩)
theorem okD_set {d : D} {k : Kd} (h : okD d) : setS d k = some (.sh d) := by
  cases d <;> first | exact h.elim | rfl
theorem okD_k {d : D} {k : Kd} (h : okD d) : stK d k = true := by
  cases d <;> first | exact h.elim | (cases k <;> rfl)
theorem okD_it {d : D} {k : Kd} (h : okD d) (hk : k = .bw) : itemS d k = some (.sh d) := by
  subst hk; exact e_itb (okD_imm h)
theorem need_loop (ds0 : D) : ∀ (ds : List D) (a : D) (x : Slot), (∀ d ∈ ds, okD d) → okD a → (match chk (some a) ds with
    | none => ∃ y z, forL 2 .bw b1_need_journey ds [.bo ds0, .sh a, x] = .nx [.bo ds0, y, z]
    | some c => ∃ δ, forL 2 .bw b1_need_journey ds [.bo ds0, .sh a, x] = .er c δ)
  | [], a, x, _, _ => ⟨_, _, rfl⟩
  | d :: ds, a, x, h, ha => by
    have hd := h d (by simp)
    have hi := is_place_ok d hd
    have ih := need_loop ds0 ds d (.sh d) (fun e he => h e (by simp [he])) hd
    have hs := okD_set (k := .st) hd
    obtain ⟨b, hb⟩ := eqB_okD hd ha
    have hq := eqT_of hb
    unfold chk forL
    rw [okD_it hd rfl]
    unfold b1_need_journey at ih ⊢
    cases hp : isPl d with
    | false =>
      rw [hp] at hi
      simp only [e_var, e_ch3, e_c3o, e_cmt, e_cmf, e_cmo, e_crt, e_crf, e_r3, e_r3o, e_dg2, e_d2o, e_gd2, e_clr, e_cao, e_ext, e_exo, e_idx, e_ixl, e_fld, e_flr, e_flt, e_xtb, e_xta, e_mth, e_rrx, e_mto, e_mkt, e_mko, e_mke, e_mkx, e_mky, e_srt, e_l2, e_l2o, e_frd, e_frt, e_pair, e_pao, e_pab, e_paa, e_put, e_puo, e_puy, e_pue, e_fvs, e_fvi, e_fvb, e_fvn, e_dgt, e_dgs, e_dgi, e_dpt, e_dps, e_sdi, e_sdb, e_sml, e_smr, e_sh, e_bo, e_ow, e_dp, e_an, e_con, e_opt, e_op, e_op2, e_op2e, e_op2f, e_un, e_op1, e_op1e, e_add, e_adds, e_addl, e_sub, e_mul, e_muls, e_mull, e_mulI, e_div, e_mod, e_lt, e_le, e_gt, e_ge, e_neg, e_not, e_isn, e_notn, e_nn, e_ni, e_ns, e_nb, e_nl, e_nt, e_eqs, e_eqi, e_eqb, e_eqn, e_eqni, e_eqin, e_eqns, e_eqsn, e_eqsi, e_eqis, e_eq, e_ne, e_in, e_nin, e_din, e_dnin, e_dget, e_dget1, e_and, e_andt, e_andf, e_ande, e_or, e_orf, e_ort, e_tst, e_ts, e_tse, e_band, e_bat, e_baf, e_bae, e_bor, e_bof, e_bot, e_boe, e_bnot, e_bn, e_bne, e_ife, e_iet, e_ief, e_ch, e_ch2, e_cht, e_chf, e_nil, e_cons, e_cn, e_cne, e_cnf, e_arg1, e_arg2, e_lst, e_lse, e_ls0, e_ls1, e_ls2, e_ls3, e_ls4, e_ls5, e_ls6, e_ls7, e_ls8, e_tup, e_tue, e_tu0, e_tu1, e_tu2, e_tu3, e_tu4, e_dnew, e_cb, e_cbo, e_cbe, e_lens, e_lenl, e_lent, e_lenc, e_list, e_listt, e_inti, e_intb, e_ints, e_max, e_min, e_kst, e_ktp, e_kdp, e_ki, e_ks, e_kb, e_kn, e_ktb, e_kta, e_xst, e_xtp, e_xdp, e_xbw, e_xan, e_xcb, e_xs, e_si, e_ss, e_sb, e_sn, e_slt, e_sls, e_slb, e_sdp, e_sst, e_its, e_itbl, e_ix, e_ixo, e_ixe, e_ixf, e_nop, e_som, e_smo, e_sl, e_slo, e_gsl, e_gss, e_rev, e_dg1, e_d1o, e_d1k, e_m1, e_m1o, e_call, e_cl, e_cle, e_re, e_ree, e_rt, e_rnx, e_rer, e_def0, e_def1, e_def2, e_def3, e_def4, e_def5, e_def6, e_seq, e_sqn, e_sqr, e_sqe, e_sqb, e_sqc, e_set, e_seo, e_see, e_se2, e_if, e_ift, e_iff, e_ifr, e_ret, e_rto, e_rte, e_exp, e_epo, e_epe, e_rai, e_frz, e_fro, e_frc, e_fzo, e_fzd, e_fzs, e_fzb, e_fzu, e_for, e_fos, e_fob, e_foe, e_lii, e_lio, e_tii, e_tio, e_sti, e_sto, e_r1, e_r1o, e_r2, e_r2o, e_comp, e_coo, e_cc, e_yes, e_na0, e_nas, e_nab, e_nao, e_nad, e_nau, e_naa, e_nae, e_ne0, e_nes, e_neb, e_neo, e_ned, e_neu, e_nea, e_nee, e_app, e_apo, e_sei, e_sio, e_si2, e_dput, e_dpi, e_dpb, e_dp2, e_try, e_tyn, e_tyr, e_tye, e_exs, e_exn, e_uns, e_unn, e_ber, e_ben, e_tka, e_tko, e_ise, e_ero, e_unp, e_unt, e_imi, e_ims, e_imb, e_imn, e_imt, e_im0, e_imc, List.map_cons, List.map_nil, List.cons_append, List.nil_append, List.replicate_succ, List.replicate_zero, List.length_cons, List.length_nil, List.getElem?_cons_zero, List.getElem?_cons_succ, List.set_cons_zero, List.set_cons_succ, Option.map_some, Option.map_none, Option.bind_some, Option.isSome_some, Option.isSome_none, if_true, if_false, reduceIte, Bool.and_true, Bool.true_and, Bool.and_false, Bool.false_and, Bool.or_true, Bool.true_or, Bool.or_false, Bool.false_or, Bool.not_true, Bool.not_false, Nat.reduceAdd, Nat.reduceEqDiff, Bool.false_eq_true, decide_true, decide_false, reduceCtorEq, and_self, true_and, and_true, true_or, or_true, false_or, or_false, or_self, Nat.reducePow, Nat.reduceLeDiff, Nat.reduceSub, Int.reduceLT, Int.reduceLE, Int.reduceAdd, Int.reduceSub, Int.reduceMul, Int.reduceNeg, Int.reduceEq, List.length_map, List.length_append, e_it0, e_it1, e_it2, e_it3, e_it4, e_itt0, e_itt1, e_itt2, e_itt3, e_itt4, eq_self, Int.reduceToNat, false_and, and_false, Int.reducePow, e_pla, e_ple, e_seal, hi]
      exact ⟨_, rfl⟩
    | true =>
      rw [hp] at hi
      cases b with
      | true =>
        simp only [e_var, e_ch3, e_c3o, e_cmt, e_cmf, e_cmo, e_crt, e_crf, e_r3, e_r3o, e_dg2, e_d2o, e_gd2, e_clr, e_cao, e_ext, e_exo, e_idx, e_ixl, e_fld, e_flr, e_flt, e_xtb, e_xta, e_mth, e_rrx, e_mto, e_mkt, e_mko, e_mke, e_mkx, e_mky, e_srt, e_l2, e_l2o, e_frd, e_frt, e_pair, e_pao, e_pab, e_paa, e_put, e_puo, e_puy, e_pue, e_fvs, e_fvi, e_fvb, e_fvn, e_dgt, e_dgs, e_dgi, e_dpt, e_dps, e_sdi, e_sdb, e_sml, e_smr, e_sh, e_bo, e_ow, e_dp, e_an, e_con, e_opt, e_op, e_op2, e_op2e, e_op2f, e_un, e_op1, e_op1e, e_add, e_adds, e_addl, e_sub, e_mul, e_muls, e_mull, e_mulI, e_div, e_mod, e_lt, e_le, e_gt, e_ge, e_neg, e_not, e_isn, e_notn, e_nn, e_ni, e_ns, e_nb, e_nl, e_nt, e_eqs, e_eqi, e_eqb, e_eqn, e_eqni, e_eqin, e_eqns, e_eqsn, e_eqsi, e_eqis, e_eq, e_ne, e_in, e_nin, e_din, e_dnin, e_dget, e_dget1, e_and, e_andt, e_andf, e_ande, e_or, e_orf, e_ort, e_tst, e_ts, e_tse, e_band, e_bat, e_baf, e_bae, e_bor, e_bof, e_bot, e_boe, e_bnot, e_bn, e_bne, e_ife, e_iet, e_ief, e_ch, e_ch2, e_cht, e_chf, e_nil, e_cons, e_cn, e_cne, e_cnf, e_arg1, e_arg2, e_lst, e_lse, e_ls0, e_ls1, e_ls2, e_ls3, e_ls4, e_ls5, e_ls6, e_ls7, e_ls8, e_tup, e_tue, e_tu0, e_tu1, e_tu2, e_tu3, e_tu4, e_dnew, e_cb, e_cbo, e_cbe, e_lens, e_lenl, e_lent, e_lenc, e_list, e_listt, e_inti, e_intb, e_ints, e_max, e_min, e_kst, e_ktp, e_kdp, e_ki, e_ks, e_kb, e_kn, e_ktb, e_kta, e_xst, e_xtp, e_xdp, e_xbw, e_xan, e_xcb, e_xs, e_si, e_ss, e_sb, e_sn, e_slt, e_sls, e_slb, e_sdp, e_sst, e_its, e_itbl, e_ix, e_ixo, e_ixe, e_ixf, e_nop, e_som, e_smo, e_sl, e_slo, e_gsl, e_gss, e_rev, e_dg1, e_d1o, e_d1k, e_m1, e_m1o, e_call, e_cl, e_cle, e_re, e_ree, e_rt, e_rnx, e_rer, e_def0, e_def1, e_def2, e_def3, e_def4, e_def5, e_def6, e_seq, e_sqn, e_sqr, e_sqe, e_sqb, e_sqc, e_set, e_seo, e_see, e_se2, e_if, e_ift, e_iff, e_ifr, e_ret, e_rto, e_rte, e_exp, e_epo, e_epe, e_rai, e_frz, e_fro, e_frc, e_fzo, e_fzd, e_fzs, e_fzb, e_fzu, e_for, e_fos, e_fob, e_foe, e_lii, e_lio, e_tii, e_tio, e_sti, e_sto, e_r1, e_r1o, e_r2, e_r2o, e_comp, e_coo, e_cc, e_yes, e_na0, e_nas, e_nab, e_nao, e_nad, e_nau, e_naa, e_nae, e_ne0, e_nes, e_neb, e_neo, e_ned, e_neu, e_nea, e_nee, e_app, e_apo, e_sei, e_sio, e_si2, e_dput, e_dpi, e_dpb, e_dp2, e_try, e_tyn, e_tyr, e_tye, e_exs, e_exn, e_uns, e_unn, e_ber, e_ben, e_tka, e_tko, e_ise, e_ero, e_unp, e_unt, e_imi, e_ims, e_imb, e_imn, e_imt, e_im0, e_imc, List.map_cons, List.map_nil, List.cons_append, List.nil_append, List.replicate_succ, List.replicate_zero, List.length_cons, List.length_nil, List.getElem?_cons_zero, List.getElem?_cons_succ, List.set_cons_zero, List.set_cons_succ, Option.map_some, Option.map_none, Option.bind_some, Option.isSome_some, Option.isSome_none, if_true, if_false, reduceIte, Bool.and_true, Bool.true_and, Bool.and_false, Bool.false_and, Bool.or_true, Bool.true_or, Bool.or_false, Bool.false_or, Bool.not_true, Bool.not_false, Nat.reduceAdd, Nat.reduceEqDiff, Bool.false_eq_true, decide_true, decide_false, reduceCtorEq, and_self, true_and, and_true, true_or, or_true, false_or, or_false, or_self, Nat.reducePow, Nat.reduceLeDiff, Nat.reduceSub, Int.reduceLT, Int.reduceLE, Int.reduceAdd, Int.reduceSub, Int.reduceMul, Int.reduceNeg, Int.reduceEq, List.length_map, List.length_append, e_it0, e_it1, e_it2, e_it3, e_it4, e_itt0, e_itt1, e_itt2, e_itt3, e_itt4, eq_self, Int.reduceToNat, false_and, and_false, Int.reducePow, e_pla, e_ple, e_seal, hi, hb, hq, Option.getD_some]
        exact ⟨_, rfl⟩
      | false =>
        simp only [e_var, e_ch3, e_c3o, e_cmt, e_cmf, e_cmo, e_crt, e_crf, e_r3, e_r3o, e_dg2, e_d2o, e_gd2, e_clr, e_cao, e_ext, e_exo, e_idx, e_ixl, e_fld, e_flr, e_flt, e_xtb, e_xta, e_mth, e_rrx, e_mto, e_mkt, e_mko, e_mke, e_mkx, e_mky, e_srt, e_l2, e_l2o, e_frd, e_frt, e_pair, e_pao, e_pab, e_paa, e_put, e_puo, e_puy, e_pue, e_fvs, e_fvi, e_fvb, e_fvn, e_dgt, e_dgs, e_dgi, e_dpt, e_dps, e_sdi, e_sdb, e_sml, e_smr, e_sh, e_bo, e_ow, e_dp, e_an, e_con, e_opt, e_op, e_op2, e_op2e, e_op2f, e_un, e_op1, e_op1e, e_add, e_adds, e_addl, e_sub, e_mul, e_muls, e_mull, e_mulI, e_div, e_mod, e_lt, e_le, e_gt, e_ge, e_neg, e_not, e_isn, e_notn, e_nn, e_ni, e_ns, e_nb, e_nl, e_nt, e_eqs, e_eqi, e_eqb, e_eqn, e_eqni, e_eqin, e_eqns, e_eqsn, e_eqsi, e_eqis, e_eq, e_ne, e_in, e_nin, e_din, e_dnin, e_dget, e_dget1, e_and, e_andt, e_andf, e_ande, e_or, e_orf, e_ort, e_tst, e_ts, e_tse, e_band, e_bat, e_baf, e_bae, e_bor, e_bof, e_bot, e_boe, e_bnot, e_bn, e_bne, e_ife, e_iet, e_ief, e_ch, e_ch2, e_cht, e_chf, e_nil, e_cons, e_cn, e_cne, e_cnf, e_arg1, e_arg2, e_lst, e_lse, e_ls0, e_ls1, e_ls2, e_ls3, e_ls4, e_ls5, e_ls6, e_ls7, e_ls8, e_tup, e_tue, e_tu0, e_tu1, e_tu2, e_tu3, e_tu4, e_dnew, e_cb, e_cbo, e_cbe, e_lens, e_lenl, e_lent, e_lenc, e_list, e_listt, e_inti, e_intb, e_ints, e_max, e_min, e_kst, e_ktp, e_kdp, e_ki, e_ks, e_kb, e_kn, e_ktb, e_kta, e_xst, e_xtp, e_xdp, e_xbw, e_xan, e_xcb, e_xs, e_si, e_ss, e_sb, e_sn, e_slt, e_sls, e_slb, e_sdp, e_sst, e_its, e_itbl, e_ix, e_ixo, e_ixe, e_ixf, e_nop, e_som, e_smo, e_sl, e_slo, e_gsl, e_gss, e_rev, e_dg1, e_d1o, e_d1k, e_m1, e_m1o, e_call, e_cl, e_cle, e_re, e_ree, e_rt, e_rnx, e_rer, e_def0, e_def1, e_def2, e_def3, e_def4, e_def5, e_def6, e_seq, e_sqn, e_sqr, e_sqe, e_sqb, e_sqc, e_set, e_seo, e_see, e_se2, e_if, e_ift, e_iff, e_ifr, e_ret, e_rto, e_rte, e_exp, e_epo, e_epe, e_rai, e_frz, e_fro, e_frc, e_fzo, e_fzd, e_fzs, e_fzb, e_fzu, e_for, e_fos, e_fob, e_foe, e_lii, e_lio, e_tii, e_tio, e_sti, e_sto, e_r1, e_r1o, e_r2, e_r2o, e_comp, e_coo, e_cc, e_yes, e_na0, e_nas, e_nab, e_nao, e_nad, e_nau, e_naa, e_nae, e_ne0, e_nes, e_neb, e_neo, e_ned, e_neu, e_nea, e_nee, e_app, e_apo, e_sei, e_sio, e_si2, e_dput, e_dpi, e_dpb, e_dp2, e_try, e_tyn, e_tyr, e_tye, e_exs, e_exn, e_uns, e_unn, e_ber, e_ben, e_tka, e_tko, e_ise, e_ero, e_unp, e_unt, e_imi, e_ims, e_imb, e_imn, e_imt, e_im0, e_imc, List.map_cons, List.map_nil, List.cons_append, List.nil_append, List.replicate_succ, List.replicate_zero, List.length_cons, List.length_nil, List.getElem?_cons_zero, List.getElem?_cons_succ, List.set_cons_zero, List.set_cons_succ, Option.map_some, Option.map_none, Option.bind_some, Option.isSome_some, Option.isSome_none, if_true, if_false, reduceIte, Bool.and_true, Bool.true_and, Bool.and_false, Bool.false_and, Bool.or_true, Bool.true_or, Bool.or_false, Bool.false_or, Bool.not_true, Bool.not_false, Nat.reduceAdd, Nat.reduceEqDiff, Bool.false_eq_true, decide_true, decide_false, reduceCtorEq, and_self, true_and, and_true, true_or, or_true, false_or, or_false, or_self, Nat.reducePow, Nat.reduceLeDiff, Nat.reduceSub, Int.reduceLT, Int.reduceLE, Int.reduceAdd, Int.reduceSub, Int.reduceMul, Int.reduceNeg, Int.reduceEq, List.length_map, List.length_append, e_it0, e_it1, e_it2, e_it3, e_it4, e_itt0, e_itt1, e_itt2, e_itt3, e_itt4, eq_self, Int.reduceToNat, false_and, and_false, Int.reducePow, e_pla, e_ple, e_seal, hi, hb, hq, hs, Option.getD_some, Option.some.injEq]
        exact ih
theorem need_ok (ds : List D) (h : ∀ d ∈ ds, okD d) : g_need_journey [.lst ds] = (match duE ds with
    | none => .ok (.lst ds)
    | some c => .er c) := by
  unfold g_need_journey d_need_journey duE
  walk_at "ev0"
  by_cases h1 : 2 ≤ ds.length
  · by_cases h2 : ds.length ≤ 40
    · have h1' : (2 : Int) ≤ ds.length := by omega
      have h2' : (ds.length : Int) ≤ 40 := by omega
      have key := need_loop (.lst ds) ds .non .un h trivial
      have him := okD_imms h
      have e : chk none ds = chk (some .non) ds := by cases ds <;> rfl
      rw [e]
      simp only [e_var, e_ch3, e_c3o, e_cmt, e_cmf, e_cmo, e_crt, e_crf, e_r3, e_r3o, e_dg2, e_d2o, e_gd2, e_clr, e_cao, e_ext, e_exo, e_idx, e_ixl, e_fld, e_flr, e_flt, e_xtb, e_xta, e_mth, e_rrx, e_mto, e_mkt, e_mko, e_mke, e_mkx, e_mky, e_srt, e_l2, e_l2o, e_frd, e_frt, e_pair, e_pao, e_pab, e_paa, e_put, e_puo, e_puy, e_pue, e_fvs, e_fvi, e_fvb, e_fvn, e_dgt, e_dgs, e_dgi, e_dpt, e_dps, e_sdi, e_sdb, e_sml, e_smr, e_sh, e_bo, e_ow, e_dp, e_an, e_con, e_opt, e_op, e_op2, e_op2e, e_op2f, e_un, e_op1, e_op1e, e_add, e_adds, e_addl, e_sub, e_mul, e_muls, e_mull, e_mulI, e_div, e_mod, e_lt, e_le, e_gt, e_ge, e_neg, e_not, e_isn, e_notn, e_nn, e_ni, e_ns, e_nb, e_nl, e_nt, e_eqs, e_eqi, e_eqb, e_eqn, e_eqni, e_eqin, e_eqns, e_eqsn, e_eqsi, e_eqis, e_eq, e_ne, e_in, e_nin, e_din, e_dnin, e_dget, e_dget1, e_and, e_andt, e_andf, e_ande, e_or, e_orf, e_ort, e_tst, e_ts, e_tse, e_band, e_bat, e_baf, e_bae, e_bor, e_bof, e_bot, e_boe, e_bnot, e_bn, e_bne, e_ife, e_iet, e_ief, e_ch, e_ch2, e_cht, e_chf, e_nil, e_cons, e_cn, e_cne, e_cnf, e_arg1, e_arg2, e_lst, e_lse, e_ls0, e_ls1, e_ls2, e_ls3, e_ls4, e_ls5, e_ls6, e_ls7, e_ls8, e_tup, e_tue, e_tu0, e_tu1, e_tu2, e_tu3, e_tu4, e_dnew, e_cb, e_cbo, e_cbe, e_lens, e_lenl, e_lent, e_lenc, e_list, e_listt, e_inti, e_intb, e_ints, e_max, e_min, e_kst, e_ktp, e_kdp, e_ki, e_ks, e_kb, e_kn, e_ktb, e_kta, e_xst, e_xtp, e_xdp, e_xbw, e_xan, e_xcb, e_xs, e_si, e_ss, e_sb, e_sn, e_slt, e_sls, e_slb, e_sdp, e_sst, e_its, e_itbl, e_ix, e_ixo, e_ixe, e_ixf, e_nop, e_som, e_smo, e_sl, e_slo, e_gsl, e_gss, e_rev, e_dg1, e_d1o, e_d1k, e_m1, e_m1o, e_call, e_cl, e_cle, e_re, e_ree, e_rt, e_rnx, e_rer, e_def0, e_def1, e_def2, e_def3, e_def4, e_def5, e_def6, e_seq, e_sqn, e_sqr, e_sqe, e_sqb, e_sqc, e_set, e_seo, e_see, e_se2, e_if, e_ift, e_iff, e_ifr, e_ret, e_rto, e_rte, e_exp, e_epo, e_epe, e_rai, e_frz, e_fro, e_frc, e_fzo, e_fzd, e_fzs, e_fzb, e_fzu, e_for, e_fos, e_fob, e_foe, e_lii, e_lio, e_tii, e_tio, e_sti, e_sto, e_r1, e_r1o, e_r2, e_r2o, e_comp, e_coo, e_cc, e_yes, e_na0, e_nas, e_nab, e_nao, e_nad, e_nau, e_naa, e_nae, e_ne0, e_nes, e_neb, e_neo, e_ned, e_neu, e_nea, e_nee, e_app, e_apo, e_sei, e_sio, e_si2, e_dput, e_dpi, e_dpb, e_dp2, e_try, e_tyn, e_tyr, e_tye, e_exs, e_exn, e_uns, e_unn, e_ber, e_ben, e_tka, e_tko, e_ise, e_ero, e_unp, e_unt, e_imi, e_ims, e_imb, e_imn, e_imt, e_im0, e_imc, List.map_cons, List.map_nil, List.cons_append, List.nil_append, List.replicate_succ, List.replicate_zero, List.length_cons, List.length_nil, List.getElem?_cons_zero, List.getElem?_cons_succ, List.set_cons_zero, List.set_cons_succ, Option.map_some, Option.map_none, Option.bind_some, Option.isSome_some, Option.isSome_none, if_true, if_false, reduceIte, Bool.and_true, Bool.true_and, Bool.and_false, Bool.false_and, Bool.or_true, Bool.true_or, Bool.or_false, Bool.false_or, Bool.not_true, Bool.not_false, Nat.reduceAdd, Nat.reduceEqDiff, Bool.false_eq_true, decide_true, decide_false, reduceCtorEq, and_self, true_and, and_true, true_or, or_true, false_or, or_false, or_self, Nat.reducePow, Nat.reduceLeDiff, Nat.reduceSub, Int.reduceLT, Int.reduceLE, Int.reduceAdd, Int.reduceSub, Int.reduceMul, Int.reduceNeg, Int.reduceEq, List.length_map, List.length_append, e_it0, e_it1, e_it2, e_it3, e_it4, e_itt0, e_itt1, e_itt2, e_itt3, e_itt4, eq_self, Int.reduceToNat, false_and, and_false, Int.reducePow, e_pla, e_ple, e_seal, h1, h2, h1', h2']
      cases hc : chk (some .non) ds with
      | none =>
        rw [hc] at key
        obtain ⟨y, x, k1⟩ := key
        simp only [e_var, e_ch3, e_c3o, e_cmt, e_cmf, e_cmo, e_crt, e_crf, e_r3, e_r3o, e_dg2, e_d2o, e_gd2, e_clr, e_cao, e_ext, e_exo, e_idx, e_ixl, e_fld, e_flr, e_flt, e_xtb, e_xta, e_mth, e_rrx, e_mto, e_mkt, e_mko, e_mke, e_mkx, e_mky, e_srt, e_l2, e_l2o, e_frd, e_frt, e_pair, e_pao, e_pab, e_paa, e_put, e_puo, e_puy, e_pue, e_fvs, e_fvi, e_fvb, e_fvn, e_dgt, e_dgs, e_dgi, e_dpt, e_dps, e_sdi, e_sdb, e_sml, e_smr, e_sh, e_bo, e_ow, e_dp, e_an, e_con, e_opt, e_op, e_op2, e_op2e, e_op2f, e_un, e_op1, e_op1e, e_add, e_adds, e_addl, e_sub, e_mul, e_muls, e_mull, e_mulI, e_div, e_mod, e_lt, e_le, e_gt, e_ge, e_neg, e_not, e_isn, e_notn, e_nn, e_ni, e_ns, e_nb, e_nl, e_nt, e_eqs, e_eqi, e_eqb, e_eqn, e_eqni, e_eqin, e_eqns, e_eqsn, e_eqsi, e_eqis, e_eq, e_ne, e_in, e_nin, e_din, e_dnin, e_dget, e_dget1, e_and, e_andt, e_andf, e_ande, e_or, e_orf, e_ort, e_tst, e_ts, e_tse, e_band, e_bat, e_baf, e_bae, e_bor, e_bof, e_bot, e_boe, e_bnot, e_bn, e_bne, e_ife, e_iet, e_ief, e_ch, e_ch2, e_cht, e_chf, e_nil, e_cons, e_cn, e_cne, e_cnf, e_arg1, e_arg2, e_lst, e_lse, e_ls0, e_ls1, e_ls2, e_ls3, e_ls4, e_ls5, e_ls6, e_ls7, e_ls8, e_tup, e_tue, e_tu0, e_tu1, e_tu2, e_tu3, e_tu4, e_dnew, e_cb, e_cbo, e_cbe, e_lens, e_lenl, e_lent, e_lenc, e_list, e_listt, e_inti, e_intb, e_ints, e_max, e_min, e_kst, e_ktp, e_kdp, e_ki, e_ks, e_kb, e_kn, e_ktb, e_kta, e_xst, e_xtp, e_xdp, e_xbw, e_xan, e_xcb, e_xs, e_si, e_ss, e_sb, e_sn, e_slt, e_sls, e_slb, e_sdp, e_sst, e_its, e_itbl, e_ix, e_ixo, e_ixe, e_ixf, e_nop, e_som, e_smo, e_sl, e_slo, e_gsl, e_gss, e_rev, e_dg1, e_d1o, e_d1k, e_m1, e_m1o, e_call, e_cl, e_cle, e_re, e_ree, e_rt, e_rnx, e_rer, e_def0, e_def1, e_def2, e_def3, e_def4, e_def5, e_def6, e_seq, e_sqn, e_sqr, e_sqe, e_sqb, e_sqc, e_set, e_seo, e_see, e_se2, e_if, e_ift, e_iff, e_ifr, e_ret, e_rto, e_rte, e_exp, e_epo, e_epe, e_rai, e_frz, e_fro, e_frc, e_fzo, e_fzd, e_fzs, e_fzb, e_fzu, e_for, e_fos, e_fob, e_foe, e_lii, e_lio, e_tii, e_tio, e_sti, e_sto, e_r1, e_r1o, e_r2, e_r2o, e_comp, e_coo, e_cc, e_yes, e_na0, e_nas, e_nab, e_nao, e_nad, e_nau, e_naa, e_nae, e_ne0, e_nes, e_neb, e_neo, e_ned, e_neu, e_nea, e_nee, e_app, e_apo, e_sei, e_sio, e_si2, e_dput, e_dpi, e_dpb, e_dp2, e_try, e_tyn, e_tyr, e_tye, e_exs, e_exn, e_uns, e_unn, e_ber, e_ben, e_tka, e_tko, e_ise, e_ero, e_unp, e_unt, e_imi, e_ims, e_imb, e_imn, e_imt, e_im0, e_imc, List.map_cons, List.map_nil, List.cons_append, List.nil_append, List.replicate_succ, List.replicate_zero, List.length_cons, List.length_nil, List.getElem?_cons_zero, List.getElem?_cons_succ, List.set_cons_zero, List.set_cons_succ, Option.map_some, Option.map_none, Option.bind_some, Option.isSome_some, Option.isSome_none, if_true, if_false, reduceIte, Bool.and_true, Bool.true_and, Bool.and_false, Bool.false_and, Bool.or_true, Bool.true_or, Bool.or_false, Bool.false_or, Bool.not_true, Bool.not_false, Nat.reduceAdd, Nat.reduceEqDiff, Bool.false_eq_true, decide_true, decide_false, reduceCtorEq, and_self, true_and, and_true, true_or, or_true, false_or, or_false, or_self, Nat.reducePow, Nat.reduceLeDiff, Nat.reduceSub, Int.reduceLT, Int.reduceLE, Int.reduceAdd, Int.reduceSub, Int.reduceMul, Int.reduceNeg, Int.reduceEq, List.length_map, List.length_append, e_it0, e_it1, e_it2, e_it3, e_it4, e_itt0, e_itt1, e_itt2, e_itt3, e_itt4, eq_self, Int.reduceToNat, false_and, and_false, Int.reducePow, e_pla, e_ple, e_seal, k1, him]
      | some c =>
        rw [hc] at key
        obtain ⟨δ, k1⟩ := key
        simp only [e_var, e_ch3, e_c3o, e_cmt, e_cmf, e_cmo, e_crt, e_crf, e_r3, e_r3o, e_dg2, e_d2o, e_gd2, e_clr, e_cao, e_ext, e_exo, e_idx, e_ixl, e_fld, e_flr, e_flt, e_xtb, e_xta, e_mth, e_rrx, e_mto, e_mkt, e_mko, e_mke, e_mkx, e_mky, e_srt, e_l2, e_l2o, e_frd, e_frt, e_pair, e_pao, e_pab, e_paa, e_put, e_puo, e_puy, e_pue, e_fvs, e_fvi, e_fvb, e_fvn, e_dgt, e_dgs, e_dgi, e_dpt, e_dps, e_sdi, e_sdb, e_sml, e_smr, e_sh, e_bo, e_ow, e_dp, e_an, e_con, e_opt, e_op, e_op2, e_op2e, e_op2f, e_un, e_op1, e_op1e, e_add, e_adds, e_addl, e_sub, e_mul, e_muls, e_mull, e_mulI, e_div, e_mod, e_lt, e_le, e_gt, e_ge, e_neg, e_not, e_isn, e_notn, e_nn, e_ni, e_ns, e_nb, e_nl, e_nt, e_eqs, e_eqi, e_eqb, e_eqn, e_eqni, e_eqin, e_eqns, e_eqsn, e_eqsi, e_eqis, e_eq, e_ne, e_in, e_nin, e_din, e_dnin, e_dget, e_dget1, e_and, e_andt, e_andf, e_ande, e_or, e_orf, e_ort, e_tst, e_ts, e_tse, e_band, e_bat, e_baf, e_bae, e_bor, e_bof, e_bot, e_boe, e_bnot, e_bn, e_bne, e_ife, e_iet, e_ief, e_ch, e_ch2, e_cht, e_chf, e_nil, e_cons, e_cn, e_cne, e_cnf, e_arg1, e_arg2, e_lst, e_lse, e_ls0, e_ls1, e_ls2, e_ls3, e_ls4, e_ls5, e_ls6, e_ls7, e_ls8, e_tup, e_tue, e_tu0, e_tu1, e_tu2, e_tu3, e_tu4, e_dnew, e_cb, e_cbo, e_cbe, e_lens, e_lenl, e_lent, e_lenc, e_list, e_listt, e_inti, e_intb, e_ints, e_max, e_min, e_kst, e_ktp, e_kdp, e_ki, e_ks, e_kb, e_kn, e_ktb, e_kta, e_xst, e_xtp, e_xdp, e_xbw, e_xan, e_xcb, e_xs, e_si, e_ss, e_sb, e_sn, e_slt, e_sls, e_slb, e_sdp, e_sst, e_its, e_itbl, e_ix, e_ixo, e_ixe, e_ixf, e_nop, e_som, e_smo, e_sl, e_slo, e_gsl, e_gss, e_rev, e_dg1, e_d1o, e_d1k, e_m1, e_m1o, e_call, e_cl, e_cle, e_re, e_ree, e_rt, e_rnx, e_rer, e_def0, e_def1, e_def2, e_def3, e_def4, e_def5, e_def6, e_seq, e_sqn, e_sqr, e_sqe, e_sqb, e_sqc, e_set, e_seo, e_see, e_se2, e_if, e_ift, e_iff, e_ifr, e_ret, e_rto, e_rte, e_exp, e_epo, e_epe, e_rai, e_frz, e_fro, e_frc, e_fzo, e_fzd, e_fzs, e_fzb, e_fzu, e_for, e_fos, e_fob, e_foe, e_lii, e_lio, e_tii, e_tio, e_sti, e_sto, e_r1, e_r1o, e_r2, e_r2o, e_comp, e_coo, e_cc, e_yes, e_na0, e_nas, e_nab, e_nao, e_nad, e_nau, e_naa, e_nae, e_ne0, e_nes, e_neb, e_neo, e_ned, e_neu, e_nea, e_nee, e_app, e_apo, e_sei, e_sio, e_si2, e_dput, e_dpi, e_dpb, e_dp2, e_try, e_tyn, e_tyr, e_tye, e_exs, e_exn, e_uns, e_unn, e_ber, e_ben, e_tka, e_tko, e_ise, e_ero, e_unp, e_unt, e_imi, e_ims, e_imb, e_imn, e_imt, e_im0, e_imc, List.map_cons, List.map_nil, List.cons_append, List.nil_append, List.replicate_succ, List.replicate_zero, List.length_cons, List.length_nil, List.getElem?_cons_zero, List.getElem?_cons_succ, List.set_cons_zero, List.set_cons_succ, Option.map_some, Option.map_none, Option.bind_some, Option.isSome_some, Option.isSome_none, if_true, if_false, reduceIte, Bool.and_true, Bool.true_and, Bool.and_false, Bool.false_and, Bool.or_true, Bool.true_or, Bool.or_false, Bool.false_or, Bool.not_true, Bool.not_false, Nat.reduceAdd, Nat.reduceEqDiff, Bool.false_eq_true, decide_true, decide_false, reduceCtorEq, and_self, true_and, and_true, true_or, or_true, false_or, or_false, or_self, Nat.reducePow, Nat.reduceLeDiff, Nat.reduceSub, Int.reduceLT, Int.reduceLE, Int.reduceAdd, Int.reduceSub, Int.reduceMul, Int.reduceNeg, Int.reduceEq, List.length_map, List.length_append, e_it0, e_it1, e_it2, e_it3, e_it4, e_itt0, e_itt1, e_itt2, e_itt3, e_itt4, eq_self, Int.reduceToNat, false_and, and_false, Int.reducePow, e_pla, e_ple, e_seal, k1]
    · have h1' : (2 : Int) ≤ ds.length := by omega
      have h2' : ¬ (ds.length : Int) ≤ 40 := by omega
      simp only [e_var, e_ch3, e_c3o, e_cmt, e_cmf, e_cmo, e_crt, e_crf, e_r3, e_r3o, e_dg2, e_d2o, e_gd2, e_clr, e_cao, e_ext, e_exo, e_idx, e_ixl, e_fld, e_flr, e_flt, e_xtb, e_xta, e_mth, e_rrx, e_mto, e_mkt, e_mko, e_mke, e_mkx, e_mky, e_srt, e_l2, e_l2o, e_frd, e_frt, e_pair, e_pao, e_pab, e_paa, e_put, e_puo, e_puy, e_pue, e_fvs, e_fvi, e_fvb, e_fvn, e_dgt, e_dgs, e_dgi, e_dpt, e_dps, e_sdi, e_sdb, e_sml, e_smr, e_sh, e_bo, e_ow, e_dp, e_an, e_con, e_opt, e_op, e_op2, e_op2e, e_op2f, e_un, e_op1, e_op1e, e_add, e_adds, e_addl, e_sub, e_mul, e_muls, e_mull, e_mulI, e_div, e_mod, e_lt, e_le, e_gt, e_ge, e_neg, e_not, e_isn, e_notn, e_nn, e_ni, e_ns, e_nb, e_nl, e_nt, e_eqs, e_eqi, e_eqb, e_eqn, e_eqni, e_eqin, e_eqns, e_eqsn, e_eqsi, e_eqis, e_eq, e_ne, e_in, e_nin, e_din, e_dnin, e_dget, e_dget1, e_and, e_andt, e_andf, e_ande, e_or, e_orf, e_ort, e_tst, e_ts, e_tse, e_band, e_bat, e_baf, e_bae, e_bor, e_bof, e_bot, e_boe, e_bnot, e_bn, e_bne, e_ife, e_iet, e_ief, e_ch, e_ch2, e_cht, e_chf, e_nil, e_cons, e_cn, e_cne, e_cnf, e_arg1, e_arg2, e_lst, e_lse, e_ls0, e_ls1, e_ls2, e_ls3, e_ls4, e_ls5, e_ls6, e_ls7, e_ls8, e_tup, e_tue, e_tu0, e_tu1, e_tu2, e_tu3, e_tu4, e_dnew, e_cb, e_cbo, e_cbe, e_lens, e_lenl, e_lent, e_lenc, e_list, e_listt, e_inti, e_intb, e_ints, e_max, e_min, e_kst, e_ktp, e_kdp, e_ki, e_ks, e_kb, e_kn, e_ktb, e_kta, e_xst, e_xtp, e_xdp, e_xbw, e_xan, e_xcb, e_xs, e_si, e_ss, e_sb, e_sn, e_slt, e_sls, e_slb, e_sdp, e_sst, e_its, e_itbl, e_ix, e_ixo, e_ixe, e_ixf, e_nop, e_som, e_smo, e_sl, e_slo, e_gsl, e_gss, e_rev, e_dg1, e_d1o, e_d1k, e_m1, e_m1o, e_call, e_cl, e_cle, e_re, e_ree, e_rt, e_rnx, e_rer, e_def0, e_def1, e_def2, e_def3, e_def4, e_def5, e_def6, e_seq, e_sqn, e_sqr, e_sqe, e_sqb, e_sqc, e_set, e_seo, e_see, e_se2, e_if, e_ift, e_iff, e_ifr, e_ret, e_rto, e_rte, e_exp, e_epo, e_epe, e_rai, e_frz, e_fro, e_frc, e_fzo, e_fzd, e_fzs, e_fzb, e_fzu, e_for, e_fos, e_fob, e_foe, e_lii, e_lio, e_tii, e_tio, e_sti, e_sto, e_r1, e_r1o, e_r2, e_r2o, e_comp, e_coo, e_cc, e_yes, e_na0, e_nas, e_nab, e_nao, e_nad, e_nau, e_naa, e_nae, e_ne0, e_nes, e_neb, e_neo, e_ned, e_neu, e_nea, e_nee, e_app, e_apo, e_sei, e_sio, e_si2, e_dput, e_dpi, e_dpb, e_dp2, e_try, e_tyn, e_tyr, e_tye, e_exs, e_exn, e_uns, e_unn, e_ber, e_ben, e_tka, e_tko, e_ise, e_ero, e_unp, e_unt, e_imi, e_ims, e_imb, e_imn, e_imt, e_im0, e_imc, List.map_cons, List.map_nil, List.cons_append, List.nil_append, List.replicate_succ, List.replicate_zero, List.length_cons, List.length_nil, List.getElem?_cons_zero, List.getElem?_cons_succ, List.set_cons_zero, List.set_cons_succ, Option.map_some, Option.map_none, Option.bind_some, Option.isSome_some, Option.isSome_none, if_true, if_false, reduceIte, Bool.and_true, Bool.true_and, Bool.and_false, Bool.false_and, Bool.or_true, Bool.true_or, Bool.or_false, Bool.false_or, Bool.not_true, Bool.not_false, Nat.reduceAdd, Nat.reduceEqDiff, Bool.false_eq_true, decide_true, decide_false, reduceCtorEq, and_self, true_and, and_true, true_or, or_true, false_or, or_false, or_self, Nat.reducePow, Nat.reduceLeDiff, Nat.reduceSub, Int.reduceLT, Int.reduceLE, Int.reduceAdd, Int.reduceSub, Int.reduceMul, Int.reduceNeg, Int.reduceEq, List.length_map, List.length_append, e_it0, e_it1, e_it2, e_it3, e_it4, e_itt0, e_itt1, e_itt2, e_itt3, e_itt4, eq_self, Int.reduceToNat, false_and, and_false, Int.reducePow, e_pla, e_ple, e_seal, h1, h2, h1', h2']
  · have h1' : ¬ (2 : Int) ≤ ds.length := by omega
    simp only [e_var, e_ch3, e_c3o, e_cmt, e_cmf, e_cmo, e_crt, e_crf, e_r3, e_r3o, e_dg2, e_d2o, e_gd2, e_clr, e_cao, e_ext, e_exo, e_idx, e_ixl, e_fld, e_flr, e_flt, e_xtb, e_xta, e_mth, e_rrx, e_mto, e_mkt, e_mko, e_mke, e_mkx, e_mky, e_srt, e_l2, e_l2o, e_frd, e_frt, e_pair, e_pao, e_pab, e_paa, e_put, e_puo, e_puy, e_pue, e_fvs, e_fvi, e_fvb, e_fvn, e_dgt, e_dgs, e_dgi, e_dpt, e_dps, e_sdi, e_sdb, e_sml, e_smr, e_sh, e_bo, e_ow, e_dp, e_an, e_con, e_opt, e_op, e_op2, e_op2e, e_op2f, e_un, e_op1, e_op1e, e_add, e_adds, e_addl, e_sub, e_mul, e_muls, e_mull, e_mulI, e_div, e_mod, e_lt, e_le, e_gt, e_ge, e_neg, e_not, e_isn, e_notn, e_nn, e_ni, e_ns, e_nb, e_nl, e_nt, e_eqs, e_eqi, e_eqb, e_eqn, e_eqni, e_eqin, e_eqns, e_eqsn, e_eqsi, e_eqis, e_eq, e_ne, e_in, e_nin, e_din, e_dnin, e_dget, e_dget1, e_and, e_andt, e_andf, e_ande, e_or, e_orf, e_ort, e_tst, e_ts, e_tse, e_band, e_bat, e_baf, e_bae, e_bor, e_bof, e_bot, e_boe, e_bnot, e_bn, e_bne, e_ife, e_iet, e_ief, e_ch, e_ch2, e_cht, e_chf, e_nil, e_cons, e_cn, e_cne, e_cnf, e_arg1, e_arg2, e_lst, e_lse, e_ls0, e_ls1, e_ls2, e_ls3, e_ls4, e_ls5, e_ls6, e_ls7, e_ls8, e_tup, e_tue, e_tu0, e_tu1, e_tu2, e_tu3, e_tu4, e_dnew, e_cb, e_cbo, e_cbe, e_lens, e_lenl, e_lent, e_lenc, e_list, e_listt, e_inti, e_intb, e_ints, e_max, e_min, e_kst, e_ktp, e_kdp, e_ki, e_ks, e_kb, e_kn, e_ktb, e_kta, e_xst, e_xtp, e_xdp, e_xbw, e_xan, e_xcb, e_xs, e_si, e_ss, e_sb, e_sn, e_slt, e_sls, e_slb, e_sdp, e_sst, e_its, e_itbl, e_ix, e_ixo, e_ixe, e_ixf, e_nop, e_som, e_smo, e_sl, e_slo, e_gsl, e_gss, e_rev, e_dg1, e_d1o, e_d1k, e_m1, e_m1o, e_call, e_cl, e_cle, e_re, e_ree, e_rt, e_rnx, e_rer, e_def0, e_def1, e_def2, e_def3, e_def4, e_def5, e_def6, e_seq, e_sqn, e_sqr, e_sqe, e_sqb, e_sqc, e_set, e_seo, e_see, e_se2, e_if, e_ift, e_iff, e_ifr, e_ret, e_rto, e_rte, e_exp, e_epo, e_epe, e_rai, e_frz, e_fro, e_frc, e_fzo, e_fzd, e_fzs, e_fzb, e_fzu, e_for, e_fos, e_fob, e_foe, e_lii, e_lio, e_tii, e_tio, e_sti, e_sto, e_r1, e_r1o, e_r2, e_r2o, e_comp, e_coo, e_cc, e_yes, e_na0, e_nas, e_nab, e_nao, e_nad, e_nau, e_naa, e_nae, e_ne0, e_nes, e_neb, e_neo, e_ned, e_neu, e_nea, e_nee, e_app, e_apo, e_sei, e_sio, e_si2, e_dput, e_dpi, e_dpb, e_dp2, e_try, e_tyn, e_tyr, e_tye, e_exs, e_exn, e_uns, e_unn, e_ber, e_ben, e_tka, e_tko, e_ise, e_ero, e_unp, e_unt, e_imi, e_ims, e_imb, e_imn, e_imt, e_im0, e_imc, List.map_cons, List.map_nil, List.cons_append, List.nil_append, List.replicate_succ, List.replicate_zero, List.length_cons, List.length_nil, List.getElem?_cons_zero, List.getElem?_cons_succ, List.set_cons_zero, List.set_cons_succ, Option.map_some, Option.map_none, Option.bind_some, Option.isSome_some, Option.isSome_none, if_true, if_false, reduceIte, Bool.and_true, Bool.true_and, Bool.and_false, Bool.false_and, Bool.or_true, Bool.true_or, Bool.or_false, Bool.false_or, Bool.not_true, Bool.not_false, Nat.reduceAdd, Nat.reduceEqDiff, Bool.false_eq_true, decide_true, decide_false, reduceCtorEq, and_self, true_and, and_true, true_or, or_true, false_or, or_false, or_self, Nat.reducePow, Nat.reduceLeDiff, Nat.reduceSub, Int.reduceLT, Int.reduceLE, Int.reduceAdd, Int.reduceSub, Int.reduceMul, Int.reduceNeg, Int.reduceEq, List.length_map, List.length_append, e_it0, e_it1, e_it2, e_it3, e_it4, e_itt0, e_itt1, e_itt2, e_itt3, e_itt4, eq_self, Int.reduceToNat, false_and, and_false, Int.reducePow, e_pla, e_ple, e_seal, h1, h1']




end DD

set_option maxRecDepth 100000
set_option maxHeartbeats 4000000
namespace DD
open PySem L2
-- the place that a cell tells
def pnL (c : Int) : List Nat := (List.range (1 + c % 12).toNat).map fun (j : Nat) => 97 + ((c / 12 + (1 * (j : Int)) * (c / 312 % 25)) % 26).toNat
def pn (c : Int) : Str := ⟨(pnL c).toArray⟩
theorem pn_ok (c : Int) : Nm (pn c) := by
  refine Nm.of ?_ ?_ fun x hx => ?_
  · unfold pnL; simp; omega
  · unfold pnL; simp; omega
  · unfold pnL at hx
    simp only [List.mem_map] at hx
    obtain ⟨j, _, rfl⟩ := hx
    omega
theorem lawplace_ok (c : Int) : g_law_place [.int c] = .ok (.str (pn c)) := by
  have hsr := e_smr (i := 1 + c % 12) (by omega) (by omega)
  have hsm := e_sml (i := c / 312 % 25) (by omega) (by omega)
  have key := compL_all (i := 2) (f := e1_law_place) (δ := [.bo (.int c), .sh (.str "abcdefghijklmnopqrstuvwxyz"), .un])
    (fun d => match d with
      | .int j => .str ⟨#[97 + ((c / 12 + (1 * j) * (c / 312 % 25)) % 26).toNat]⟩
      | d => d) (rng 0 1 (1 + c % 12).toNat) [] (by
    intro d hd
    obtain ⟨i, hi, rfl⟩ := mem_rng hd
    refine ⟨.st, ?_, rfl⟩
    rw [show ((0 : Int) + (i : Nat) * 1) = i by omega]
    have hi1 := item_letters' (i := (c / 12 + (i : Int) * (c / 312 % 25)) % 26) (by omega) (by omega)
    unfold e1_law_place
    simp only [e_var, e_ch3, e_c3o, e_cmt, e_cmf, e_cmo, e_crt, e_crf, e_r3, e_r3o, e_dg2, e_d2o, e_gd2, e_clr, e_cao, e_ext, e_exo, e_idx, e_ixl, e_fld, e_flr, e_flt, e_xtb, e_xta, e_mth, e_rrx, e_mto, e_mkt, e_mko, e_mke, e_mkx, e_mky, e_srt, e_l2, e_l2o, e_frd, e_frt, e_pair, e_pao, e_pab, e_paa, e_put, e_puo, e_puy, e_pue, e_fvs, e_fvi, e_fvb, e_fvn, e_dgt, e_dgs, e_dgi, e_dpt, e_dps, e_sdi, e_sdb, e_sml, e_smr, e_sh, e_bo, e_ow, e_dp, e_an, e_con, e_opt, e_op, e_op2, e_op2e, e_op2f, e_un, e_op1, e_op1e, e_add, e_adds, e_addl, e_sub, e_mul, e_muls, e_mull, e_mulI, e_div, e_mod, e_lt, e_le, e_gt, e_ge, e_neg, e_not, e_isn, e_notn, e_nn, e_ni, e_ns, e_nb, e_nl, e_nt, e_eqs, e_eqi, e_eqb, e_eqn, e_eqni, e_eqin, e_eqns, e_eqsn, e_eqsi, e_eqis, e_eq, e_ne, e_in, e_nin, e_din, e_dnin, e_dget, e_dget1, e_and, e_andt, e_andf, e_ande, e_or, e_orf, e_ort, e_tst, e_ts, e_tse, e_band, e_bat, e_baf, e_bae, e_bor, e_bof, e_bot, e_boe, e_bnot, e_bn, e_bne, e_ife, e_iet, e_ief, e_ch, e_ch2, e_cht, e_chf, e_nil, e_cons, e_cn, e_cne, e_cnf, e_arg1, e_arg2, e_lst, e_lse, e_ls0, e_ls1, e_ls2, e_ls3, e_ls4, e_ls5, e_ls6, e_ls7, e_ls8, e_tup, e_tue, e_tu0, e_tu1, e_tu2, e_tu3, e_tu4, e_dnew, e_cb, e_cbo, e_cbe, e_lens, e_lenl, e_lent, e_lenc, e_list, e_listt, e_inti, e_intb, e_ints, e_max, e_min, e_kst, e_ktp, e_kdp, e_ki, e_ks, e_kb, e_kn, e_ktb, e_kta, e_xst, e_xtp, e_xdp, e_xbw, e_xan, e_xcb, e_xs, e_si, e_ss, e_sb, e_sn, e_slt, e_sls, e_slb, e_sdp, e_sst, e_its, e_itbl, e_ix, e_ixo, e_ixe, e_ixf, e_nop, e_som, e_smo, e_sl, e_slo, e_gsl, e_gss, e_rev, e_dg1, e_d1o, e_d1k, e_m1, e_m1o, e_call, e_cl, e_cle, e_re, e_ree, e_rt, e_rnx, e_rer, e_def0, e_def1, e_def2, e_def3, e_def4, e_def5, e_def6, e_seq, e_sqn, e_sqr, e_sqe, e_sqb, e_sqc, e_set, e_seo, e_see, e_se2, e_if, e_ift, e_iff, e_ifr, e_ret, e_rto, e_rte, e_exp, e_epo, e_epe, e_rai, e_frz, e_fro, e_frc, e_fzo, e_fzd, e_fzs, e_fzb, e_fzu, e_for, e_fos, e_fob, e_foe, e_lii, e_lio, e_tii, e_tio, e_sti, e_sto, e_r1, e_r1o, e_r2, e_r2o, e_comp, e_coo, e_cc, e_yes, e_na0, e_nas, e_nab, e_nao, e_nad, e_nau, e_naa, e_nae, e_ne0, e_nes, e_neb, e_neo, e_ned, e_neu, e_nea, e_nee, e_app, e_apo, e_sei, e_sio, e_si2, e_dput, e_dpi, e_dpb, e_dp2, e_try, e_tyn, e_tyr, e_tye, e_exs, e_exn, e_uns, e_unn, e_ber, e_ben, e_tka, e_tko, e_ise, e_ero, e_unp, e_unt, e_imi, e_ims, e_imb, e_imn, e_imt, e_im0, e_imc, List.map_cons, List.map_nil, List.cons_append, List.nil_append, List.replicate_succ, List.replicate_zero, List.length_cons, List.length_nil, List.getElem?_cons_zero, List.getElem?_cons_succ, List.set_cons_zero, List.set_cons_succ, Option.map_some, Option.map_none, Option.bind_some, Option.isSome_some, Option.isSome_none, if_true, if_false, reduceIte, Bool.and_true, Bool.true_and, Bool.and_false, Bool.false_and, Bool.or_true, Bool.true_or, Bool.or_false, Bool.false_or, Bool.not_true, Bool.not_false, Nat.reduceAdd, Nat.reduceEqDiff, Bool.false_eq_true, decide_true, decide_false, reduceCtorEq, and_self, true_and, and_true, true_or, or_true, false_or, or_false, or_self, Nat.reducePow, Nat.reduceLeDiff, Nat.reduceSub, Int.reduceLT, Int.reduceLE, Int.reduceAdd, Int.reduceSub, Int.reduceMul, Int.reduceNeg, Int.reduceEq, List.length_map, List.length_append, e_it0, e_it1, e_it2, e_it3, e_it4, e_itt0, e_itt1, e_itt2, e_itt3, e_itt4, eq_self, Int.reduceToNat, false_and, and_false, Int.reducePow, e_pla, e_ple, e_seal, hsm, hi1, Int.one_mul]) (size_le (by rw [rng_len]; simp; omega))
  have hmap : (rng 0 1 (1 + c % 12).toNat).map (fun d => match d with
      | .int j => D.str ⟨#[97 + ((c / 12 + (1 * j) * (c / 312 % 25)) % 26).toNat]⟩
      | d => d) = (pnL c).map fun x => D.str ⟨#[x]⟩ := by
    simp only [rng, pnL, List.map_map]
    refine List.map_congr_left fun j _ => ?_
    show D.str ⟨#[97 + ((c / 12 + (1 * (0 + (j : Int) * 1)) * (c / 312 % 25)) % 26).toNat]⟩ = _
    rw [show ((0 : Int) + (j : Nat) * 1) = j by omega]
    rfl
  rw [hmap, List.nil_append] at key
  have hl : (pnL c).length ≤ 1000 := by unfold pnL; simp; omega
  have hj := gJoin_ones (pnL c) hl
  have he : Str.ofString "" = "" := rfl
  unfold g_law_place d_law_place
  simp only [e_var, e_ch3, e_c3o, e_cmt, e_cmf, e_cmo, e_crt, e_crf, e_r3, e_r3o, e_dg2, e_d2o, e_gd2, e_clr, e_cao, e_ext, e_exo, e_idx, e_ixl, e_fld, e_flr, e_flt, e_xtb, e_xta, e_mth, e_rrx, e_mto, e_mkt, e_mko, e_mke, e_mkx, e_mky, e_srt, e_l2, e_l2o, e_frd, e_frt, e_pair, e_pao, e_pab, e_paa, e_put, e_puo, e_puy, e_pue, e_fvs, e_fvi, e_fvb, e_fvn, e_dgt, e_dgs, e_dgi, e_dpt, e_dps, e_sdi, e_sdb, e_sml, e_smr, e_sh, e_bo, e_ow, e_dp, e_an, e_con, e_opt, e_op, e_op2, e_op2e, e_op2f, e_un, e_op1, e_op1e, e_add, e_adds, e_addl, e_sub, e_mul, e_muls, e_mull, e_mulI, e_div, e_mod, e_lt, e_le, e_gt, e_ge, e_neg, e_not, e_isn, e_notn, e_nn, e_ni, e_ns, e_nb, e_nl, e_nt, e_eqs, e_eqi, e_eqb, e_eqn, e_eqni, e_eqin, e_eqns, e_eqsn, e_eqsi, e_eqis, e_eq, e_ne, e_in, e_nin, e_din, e_dnin, e_dget, e_dget1, e_and, e_andt, e_andf, e_ande, e_or, e_orf, e_ort, e_tst, e_ts, e_tse, e_band, e_bat, e_baf, e_bae, e_bor, e_bof, e_bot, e_boe, e_bnot, e_bn, e_bne, e_ife, e_iet, e_ief, e_ch, e_ch2, e_cht, e_chf, e_nil, e_cons, e_cn, e_cne, e_cnf, e_arg1, e_arg2, e_lst, e_lse, e_ls0, e_ls1, e_ls2, e_ls3, e_ls4, e_ls5, e_ls6, e_ls7, e_ls8, e_tup, e_tue, e_tu0, e_tu1, e_tu2, e_tu3, e_tu4, e_dnew, e_cb, e_cbo, e_cbe, e_lens, e_lenl, e_lent, e_lenc, e_list, e_listt, e_inti, e_intb, e_ints, e_max, e_min, e_kst, e_ktp, e_kdp, e_ki, e_ks, e_kb, e_kn, e_ktb, e_kta, e_xst, e_xtp, e_xdp, e_xbw, e_xan, e_xcb, e_xs, e_si, e_ss, e_sb, e_sn, e_slt, e_sls, e_slb, e_sdp, e_sst, e_its, e_itbl, e_ix, e_ixo, e_ixe, e_ixf, e_nop, e_som, e_smo, e_sl, e_slo, e_gsl, e_gss, e_rev, e_dg1, e_d1o, e_d1k, e_m1, e_m1o, e_call, e_cl, e_cle, e_re, e_ree, e_rt, e_rnx, e_rer, e_def0, e_def1, e_def2, e_def3, e_def4, e_def5, e_def6, e_seq, e_sqn, e_sqr, e_sqe, e_sqb, e_sqc, e_set, e_seo, e_see, e_se2, e_if, e_ift, e_iff, e_ifr, e_ret, e_rto, e_rte, e_exp, e_epo, e_epe, e_rai, e_frz, e_fro, e_frc, e_fzo, e_fzd, e_fzs, e_fzb, e_fzu, e_for, e_fos, e_fob, e_foe, e_lii, e_lio, e_tii, e_tio, e_sti, e_sto, e_r1, e_r1o, e_r2, e_r2o, e_comp, e_coo, e_cc, e_yes, e_na0, e_nas, e_nab, e_nao, e_nad, e_nau, e_naa, e_nae, e_ne0, e_nes, e_neb, e_neo, e_ned, e_neu, e_nea, e_nee, e_app, e_apo, e_sei, e_sio, e_si2, e_dput, e_dpi, e_dpb, e_dp2, e_try, e_tyn, e_tyr, e_tye, e_exs, e_exn, e_uns, e_unn, e_ber, e_ben, e_tka, e_tko, e_ise, e_ero, e_unp, e_unt, e_imi, e_ims, e_imb, e_imn, e_imt, e_im0, e_imc, List.map_cons, List.map_nil, List.cons_append, List.nil_append, List.replicate_succ, List.replicate_zero, List.length_cons, List.length_nil, List.getElem?_cons_zero, List.getElem?_cons_succ, List.set_cons_zero, List.set_cons_succ, Option.map_some, Option.map_none, Option.bind_some, Option.isSome_some, Option.isSome_none, if_true, if_false, reduceIte, Bool.and_true, Bool.true_and, Bool.and_false, Bool.false_and, Bool.or_true, Bool.true_or, Bool.or_false, Bool.false_or, Bool.not_true, Bool.not_false, Nat.reduceAdd, Nat.reduceEqDiff, Bool.false_eq_true, decide_true, decide_false, reduceCtorEq, and_self, true_and, and_true, true_or, or_true, false_or, or_false, or_self, Nat.reducePow, Nat.reduceLeDiff, Nat.reduceSub, Int.reduceLT, Int.reduceLE, Int.reduceAdd, Int.reduceSub, Int.reduceMul, Int.reduceNeg, Int.reduceEq, List.length_map, List.length_append, e_it0, e_it1, e_it2, e_it3, e_it4, e_itt0, e_itt1, e_itt2, e_itt3, e_itt4, eq_self, Int.reduceToNat, false_and, and_false, Int.reducePow, e_pla, e_ple, e_seal, hsr, key, hj]
  rfl
-- a sign that no place has
theorem item_odd {i : Int} (h0 : 0 ≤ i) (h1 : i < 13) : ∃ x : Nat, itemD (.str "AZ09_ -.[`{@/") i = some (.str ⟨#[x]⟩) ∧ (x < 97 ∨ 123 ≤ x) ∧ x < 1114112 := by
  have hl : Str.length ("AZ09_ -.[`{@/" : Str) = 13 := by decide +kernel
  have ht : ("AZ09_ -.[`{@/" : Str).cps.toList = [65, 90, 48, 57, 95, 32, 45, 46, 91, 96, 123, 64, 47] := by decide +kernel
  have hx : ∀ x ∈ [65, 90, 48, 57, 95, 32, 45, 46, 91, 96, 123, 64, 47], (x < 97 ∨ 123 ≤ x) ∧ x < 1114112 := by decide
  have hi : i.toNat < [65, 90, 48, 57, 95, 32, 45, 46, 91, 96, 123, 64, 47].length := by simp; omega
  refine ⟨[65, 90, 48, 57, 95, 32, 45, 46, 91, 96, 123, 64, 47][i.toNat], ?_, hx _ (List.getElem_mem hi)⟩
  unfold itemD
  simp only [hl]
  rw [if_pos (by decide), atI_nn h0 (by rw [ht]; simpa using h1), ht, List.getElem?_eq_getElem hi]
  rfl
theorem not_pl {s : Str} {c : Nat} (h : c ∈ s.cps.toList) (hc : c < 97 ∨ 123 ≤ c) : isPl (.str s) = false := by
  rw [isPl_str, Bool.and_eq_false_iff]
  refine .inr (List.all_eq_false.mpr ⟨c, h, ?_⟩)
  simp only [Bool.and_eq_true, decide_eq_true_eq]
  omega
theorem long_pl {s : Str} (h : 12 < s.length) : isPl (.str s) = false := by
  rw [isPl_str, decide_eq_false (show ¬ s.length ≤ 12 by omega)]
  simp
theorem bad_ok (c : Int) {s : Str} (hs : Nm s) : ∃ d, g_law_bad [.int c, .str s] = .ok d ∧ okD d ∧ isPl d = false := by
  obtain ⟨x, hx, hx1, hx2⟩ := item_odd (i := c / 84 % 13) (by omega) (by omega)
  have hss : s.length ≤ sizeLine := le_sz (by have := hs.2.1; omega)
  have h12 := hs.2.1
  have h01 := hs.1
  generalize hP : c / 7 % 12 = P
  have hP0 : 0 ≤ P := by omega
  have hP1 : P < 12 := by omega
  have l1 : (cutS s none (some P)).length = min P.toNat s.length := by
    rw [str_len, cut_pre hP0, List.length_take]; rfl
  have l2 : (cutS s (some P) none).length = s.length - P.toNat := by
    rw [str_len, cut_suf hP0, List.length_drop]; rfl
  have l3 := cut_len (s := cutS s (some P) none) (lo := none) (hi := some (11 : Int))
  have lx : Str.length ⟨#[x]⟩ = 1 := rfl
  have z1 : (cutS s none (some P)).length + Str.length ⟨#[x]⟩ ≤ sizeLine := le_sz (by omega)
  have z2 : (cutS s (some P) none).length ≤ sizeLine := le_sz (by omega)
  have z3 : (cutS s none (some P) ++ (⟨#[x]⟩ : Str)).length + (cutS (cutS s (some P) none) none (some (11 : Int))).length ≤ sizeLine := le_sz (by rw [app_len]; omega)
  have lf := cut_len (s := s) (lo := none) (hi := some (1 : Int))
  have lf1 : (cutS s none (some (1 : Int))).length = 1 := by
    rw [str_len, cut_pre (by decide), List.length_take]
    show min 1 s.length = 1
    omega
  have z4 : (cutS s none (some (1 : Int))).length ≤ 16 := by omega
  generalize hodd : cutS s none (some P) ++ (⟨#[x]⟩ : Str) ++ cutS (cutS s (some P) none) none (some (11 : Int)) = odd at *
  have lo : odd.length ≤ 30 := by rw [← hodd, app_len, app_len]; omega
  have z5 : odd.length ≤ sizeLine := le_sz (by omega)
  have hxo : x ∈ (cutS odd none (some (12 : Int))).cps.toList := by
    rw [cut_pre (by decide), ← hodd, app_l, app_l]
    have e : (12 : Int).toNat = 12 := rfl
    rw [e]
    have hlen : (cutS s none (some P)).cps.toList.length ≤ 11 := by
      rw [← str_len, l1]; omega
    rw [List.append_assoc, List.take_append]
    refine List.mem_append.mpr (.inr ?_)
    have : ∃ k, 12 - (cutS s none (some P)).cps.toList.length = k + 1 := ⟨11 - (cutS s none (some P)).cps.toList.length, by omega⟩
    obtain ⟨k, hk⟩ := this
    rw [hk]
    show x ∈ x :: _
    simp
  have memo : ∀ y ∈ odd.cps.toList, y < 1114112 := fun y hy => by
    rw [← hodd] at hy
    rcases app_mem hy with hy | hy
    · rcases app_mem hy with hy | hy
      · have := hs.2.2 y (cut_mem hy); omega
      · have : y = x := by simpa using hy
        omega
    · have := hs.2.2 y (cut_mem (cut_mem hy)); omega
  obtain ⟨y, rest, hy⟩ : ∃ y rest, s.cps.toList = y :: rest := by
    cases e : s.cps.toList with
    | nil => rw [str_len, e] at h01; simp at h01
    | cons y r => exact ⟨y, r, rfl⟩
  have hyn := hs.2.2 y (by rw [hy]; simp)
  have e1 : cutS s none (some (1 : Int)) = ⟨#[y]⟩ := by
    apply str_ext
    rw [cut_pre (by decide), hy]
    rfl
  rw [e1] at z4
  have m13 := mul_l y 13
  have m20 := mul_l y 20
  have lm : ∀ n : Int, (Txt.mul ⟨#[y]⟩ n).length = n.toNat := fun n => by rw [str_len, mul_l, List.length_replicate]
  obtain ⟨d, hd, hi⟩ := menu (ds := [D.str "", .str (Txt.mul ⟨#[y]⟩ 13), .str (cutS odd none (some (12 : Int))), .non, .int 5, .str (Txt.mul ⟨#[y]⟩ 20), .str (cutS odd none (some (12 : Int)))]) (i := c % 7) (by omega) (by show c % 7 < 7; omega)
  have l13 := lm 13
  have l20 := lm 20
  have lc := cut_len (s := odd) (lo := none) (hi := some (12 : Int))
  refine ⟨d, ?_, ?_⟩
  · unfold g_law_bad d_law_bad
    simp only [e_var, e_ch3, e_c3o, e_cmt, e_cmf, e_cmo, e_crt, e_crf, e_r3, e_r3o, e_dg2, e_d2o, e_gd2, e_clr, e_cao, e_ext, e_exo, e_idx, e_ixl, e_fld, e_flr, e_flt, e_xtb, e_xta, e_mth, e_rrx, e_mto, e_mkt, e_mko, e_mke, e_mkx, e_mky, e_srt, e_l2, e_l2o, e_frd, e_frt, e_pair, e_pao, e_pab, e_paa, e_put, e_puo, e_puy, e_pue, e_fvs, e_fvi, e_fvb, e_fvn, e_dgt, e_dgs, e_dgi, e_dpt, e_dps, e_sdi, e_sdb, e_sml, e_smr, e_sh, e_bo, e_ow, e_dp, e_an, e_con, e_opt, e_op, e_op2, e_op2e, e_op2f, e_un, e_op1, e_op1e, e_add, e_adds, e_addl, e_sub, e_mul, e_muls, e_mull, e_mulI, e_div, e_mod, e_lt, e_le, e_gt, e_ge, e_neg, e_not, e_isn, e_notn, e_nn, e_ni, e_ns, e_nb, e_nl, e_nt, e_eqs, e_eqi, e_eqb, e_eqn, e_eqni, e_eqin, e_eqns, e_eqsn, e_eqsi, e_eqis, e_eq, e_ne, e_in, e_nin, e_din, e_dnin, e_dget, e_dget1, e_and, e_andt, e_andf, e_ande, e_or, e_orf, e_ort, e_tst, e_ts, e_tse, e_band, e_bat, e_baf, e_bae, e_bor, e_bof, e_bot, e_boe, e_bnot, e_bn, e_bne, e_ife, e_iet, e_ief, e_ch, e_ch2, e_cht, e_chf, e_nil, e_cons, e_cn, e_cne, e_cnf, e_arg1, e_arg2, e_lst, e_lse, e_ls0, e_ls1, e_ls2, e_ls3, e_ls4, e_ls5, e_ls6, e_ls7, e_ls8, e_tup, e_tue, e_tu0, e_tu1, e_tu2, e_tu3, e_tu4, e_dnew, e_cb, e_cbo, e_cbe, e_lens, e_lenl, e_lent, e_lenc, e_list, e_listt, e_inti, e_intb, e_ints, e_max, e_min, e_kst, e_ktp, e_kdp, e_ki, e_ks, e_kb, e_kn, e_ktb, e_kta, e_xst, e_xtp, e_xdp, e_xbw, e_xan, e_xcb, e_xs, e_si, e_ss, e_sb, e_sn, e_slt, e_sls, e_slb, e_sdp, e_sst, e_its, e_itbl, e_ix, e_ixo, e_ixe, e_ixf, e_nop, e_som, e_smo, e_sl, e_slo, e_gsl, e_gss, e_rev, e_dg1, e_d1o, e_d1k, e_m1, e_m1o, e_call, e_cl, e_cle, e_re, e_ree, e_rt, e_rnx, e_rer, e_def0, e_def1, e_def2, e_def3, e_def4, e_def5, e_def6, e_seq, e_sqn, e_sqr, e_sqe, e_sqb, e_sqc, e_set, e_seo, e_see, e_se2, e_if, e_ift, e_iff, e_ifr, e_ret, e_rto, e_rte, e_exp, e_epo, e_epe, e_rai, e_frz, e_fro, e_frc, e_fzo, e_fzd, e_fzs, e_fzb, e_fzu, e_for, e_fos, e_fob, e_foe, e_lii, e_lio, e_tii, e_tio, e_sti, e_sto, e_r1, e_r1o, e_r2, e_r2o, e_comp, e_coo, e_cc, e_yes, e_na0, e_nas, e_nab, e_nao, e_nad, e_nau, e_naa, e_nae, e_ne0, e_nes, e_neb, e_neo, e_ned, e_neu, e_nea, e_nee, e_app, e_apo, e_sei, e_sio, e_si2, e_dput, e_dpi, e_dpb, e_dp2, e_try, e_tyn, e_tyr, e_tye, e_exs, e_exn, e_uns, e_unn, e_ber, e_ben, e_tka, e_tko, e_ise, e_ero, e_unp, e_unt, e_imi, e_ims, e_imb, e_imn, e_imt, e_im0, e_imc, List.map_cons, List.map_nil, List.cons_append, List.nil_append, List.replicate_succ, List.replicate_zero, List.length_cons, List.length_nil, List.getElem?_cons_zero, List.getElem?_cons_succ, List.set_cons_zero, List.set_cons_succ, Option.map_some, Option.map_none, Option.bind_some, Option.isSome_some, Option.isSome_none, if_true, if_false, reduceIte, Bool.and_true, Bool.true_and, Bool.and_false, Bool.false_and, Bool.or_true, Bool.true_or, Bool.or_false, Bool.false_or, Bool.not_true, Bool.not_false, Nat.reduceAdd, Nat.reduceEqDiff, Bool.false_eq_true, decide_true, decide_false, reduceCtorEq, and_self, true_and, and_true, true_or, or_true, false_or, or_false, or_self, Nat.reducePow, Nat.reduceLeDiff, Nat.reduceSub, Int.reduceLT, Int.reduceLE, Int.reduceAdd, Int.reduceSub, Int.reduceMul, Int.reduceNeg, Int.reduceEq, List.length_map, List.length_append, e_it0, e_it1, e_it2, e_it3, e_it4, e_itt0, e_itt1, e_itt2, e_itt3, e_itt4, eq_self, Int.reduceToNat, false_and, and_false, Int.reducePow, e_pla, e_ple, e_seal, hP, hss, hx, z1, z2, z3, hodd, z4, z5, e1, hi]
  · simp only [List.mem_cons, List.not_mem_nil, or_false] at hd
    have mm : ∀ n : Int, ∀ z ∈ (Txt.mul ⟨#[y]⟩ n).cps.toList, z < 1114112 := fun n z hz => by
      rw [mul_l] at hz
      have := List.eq_of_mem_replicate hz
      omega
    rcases hd with rfl | rfl | rfl | rfl | rfl | rfl | rfl
    · exact ⟨⟨by decide +kernel, by decide +kernel⟩, by rw [isPl_str]; decide +kernel⟩
    · exact ⟨⟨by rw [l13]; decide, mm 13⟩, long_pl (by rw [l13]; decide)⟩
    · exact ⟨⟨by omega, fun z hz => memo z (cut_mem hz)⟩, not_pl hxo hx1⟩
    · exact ⟨trivial, rfl⟩
    · exact ⟨trivial, rfl⟩
    · exact ⟨⟨by rw [l20]; decide, mm 20⟩, long_pl (by rw [l20]; decide)⟩
    · exact ⟨⟨by omega, fun z hz => memo z (cut_mem hz)⟩, not_pl hxo hx1⟩


end DD

set_option maxRecDepth 100000
set_option maxHeartbeats 4000000
namespace DD
open PySem L2
theorem nm_a : Nm (Str.ofString "a") := ⟨by decide +kernel, by decide +kernel, by decide +kernel⟩
theorem nm_b : Nm (Str.ofString "b") := ⟨by decide +kernel, by decide +kernel, by decide +kernel⟩
theorem row_ok (ns : List Int) : ∃ L : List Str, L.length ≤ 42 ∧ (∀ s ∈ L, Nm s) ∧ g_law_row [.scr ns] = .ok (.lst (L.map D.str)) := by
  have hc0 := cell_ok ns 0 (by decide)
  have rest : ∀ m : Int, 0 ≤ m → m ≤ 42 → ∃ L : List Str, L.length ≤ 42 ∧ (∀ s ∈ L, Nm s) ∧
      seqF (setO 2 (lstR nilR)) (seqF (forO (rng1I (varR 1)) 3 b1_law_row) (frzF [2] (retO (varR 2)))) [.bo (.scr ns), .sh (.int m), .un, .un, .un] = .rt (.lst (L.map D.str)) := by
    intro m h0 h42
    have hsr := e_smr (i := m) (by omega) (by omega)
    have key := forL_inv (i := 3) (k := .st) (body := b1_law_row)
      (fun n δ => ∃ (L : List Str) (x y : Slot), δ = [.bo (.scr ns), .sh (.int m), .ow (.lst (L.map D.str)), x, y] ∧ L.length = n ∧ (∀ s ∈ L, Nm s)) (fun o => False)
      (rng 0 1 m.toNat) 0 [.bo (.scr ns), .sh (.int m), .ow (.lst []), .un, .un] ⟨[], _, _, rfl, rfl, by simp⟩ (by
        rintro k d δ hd ⟨L, x, y, rfl, hL, hN⟩
        obtain ⟨hk, rfl⟩ := get_rng1 hd
        rw [Nat.zero_add] at hL ⊢
        refine ⟨_, e_its, ?_⟩
        have hlt : L.length < sizeLine := lt_sz (by omega)
        have hcc := cell_ok ns (4 + (k : Int) % 58) (by omega)
        have hsm := e_sml (i := 97) (by omega) (by omega)
        have hp := lawplace_ok (cell ns (4 + (k : Int) % 58) + 97 * ((k : Int) / 58))
        have hpn := pn_ok (cell ns (4 + (k : Int) % 58) + 97 * ((k : Int) / 58))
        generalize pn (cell ns (4 + (k : Int) % 58) + 97 * ((k : Int) / 58)) = s at hp hpn
        have fin : ∀ t : Str, Nm t → ∃ (L' : List Str) (x y : Slot), appO 2 (varR 4) [.bo (.scr ns), .sh (.int m), .ow (.lst (L.map D.str)), .sh (.int k), .sh (.str t)] = .nx [.bo (.scr ns), .sh (.int m), .ow (.lst (L'.map D.str)), x, y] ∧ L'.length = k + 1 ∧ ∀ s ∈ L', Nm s := by
          intro t ht
          refine ⟨L ++ [t], .sh (.int k), .sh (.str t), ?_, by simp [hL], fun s hs => ?_⟩
          · simp only [e_var, e_ch3, e_c3o, e_cmt, e_cmf, e_cmo, e_crt, e_crf, e_r3, e_r3o, e_dg2, e_d2o, e_gd2, e_clr, e_cao, e_ext, e_exo, e_idx, e_ixl, e_fld, e_flr, e_flt, e_xtb, e_xta, e_mth, e_rrx, e_mto, e_mkt, e_mko, e_mke, e_mkx, e_mky, e_srt, e_l2, e_l2o, e_frd, e_frt, e_pair, e_pao, e_pab, e_paa, e_put, e_puo, e_puy, e_pue, e_fvs, e_fvi, e_fvb, e_fvn, e_dgt, e_dgs, e_dgi, e_dpt, e_dps, e_sdi, e_sdb, e_sml, e_smr, e_sh, e_bo, e_ow, e_dp, e_an, e_con, e_opt, e_op, e_op2, e_op2e, e_op2f, e_un, e_op1, e_op1e, e_add, e_adds, e_addl, e_sub, e_mul, e_muls, e_mull, e_mulI, e_div, e_mod, e_lt, e_le, e_gt, e_ge, e_neg, e_not, e_isn, e_notn, e_nn, e_ni, e_ns, e_nb, e_nl, e_nt, e_eqs, e_eqi, e_eqb, e_eqn, e_eqni, e_eqin, e_eqns, e_eqsn, e_eqsi, e_eqis, e_eq, e_ne, e_in, e_nin, e_din, e_dnin, e_dget, e_dget1, e_and, e_andt, e_andf, e_ande, e_or, e_orf, e_ort, e_tst, e_ts, e_tse, e_band, e_bat, e_baf, e_bae, e_bor, e_bof, e_bot, e_boe, e_bnot, e_bn, e_bne, e_ife, e_iet, e_ief, e_ch, e_ch2, e_cht, e_chf, e_nil, e_cons, e_cn, e_cne, e_cnf, e_arg1, e_arg2, e_lst, e_lse, e_ls0, e_ls1, e_ls2, e_ls3, e_ls4, e_ls5, e_ls6, e_ls7, e_ls8, e_tup, e_tue, e_tu0, e_tu1, e_tu2, e_tu3, e_tu4, e_dnew, e_cb, e_cbo, e_cbe, e_lens, e_lenl, e_lent, e_lenc, e_list, e_listt, e_inti, e_intb, e_ints, e_max, e_min, e_kst, e_ktp, e_kdp, e_ki, e_ks, e_kb, e_kn, e_ktb, e_kta, e_xst, e_xtp, e_xdp, e_xbw, e_xan, e_xcb, e_xs, e_si, e_ss, e_sb, e_sn, e_slt, e_sls, e_slb, e_sdp, e_sst, e_its, e_itbl, e_ix, e_ixo, e_ixe, e_ixf, e_nop, e_som, e_smo, e_sl, e_slo, e_gsl, e_gss, e_rev, e_dg1, e_d1o, e_d1k, e_m1, e_m1o, e_call, e_cl, e_cle, e_re, e_ree, e_rt, e_rnx, e_rer, e_def0, e_def1, e_def2, e_def3, e_def4, e_def5, e_def6, e_seq, e_sqn, e_sqr, e_sqe, e_sqb, e_sqc, e_set, e_seo, e_see, e_se2, e_if, e_ift, e_iff, e_ifr, e_ret, e_rto, e_rte, e_exp, e_epo, e_epe, e_rai, e_frz, e_fro, e_frc, e_fzo, e_fzd, e_fzs, e_fzb, e_fzu, e_for, e_fos, e_fob, e_foe, e_lii, e_lio, e_tii, e_tio, e_sti, e_sto, e_r1, e_r1o, e_r2, e_r2o, e_comp, e_coo, e_cc, e_yes, e_na0, e_nas, e_nab, e_nao, e_nad, e_nau, e_naa, e_nae, e_ne0, e_nes, e_neb, e_neo, e_ned, e_neu, e_nea, e_nee, e_app, e_apo, e_sei, e_sio, e_si2, e_dput, e_dpi, e_dpb, e_dp2, e_try, e_tyn, e_tyr, e_tye, e_exs, e_exn, e_uns, e_unn, e_ber, e_ben, e_tka, e_tko, e_ise, e_ero, e_unp, e_unt, e_imi, e_ims, e_imb, e_imn, e_imt, e_im0, e_imc, List.map_cons, List.map_nil, List.cons_append, List.nil_append, List.replicate_succ, List.replicate_zero, List.length_cons, List.length_nil, List.getElem?_cons_zero, List.getElem?_cons_succ, List.set_cons_zero, List.set_cons_succ, Option.map_some, Option.map_none, Option.bind_some, Option.isSome_some, Option.isSome_none, if_true, if_false, reduceIte, Bool.and_true, Bool.true_and, Bool.and_false, Bool.false_and, Bool.or_true, Bool.true_or, Bool.or_false, Bool.false_or, Bool.not_true, Bool.not_false, Nat.reduceAdd, Nat.reduceEqDiff, Bool.false_eq_true, decide_true, decide_false, reduceCtorEq, and_self, true_and, and_true, true_or, or_true, false_or, or_false, or_self, Nat.reducePow, Nat.reduceLeDiff, Nat.reduceSub, Int.reduceLT, Int.reduceLE, Int.reduceAdd, Int.reduceSub, Int.reduceMul, Int.reduceNeg, Int.reduceEq, List.length_map, List.length_append, e_it0, e_it1, e_it2, e_it3, e_it4, e_itt0, e_itt1, e_itt2, e_itt3, e_itt4, eq_self, Int.reduceToNat, false_and, and_false, Int.reducePow, e_pla, e_ple, e_seal, hlt]
            rw [List.map_append]; rfl
          · rcases List.mem_append.mp hs with h | h
            · exact hN s h
            · have : s = t := by simpa using h
              rw [this]; exact ht
        have hs1 : Str.ofString "a" = "a" := rfl
        unfold b1_law_row
        revert fin
        generalize appO 2 (varR 4) = K
        intro fin
        by_cases hk0 : (0 : Int) < k
        · have hr := item_str (L := L) (i := (k : Int) - 1) (by omega) (by omega)
          by_cases he : s = L.getD ((k : Int) - 1).toNat ""
          · by_cases ha : s = "a"
            · obtain ⟨L', x', y', q, q2⟩ := fin _ nm_b
              rw [← he] at hr
              simp only [e_var, e_ch3, e_c3o, e_cmt, e_cmf, e_cmo, e_crt, e_crf, e_r3, e_r3o, e_dg2, e_d2o, e_gd2, e_clr, e_cao, e_ext, e_exo, e_idx, e_ixl, e_fld, e_flr, e_flt, e_xtb, e_xta, e_mth, e_rrx, e_mto, e_mkt, e_mko, e_mke, e_mkx, e_mky, e_srt, e_l2, e_l2o, e_frd, e_frt, e_pair, e_pao, e_pab, e_paa, e_put, e_puo, e_puy, e_pue, e_fvs, e_fvi, e_fvb, e_fvn, e_dgt, e_dgs, e_dgi, e_dpt, e_dps, e_sdi, e_sdb, e_sml, e_smr, e_sh, e_bo, e_ow, e_dp, e_an, e_con, e_opt, e_op, e_op2, e_op2e, e_op2f, e_un, e_op1, e_op1e, e_add, e_adds, e_addl, e_sub, e_mul, e_muls, e_mull, e_mulI, e_div, e_mod, e_lt, e_le, e_gt, e_ge, e_neg, e_not, e_isn, e_notn, e_nn, e_ni, e_ns, e_nb, e_nl, e_nt, e_eqs, e_eqi, e_eqb, e_eqn, e_eqni, e_eqin, e_eqns, e_eqsn, e_eqsi, e_eqis, e_eq, e_ne, e_in, e_nin, e_din, e_dnin, e_dget, e_dget1, e_and, e_andt, e_andf, e_ande, e_or, e_orf, e_ort, e_tst, e_ts, e_tse, e_band, e_bat, e_baf, e_bae, e_bor, e_bof, e_bot, e_boe, e_bnot, e_bn, e_bne, e_ife, e_iet, e_ief, e_ch, e_ch2, e_cht, e_chf, e_nil, e_cons, e_cn, e_cne, e_cnf, e_arg1, e_arg2, e_lst, e_lse, e_ls0, e_ls1, e_ls2, e_ls3, e_ls4, e_ls5, e_ls6, e_ls7, e_ls8, e_tup, e_tue, e_tu0, e_tu1, e_tu2, e_tu3, e_tu4, e_dnew, e_cb, e_cbo, e_cbe, e_lens, e_lenl, e_lent, e_lenc, e_list, e_listt, e_inti, e_intb, e_ints, e_max, e_min, e_kst, e_ktp, e_kdp, e_ki, e_ks, e_kb, e_kn, e_ktb, e_kta, e_xst, e_xtp, e_xdp, e_xbw, e_xan, e_xcb, e_xs, e_si, e_ss, e_sb, e_sn, e_slt, e_sls, e_slb, e_sdp, e_sst, e_its, e_itbl, e_ix, e_ixo, e_ixe, e_ixf, e_nop, e_som, e_smo, e_sl, e_slo, e_gsl, e_gss, e_rev, e_dg1, e_d1o, e_d1k, e_m1, e_m1o, e_call, e_cl, e_cle, e_re, e_ree, e_rt, e_rnx, e_rer, e_def0, e_def1, e_def2, e_def3, e_def4, e_def5, e_def6, e_seq, e_sqn, e_sqr, e_sqe, e_sqb, e_sqc, e_set, e_seo, e_see, e_se2, e_if, e_ift, e_iff, e_ifr, e_ret, e_rto, e_rte, e_exp, e_epo, e_epe, e_rai, e_frz, e_fro, e_frc, e_fzo, e_fzd, e_fzs, e_fzb, e_fzu, e_for, e_fos, e_fob, e_foe, e_lii, e_lio, e_tii, e_tio, e_sti, e_sto, e_r1, e_r1o, e_r2, e_r2o, e_comp, e_coo, e_cc, e_yes, e_na0, e_nas, e_nab, e_nao, e_nad, e_nau, e_naa, e_nae, e_ne0, e_nes, e_neb, e_neo, e_ned, e_neu, e_nea, e_nee, e_app, e_apo, e_sei, e_sio, e_si2, e_dput, e_dpi, e_dpb, e_dp2, e_try, e_tyn, e_tyr, e_tye, e_exs, e_exn, e_uns, e_unn, e_ber, e_ben, e_tka, e_tko, e_ise, e_ero, e_unp, e_unt, e_imi, e_ims, e_imb, e_imn, e_imt, e_im0, e_imc, List.map_cons, List.map_nil, List.cons_append, List.nil_append, List.replicate_succ, List.replicate_zero, List.length_cons, List.length_nil, List.getElem?_cons_zero, List.getElem?_cons_succ, List.set_cons_zero, List.set_cons_succ, Option.map_some, Option.map_none, Option.bind_some, Option.isSome_some, Option.isSome_none, if_true, if_false, reduceIte, Bool.and_true, Bool.true_and, Bool.and_false, Bool.false_and, Bool.or_true, Bool.true_or, Bool.or_false, Bool.false_or, Bool.not_true, Bool.not_false, Nat.reduceAdd, Nat.reduceEqDiff, Bool.false_eq_true, decide_true, decide_false, reduceCtorEq, and_self, true_and, and_true, true_or, or_true, false_or, or_false, or_self, Nat.reducePow, Nat.reduceLeDiff, Nat.reduceSub, Int.reduceLT, Int.reduceLE, Int.reduceAdd, Int.reduceSub, Int.reduceMul, Int.reduceNeg, Int.reduceEq, List.length_map, List.length_append, e_it0, e_it1, e_it2, e_it3, e_it4, e_itt0, e_itt1, e_itt2, e_itt3, e_itt4, eq_self, Int.reduceToNat, false_and, and_false, Int.reducePow, e_pla, e_ple, e_seal, hcc, hsm, hp, hk0, hr, ha]
              rw [q]
              exact ⟨L', x', y', rfl, q2⟩
            · obtain ⟨L', x', y', q, q2⟩ := fin _ nm_a
              rw [← he] at hr
              simp only [e_var, e_ch3, e_c3o, e_cmt, e_cmf, e_cmo, e_crt, e_crf, e_r3, e_r3o, e_dg2, e_d2o, e_gd2, e_clr, e_cao, e_ext, e_exo, e_idx, e_ixl, e_fld, e_flr, e_flt, e_xtb, e_xta, e_mth, e_rrx, e_mto, e_mkt, e_mko, e_mke, e_mkx, e_mky, e_srt, e_l2, e_l2o, e_frd, e_frt, e_pair, e_pao, e_pab, e_paa, e_put, e_puo, e_puy, e_pue, e_fvs, e_fvi, e_fvb, e_fvn, e_dgt, e_dgs, e_dgi, e_dpt, e_dps, e_sdi, e_sdb, e_sml, e_smr, e_sh, e_bo, e_ow, e_dp, e_an, e_con, e_opt, e_op, e_op2, e_op2e, e_op2f, e_un, e_op1, e_op1e, e_add, e_adds, e_addl, e_sub, e_mul, e_muls, e_mull, e_mulI, e_div, e_mod, e_lt, e_le, e_gt, e_ge, e_neg, e_not, e_isn, e_notn, e_nn, e_ni, e_ns, e_nb, e_nl, e_nt, e_eqs, e_eqi, e_eqb, e_eqn, e_eqni, e_eqin, e_eqns, e_eqsn, e_eqsi, e_eqis, e_eq, e_ne, e_in, e_nin, e_din, e_dnin, e_dget, e_dget1, e_and, e_andt, e_andf, e_ande, e_or, e_orf, e_ort, e_tst, e_ts, e_tse, e_band, e_bat, e_baf, e_bae, e_bor, e_bof, e_bot, e_boe, e_bnot, e_bn, e_bne, e_ife, e_iet, e_ief, e_ch, e_ch2, e_cht, e_chf, e_nil, e_cons, e_cn, e_cne, e_cnf, e_arg1, e_arg2, e_lst, e_lse, e_ls0, e_ls1, e_ls2, e_ls3, e_ls4, e_ls5, e_ls6, e_ls7, e_ls8, e_tup, e_tue, e_tu0, e_tu1, e_tu2, e_tu3, e_tu4, e_dnew, e_cb, e_cbo, e_cbe, e_lens, e_lenl, e_lent, e_lenc, e_list, e_listt, e_inti, e_intb, e_ints, e_max, e_min, e_kst, e_ktp, e_kdp, e_ki, e_ks, e_kb, e_kn, e_ktb, e_kta, e_xst, e_xtp, e_xdp, e_xbw, e_xan, e_xcb, e_xs, e_si, e_ss, e_sb, e_sn, e_slt, e_sls, e_slb, e_sdp, e_sst, e_its, e_itbl, e_ix, e_ixo, e_ixe, e_ixf, e_nop, e_som, e_smo, e_sl, e_slo, e_gsl, e_gss, e_rev, e_dg1, e_d1o, e_d1k, e_m1, e_m1o, e_call, e_cl, e_cle, e_re, e_ree, e_rt, e_rnx, e_rer, e_def0, e_def1, e_def2, e_def3, e_def4, e_def5, e_def6, e_seq, e_sqn, e_sqr, e_sqe, e_sqb, e_sqc, e_set, e_seo, e_see, e_se2, e_if, e_ift, e_iff, e_ifr, e_ret, e_rto, e_rte, e_exp, e_epo, e_epe, e_rai, e_frz, e_fro, e_frc, e_fzo, e_fzd, e_fzs, e_fzb, e_fzu, e_for, e_fos, e_fob, e_foe, e_lii, e_lio, e_tii, e_tio, e_sti, e_sto, e_r1, e_r1o, e_r2, e_r2o, e_comp, e_coo, e_cc, e_yes, e_na0, e_nas, e_nab, e_nao, e_nad, e_nau, e_naa, e_nae, e_ne0, e_nes, e_neb, e_neo, e_ned, e_neu, e_nea, e_nee, e_app, e_apo, e_sei, e_sio, e_si2, e_dput, e_dpi, e_dpb, e_dp2, e_try, e_tyn, e_tyr, e_tye, e_exs, e_exn, e_uns, e_unn, e_ber, e_ben, e_tka, e_tko, e_ise, e_ero, e_unp, e_unt, e_imi, e_ims, e_imb, e_imn, e_imt, e_im0, e_imc, List.map_cons, List.map_nil, List.cons_append, List.nil_append, List.replicate_succ, List.replicate_zero, List.length_cons, List.length_nil, List.getElem?_cons_zero, List.getElem?_cons_succ, List.set_cons_zero, List.set_cons_succ, Option.map_some, Option.map_none, Option.bind_some, Option.isSome_some, Option.isSome_none, if_true, if_false, reduceIte, Bool.and_true, Bool.true_and, Bool.and_false, Bool.false_and, Bool.or_true, Bool.true_or, Bool.or_false, Bool.false_or, Bool.not_true, Bool.not_false, Nat.reduceAdd, Nat.reduceEqDiff, Bool.false_eq_true, decide_true, decide_false, reduceCtorEq, and_self, true_and, and_true, true_or, or_true, false_or, or_false, or_self, Nat.reducePow, Nat.reduceLeDiff, Nat.reduceSub, Int.reduceLT, Int.reduceLE, Int.reduceAdd, Int.reduceSub, Int.reduceMul, Int.reduceNeg, Int.reduceEq, List.length_map, List.length_append, e_it0, e_it1, e_it2, e_it3, e_it4, e_itt0, e_itt1, e_itt2, e_itt3, e_itt4, eq_self, Int.reduceToNat, false_and, and_false, Int.reducePow, e_pla, e_ple, e_seal, hcc, hsm, hp, hk0, hr, ha]
              rw [q]
              exact ⟨L', x', y', rfl, q2⟩
          · obtain ⟨L', x', y', q, q2⟩ := fin s hpn
            simp only [e_var, e_ch3, e_c3o, e_cmt, e_cmf, e_cmo, e_crt, e_crf, e_r3, e_r3o, e_dg2, e_d2o, e_gd2, e_clr, e_cao, e_ext, e_exo, e_idx, e_ixl, e_fld, e_flr, e_flt, e_xtb, e_xta, e_mth, e_rrx, e_mto, e_mkt, e_mko, e_mke, e_mkx, e_mky, e_srt, e_l2, e_l2o, e_frd, e_frt, e_pair, e_pao, e_pab, e_paa, e_put, e_puo, e_puy, e_pue, e_fvs, e_fvi, e_fvb, e_fvn, e_dgt, e_dgs, e_dgi, e_dpt, e_dps, e_sdi, e_sdb, e_sml, e_smr, e_sh, e_bo, e_ow, e_dp, e_an, e_con, e_opt, e_op, e_op2, e_op2e, e_op2f, e_un, e_op1, e_op1e, e_add, e_adds, e_addl, e_sub, e_mul, e_muls, e_mull, e_mulI, e_div, e_mod, e_lt, e_le, e_gt, e_ge, e_neg, e_not, e_isn, e_notn, e_nn, e_ni, e_ns, e_nb, e_nl, e_nt, e_eqs, e_eqi, e_eqb, e_eqn, e_eqni, e_eqin, e_eqns, e_eqsn, e_eqsi, e_eqis, e_eq, e_ne, e_in, e_nin, e_din, e_dnin, e_dget, e_dget1, e_and, e_andt, e_andf, e_ande, e_or, e_orf, e_ort, e_tst, e_ts, e_tse, e_band, e_bat, e_baf, e_bae, e_bor, e_bof, e_bot, e_boe, e_bnot, e_bn, e_bne, e_ife, e_iet, e_ief, e_ch, e_ch2, e_cht, e_chf, e_nil, e_cons, e_cn, e_cne, e_cnf, e_arg1, e_arg2, e_lst, e_lse, e_ls0, e_ls1, e_ls2, e_ls3, e_ls4, e_ls5, e_ls6, e_ls7, e_ls8, e_tup, e_tue, e_tu0, e_tu1, e_tu2, e_tu3, e_tu4, e_dnew, e_cb, e_cbo, e_cbe, e_lens, e_lenl, e_lent, e_lenc, e_list, e_listt, e_inti, e_intb, e_ints, e_max, e_min, e_kst, e_ktp, e_kdp, e_ki, e_ks, e_kb, e_kn, e_ktb, e_kta, e_xst, e_xtp, e_xdp, e_xbw, e_xan, e_xcb, e_xs, e_si, e_ss, e_sb, e_sn, e_slt, e_sls, e_slb, e_sdp, e_sst, e_its, e_itbl, e_ix, e_ixo, e_ixe, e_ixf, e_nop, e_som, e_smo, e_sl, e_slo, e_gsl, e_gss, e_rev, e_dg1, e_d1o, e_d1k, e_m1, e_m1o, e_call, e_cl, e_cle, e_re, e_ree, e_rt, e_rnx, e_rer, e_def0, e_def1, e_def2, e_def3, e_def4, e_def5, e_def6, e_seq, e_sqn, e_sqr, e_sqe, e_sqb, e_sqc, e_set, e_seo, e_see, e_se2, e_if, e_ift, e_iff, e_ifr, e_ret, e_rto, e_rte, e_exp, e_epo, e_epe, e_rai, e_frz, e_fro, e_frc, e_fzo, e_fzd, e_fzs, e_fzb, e_fzu, e_for, e_fos, e_fob, e_foe, e_lii, e_lio, e_tii, e_tio, e_sti, e_sto, e_r1, e_r1o, e_r2, e_r2o, e_comp, e_coo, e_cc, e_yes, e_na0, e_nas, e_nab, e_nao, e_nad, e_nau, e_naa, e_nae, e_ne0, e_nes, e_neb, e_neo, e_ned, e_neu, e_nea, e_nee, e_app, e_apo, e_sei, e_sio, e_si2, e_dput, e_dpi, e_dpb, e_dp2, e_try, e_tyn, e_tyr, e_tye, e_exs, e_exn, e_uns, e_unn, e_ber, e_ben, e_tka, e_tko, e_ise, e_ero, e_unp, e_unt, e_imi, e_ims, e_imb, e_imn, e_imt, e_im0, e_imc, List.map_cons, List.map_nil, List.cons_append, List.nil_append, List.replicate_succ, List.replicate_zero, List.length_cons, List.length_nil, List.getElem?_cons_zero, List.getElem?_cons_succ, List.set_cons_zero, List.set_cons_succ, Option.map_some, Option.map_none, Option.bind_some, Option.isSome_some, Option.isSome_none, if_true, if_false, reduceIte, Bool.and_true, Bool.true_and, Bool.and_false, Bool.false_and, Bool.or_true, Bool.true_or, Bool.or_false, Bool.false_or, Bool.not_true, Bool.not_false, Nat.reduceAdd, Nat.reduceEqDiff, Bool.false_eq_true, decide_true, decide_false, reduceCtorEq, and_self, true_and, and_true, true_or, or_true, false_or, or_false, or_self, Nat.reducePow, Nat.reduceLeDiff, Nat.reduceSub, Int.reduceLT, Int.reduceLE, Int.reduceAdd, Int.reduceSub, Int.reduceMul, Int.reduceNeg, Int.reduceEq, List.length_map, List.length_append, e_it0, e_it1, e_it2, e_it3, e_it4, e_itt0, e_itt1, e_itt2, e_itt3, e_itt4, eq_self, Int.reduceToNat, false_and, and_false, Int.reducePow, e_pla, e_ple, e_seal, hcc, hsm, hp, hk0, hr, he]
            rw [q]
            exact ⟨L', x', y', rfl, q2⟩
        · obtain ⟨L', x', y', q, q2⟩ := fin s hpn
          simp only [e_var, e_ch3, e_c3o, e_cmt, e_cmf, e_cmo, e_crt, e_crf, e_r3, e_r3o, e_dg2, e_d2o, e_gd2, e_clr, e_cao, e_ext, e_exo, e_idx, e_ixl, e_fld, e_flr, e_flt, e_xtb, e_xta, e_mth, e_rrx, e_mto, e_mkt, e_mko, e_mke, e_mkx, e_mky, e_srt, e_l2, e_l2o, e_frd, e_frt, e_pair, e_pao, e_pab, e_paa, e_put, e_puo, e_puy, e_pue, e_fvs, e_fvi, e_fvb, e_fvn, e_dgt, e_dgs, e_dgi, e_dpt, e_dps, e_sdi, e_sdb, e_sml, e_smr, e_sh, e_bo, e_ow, e_dp, e_an, e_con, e_opt, e_op, e_op2, e_op2e, e_op2f, e_un, e_op1, e_op1e, e_add, e_adds, e_addl, e_sub, e_mul, e_muls, e_mull, e_mulI, e_div, e_mod, e_lt, e_le, e_gt, e_ge, e_neg, e_not, e_isn, e_notn, e_nn, e_ni, e_ns, e_nb, e_nl, e_nt, e_eqs, e_eqi, e_eqb, e_eqn, e_eqni, e_eqin, e_eqns, e_eqsn, e_eqsi, e_eqis, e_eq, e_ne, e_in, e_nin, e_din, e_dnin, e_dget, e_dget1, e_and, e_andt, e_andf, e_ande, e_or, e_orf, e_ort, e_tst, e_ts, e_tse, e_band, e_bat, e_baf, e_bae, e_bor, e_bof, e_bot, e_boe, e_bnot, e_bn, e_bne, e_ife, e_iet, e_ief, e_ch, e_ch2, e_cht, e_chf, e_nil, e_cons, e_cn, e_cne, e_cnf, e_arg1, e_arg2, e_lst, e_lse, e_ls0, e_ls1, e_ls2, e_ls3, e_ls4, e_ls5, e_ls6, e_ls7, e_ls8, e_tup, e_tue, e_tu0, e_tu1, e_tu2, e_tu3, e_tu4, e_dnew, e_cb, e_cbo, e_cbe, e_lens, e_lenl, e_lent, e_lenc, e_list, e_listt, e_inti, e_intb, e_ints, e_max, e_min, e_kst, e_ktp, e_kdp, e_ki, e_ks, e_kb, e_kn, e_ktb, e_kta, e_xst, e_xtp, e_xdp, e_xbw, e_xan, e_xcb, e_xs, e_si, e_ss, e_sb, e_sn, e_slt, e_sls, e_slb, e_sdp, e_sst, e_its, e_itbl, e_ix, e_ixo, e_ixe, e_ixf, e_nop, e_som, e_smo, e_sl, e_slo, e_gsl, e_gss, e_rev, e_dg1, e_d1o, e_d1k, e_m1, e_m1o, e_call, e_cl, e_cle, e_re, e_ree, e_rt, e_rnx, e_rer, e_def0, e_def1, e_def2, e_def3, e_def4, e_def5, e_def6, e_seq, e_sqn, e_sqr, e_sqe, e_sqb, e_sqc, e_set, e_seo, e_see, e_se2, e_if, e_ift, e_iff, e_ifr, e_ret, e_rto, e_rte, e_exp, e_epo, e_epe, e_rai, e_frz, e_fro, e_frc, e_fzo, e_fzd, e_fzs, e_fzb, e_fzu, e_for, e_fos, e_fob, e_foe, e_lii, e_lio, e_tii, e_tio, e_sti, e_sto, e_r1, e_r1o, e_r2, e_r2o, e_comp, e_coo, e_cc, e_yes, e_na0, e_nas, e_nab, e_nao, e_nad, e_nau, e_naa, e_nae, e_ne0, e_nes, e_neb, e_neo, e_ned, e_neu, e_nea, e_nee, e_app, e_apo, e_sei, e_sio, e_si2, e_dput, e_dpi, e_dpb, e_dp2, e_try, e_tyn, e_tyr, e_tye, e_exs, e_exn, e_uns, e_unn, e_ber, e_ben, e_tka, e_tko, e_ise, e_ero, e_unp, e_unt, e_imi, e_ims, e_imb, e_imn, e_imt, e_im0, e_imc, List.map_cons, List.map_nil, List.cons_append, List.nil_append, List.replicate_succ, List.replicate_zero, List.length_cons, List.length_nil, List.getElem?_cons_zero, List.getElem?_cons_succ, List.set_cons_zero, List.set_cons_succ, Option.map_some, Option.map_none, Option.bind_some, Option.isSome_some, Option.isSome_none, if_true, if_false, reduceIte, Bool.and_true, Bool.true_and, Bool.and_false, Bool.false_and, Bool.or_true, Bool.true_or, Bool.or_false, Bool.false_or, Bool.not_true, Bool.not_false, Nat.reduceAdd, Nat.reduceEqDiff, Bool.false_eq_true, decide_true, decide_false, reduceCtorEq, and_self, true_and, and_true, true_or, or_true, false_or, or_false, or_self, Nat.reducePow, Nat.reduceLeDiff, Nat.reduceSub, Int.reduceLT, Int.reduceLE, Int.reduceAdd, Int.reduceSub, Int.reduceMul, Int.reduceNeg, Int.reduceEq, List.length_map, List.length_append, e_it0, e_it1, e_it2, e_it3, e_it4, e_itt0, e_itt1, e_itt2, e_itt3, e_itt4, eq_self, Int.reduceToNat, false_and, and_false, Int.reducePow, e_pla, e_ple, e_seal, hcc, hsm, hp, hk0]
          rw [q]
          exact ⟨L', x', y', rfl, q2⟩)
    rcases key with ⟨δ', k1, L, x, y, rfl, hL, hN⟩ | h
    · rw [rng_len, Nat.zero_add] at hL
      refine ⟨L, by omega, hN, ?_⟩
      simp only [e_var, e_ch3, e_c3o, e_cmt, e_cmf, e_cmo, e_crt, e_crf, e_r3, e_r3o, e_dg2, e_d2o, e_gd2, e_clr, e_cao, e_ext, e_exo, e_idx, e_ixl, e_fld, e_flr, e_flt, e_xtb, e_xta, e_mth, e_rrx, e_mto, e_mkt, e_mko, e_mke, e_mkx, e_mky, e_srt, e_l2, e_l2o, e_frd, e_frt, e_pair, e_pao, e_pab, e_paa, e_put, e_puo, e_puy, e_pue, e_fvs, e_fvi, e_fvb, e_fvn, e_dgt, e_dgs, e_dgi, e_dpt, e_dps, e_sdi, e_sdb, e_sml, e_smr, e_sh, e_bo, e_ow, e_dp, e_an, e_con, e_opt, e_op, e_op2, e_op2e, e_op2f, e_un, e_op1, e_op1e, e_add, e_adds, e_addl, e_sub, e_mul, e_muls, e_mull, e_mulI, e_div, e_mod, e_lt, e_le, e_gt, e_ge, e_neg, e_not, e_isn, e_notn, e_nn, e_ni, e_ns, e_nb, e_nl, e_nt, e_eqs, e_eqi, e_eqb, e_eqn, e_eqni, e_eqin, e_eqns, e_eqsn, e_eqsi, e_eqis, e_eq, e_ne, e_in, e_nin, e_din, e_dnin, e_dget, e_dget1, e_and, e_andt, e_andf, e_ande, e_or, e_orf, e_ort, e_tst, e_ts, e_tse, e_band, e_bat, e_baf, e_bae, e_bor, e_bof, e_bot, e_boe, e_bnot, e_bn, e_bne, e_ife, e_iet, e_ief, e_ch, e_ch2, e_cht, e_chf, e_nil, e_cons, e_cn, e_cne, e_cnf, e_arg1, e_arg2, e_lst, e_lse, e_ls0, e_ls1, e_ls2, e_ls3, e_ls4, e_ls5, e_ls6, e_ls7, e_ls8, e_tup, e_tue, e_tu0, e_tu1, e_tu2, e_tu3, e_tu4, e_dnew, e_cb, e_cbo, e_cbe, e_lens, e_lenl, e_lent, e_lenc, e_list, e_listt, e_inti, e_intb, e_ints, e_max, e_min, e_kst, e_ktp, e_kdp, e_ki, e_ks, e_kb, e_kn, e_ktb, e_kta, e_xst, e_xtp, e_xdp, e_xbw, e_xan, e_xcb, e_xs, e_si, e_ss, e_sb, e_sn, e_slt, e_sls, e_slb, e_sdp, e_sst, e_its, e_itbl, e_ix, e_ixo, e_ixe, e_ixf, e_nop, e_som, e_smo, e_sl, e_slo, e_gsl, e_gss, e_rev, e_dg1, e_d1o, e_d1k, e_m1, e_m1o, e_call, e_cl, e_cle, e_re, e_ree, e_rt, e_rnx, e_rer, e_def0, e_def1, e_def2, e_def3, e_def4, e_def5, e_def6, e_seq, e_sqn, e_sqr, e_sqe, e_sqb, e_sqc, e_set, e_seo, e_see, e_se2, e_if, e_ift, e_iff, e_ifr, e_ret, e_rto, e_rte, e_exp, e_epo, e_epe, e_rai, e_frz, e_fro, e_frc, e_fzo, e_fzd, e_fzs, e_fzb, e_fzu, e_for, e_fos, e_fob, e_foe, e_lii, e_lio, e_tii, e_tio, e_sti, e_sto, e_r1, e_r1o, e_r2, e_r2o, e_comp, e_coo, e_cc, e_yes, e_na0, e_nas, e_nab, e_nao, e_nad, e_nau, e_naa, e_nae, e_ne0, e_nes, e_neb, e_neo, e_ned, e_neu, e_nea, e_nee, e_app, e_apo, e_sei, e_sio, e_si2, e_dput, e_dpi, e_dpb, e_dp2, e_try, e_tyn, e_tyr, e_tye, e_exs, e_exn, e_uns, e_unn, e_ber, e_ben, e_tka, e_tko, e_ise, e_ero, e_unp, e_unt, e_imi, e_ims, e_imb, e_imn, e_imt, e_im0, e_imc, List.map_cons, List.map_nil, List.cons_append, List.nil_append, List.replicate_succ, List.replicate_zero, List.length_cons, List.length_nil, List.getElem?_cons_zero, List.getElem?_cons_succ, List.set_cons_zero, List.set_cons_succ, Option.map_some, Option.map_none, Option.bind_some, Option.isSome_some, Option.isSome_none, if_true, if_false, reduceIte, Bool.and_true, Bool.true_and, Bool.and_false, Bool.false_and, Bool.or_true, Bool.true_or, Bool.or_false, Bool.false_or, Bool.not_true, Bool.not_false, Nat.reduceAdd, Nat.reduceEqDiff, Bool.false_eq_true, decide_true, decide_false, reduceCtorEq, and_self, true_and, and_true, true_or, or_true, false_or, or_false, or_self, Nat.reducePow, Nat.reduceLeDiff, Nat.reduceSub, Int.reduceLT, Int.reduceLE, Int.reduceAdd, Int.reduceSub, Int.reduceMul, Int.reduceNeg, Int.reduceEq, List.length_map, List.length_append, e_it0, e_it1, e_it2, e_it3, e_it4, e_itt0, e_itt1, e_itt2, e_itt3, e_itt4, eq_self, Int.reduceToNat, false_and, and_false, Int.reducePow, e_pla, e_ple, e_seal, hsr, k1]
    · exact h.elim
  unfold g_law_row d_law_row
  revert rest
  generalize seqF (setO 2 (lstR nilR)) _ = K
  intro rest
  by_cases h : cell ns 0 / 43 % 3 = 1
  · obtain ⟨d, hd, hi⟩ := menu (ds := [D.int 0, .int 1, .int 2, .int 39, .int 40, .int 41]) (i := cell ns 0 / 129 % 6) (by omega) (by show cell ns 0 / 129 % 6 < 6; omega)
    have : ∃ m : Int, 0 ≤ m ∧ m ≤ 42 ∧ d = .int m := by
      simp only [List.mem_cons, List.not_mem_nil, or_false] at hd
      rcases hd with rfl | rfl | rfl | rfl | rfl | rfl <;> exact ⟨_, by omega, by omega, rfl⟩
    obtain ⟨m, m0, m1, rfl⟩ := this
    obtain ⟨L, l1, l2, e⟩ := rest m m0 m1
    refine ⟨L, l1, l2, ?_⟩
    simp only [e_var, e_ch3, e_c3o, e_cmt, e_cmf, e_cmo, e_crt, e_crf, e_r3, e_r3o, e_dg2, e_d2o, e_gd2, e_clr, e_cao, e_ext, e_exo, e_idx, e_ixl, e_fld, e_flr, e_flt, e_xtb, e_xta, e_mth, e_rrx, e_mto, e_mkt, e_mko, e_mke, e_mkx, e_mky, e_srt, e_l2, e_l2o, e_frd, e_frt, e_pair, e_pao, e_pab, e_paa, e_put, e_puo, e_puy, e_pue, e_fvs, e_fvi, e_fvb, e_fvn, e_dgt, e_dgs, e_dgi, e_dpt, e_dps, e_sdi, e_sdb, e_sml, e_smr, e_sh, e_bo, e_ow, e_dp, e_an, e_con, e_opt, e_op, e_op2, e_op2e, e_op2f, e_un, e_op1, e_op1e, e_add, e_adds, e_addl, e_sub, e_mul, e_muls, e_mull, e_mulI, e_div, e_mod, e_lt, e_le, e_gt, e_ge, e_neg, e_not, e_isn, e_notn, e_nn, e_ni, e_ns, e_nb, e_nl, e_nt, e_eqs, e_eqi, e_eqb, e_eqn, e_eqni, e_eqin, e_eqns, e_eqsn, e_eqsi, e_eqis, e_eq, e_ne, e_in, e_nin, e_din, e_dnin, e_dget, e_dget1, e_and, e_andt, e_andf, e_ande, e_or, e_orf, e_ort, e_tst, e_ts, e_tse, e_band, e_bat, e_baf, e_bae, e_bor, e_bof, e_bot, e_boe, e_bnot, e_bn, e_bne, e_ife, e_iet, e_ief, e_ch, e_ch2, e_cht, e_chf, e_nil, e_cons, e_cn, e_cne, e_cnf, e_arg1, e_arg2, e_lst, e_lse, e_ls0, e_ls1, e_ls2, e_ls3, e_ls4, e_ls5, e_ls6, e_ls7, e_ls8, e_tup, e_tue, e_tu0, e_tu1, e_tu2, e_tu3, e_tu4, e_dnew, e_cb, e_cbo, e_cbe, e_lens, e_lenl, e_lent, e_lenc, e_list, e_listt, e_inti, e_intb, e_ints, e_max, e_min, e_kst, e_ktp, e_kdp, e_ki, e_ks, e_kb, e_kn, e_ktb, e_kta, e_xst, e_xtp, e_xdp, e_xbw, e_xan, e_xcb, e_xs, e_si, e_ss, e_sb, e_sn, e_slt, e_sls, e_slb, e_sdp, e_sst, e_its, e_itbl, e_ix, e_ixo, e_ixe, e_ixf, e_nop, e_som, e_smo, e_sl, e_slo, e_gsl, e_gss, e_rev, e_dg1, e_d1o, e_d1k, e_m1, e_m1o, e_call, e_cl, e_cle, e_re, e_ree, e_rt, e_rnx, e_rer, e_def0, e_def1, e_def2, e_def3, e_def4, e_def5, e_def6, e_seq, e_sqn, e_sqr, e_sqe, e_sqb, e_sqc, e_set, e_seo, e_see, e_se2, e_if, e_ift, e_iff, e_ifr, e_ret, e_rto, e_rte, e_exp, e_epo, e_epe, e_rai, e_frz, e_fro, e_frc, e_fzo, e_fzd, e_fzs, e_fzb, e_fzu, e_for, e_fos, e_fob, e_foe, e_lii, e_lio, e_tii, e_tio, e_sti, e_sto, e_r1, e_r1o, e_r2, e_r2o, e_comp, e_coo, e_cc, e_yes, e_na0, e_nas, e_nab, e_nao, e_nad, e_nau, e_naa, e_nae, e_ne0, e_nes, e_neb, e_neo, e_ned, e_neu, e_nea, e_nee, e_app, e_apo, e_sei, e_sio, e_si2, e_dput, e_dpi, e_dpb, e_dp2, e_try, e_tyn, e_tyr, e_tye, e_exs, e_exn, e_uns, e_unn, e_ber, e_ben, e_tka, e_tko, e_ise, e_ero, e_unp, e_unt, e_imi, e_ims, e_imb, e_imn, e_imt, e_im0, e_imc, List.map_cons, List.map_nil, List.cons_append, List.nil_append, List.replicate_succ, List.replicate_zero, List.length_cons, List.length_nil, List.getElem?_cons_zero, List.getElem?_cons_succ, List.set_cons_zero, List.set_cons_succ, Option.map_some, Option.map_none, Option.bind_some, Option.isSome_some, Option.isSome_none, if_true, if_false, reduceIte, Bool.and_true, Bool.true_and, Bool.and_false, Bool.false_and, Bool.or_true, Bool.true_or, Bool.or_false, Bool.false_or, Bool.not_true, Bool.not_false, Nat.reduceAdd, Nat.reduceEqDiff, Bool.false_eq_true, decide_true, decide_false, reduceCtorEq, and_self, true_and, and_true, true_or, or_true, false_or, or_false, or_self, Nat.reducePow, Nat.reduceLeDiff, Nat.reduceSub, Int.reduceLT, Int.reduceLE, Int.reduceAdd, Int.reduceSub, Int.reduceMul, Int.reduceNeg, Int.reduceEq, List.length_map, List.length_append, e_it0, e_it1, e_it2, e_it3, e_it4, e_itt0, e_itt1, e_itt2, e_itt3, e_itt4, eq_self, Int.reduceToNat, false_and, and_false, Int.reducePow, e_pla, e_ple, e_seal, hc0, h, hi, e]
  · obtain ⟨L, l1, l2, e⟩ := rest (cell ns 0 % 43) (by omega) (by omega)
    refine ⟨L, l1, l2, ?_⟩
    simp only [e_var, e_ch3, e_c3o, e_cmt, e_cmf, e_cmo, e_crt, e_crf, e_r3, e_r3o, e_dg2, e_d2o, e_gd2, e_clr, e_cao, e_ext, e_exo, e_idx, e_ixl, e_fld, e_flr, e_flt, e_xtb, e_xta, e_mth, e_rrx, e_mto, e_mkt, e_mko, e_mke, e_mkx, e_mky, e_srt, e_l2, e_l2o, e_frd, e_frt, e_pair, e_pao, e_pab, e_paa, e_put, e_puo, e_puy, e_pue, e_fvs, e_fvi, e_fvb, e_fvn, e_dgt, e_dgs, e_dgi, e_dpt, e_dps, e_sdi, e_sdb, e_sml, e_smr, e_sh, e_bo, e_ow, e_dp, e_an, e_con, e_opt, e_op, e_op2, e_op2e, e_op2f, e_un, e_op1, e_op1e, e_add, e_adds, e_addl, e_sub, e_mul, e_muls, e_mull, e_mulI, e_div, e_mod, e_lt, e_le, e_gt, e_ge, e_neg, e_not, e_isn, e_notn, e_nn, e_ni, e_ns, e_nb, e_nl, e_nt, e_eqs, e_eqi, e_eqb, e_eqn, e_eqni, e_eqin, e_eqns, e_eqsn, e_eqsi, e_eqis, e_eq, e_ne, e_in, e_nin, e_din, e_dnin, e_dget, e_dget1, e_and, e_andt, e_andf, e_ande, e_or, e_orf, e_ort, e_tst, e_ts, e_tse, e_band, e_bat, e_baf, e_bae, e_bor, e_bof, e_bot, e_boe, e_bnot, e_bn, e_bne, e_ife, e_iet, e_ief, e_ch, e_ch2, e_cht, e_chf, e_nil, e_cons, e_cn, e_cne, e_cnf, e_arg1, e_arg2, e_lst, e_lse, e_ls0, e_ls1, e_ls2, e_ls3, e_ls4, e_ls5, e_ls6, e_ls7, e_ls8, e_tup, e_tue, e_tu0, e_tu1, e_tu2, e_tu3, e_tu4, e_dnew, e_cb, e_cbo, e_cbe, e_lens, e_lenl, e_lent, e_lenc, e_list, e_listt, e_inti, e_intb, e_ints, e_max, e_min, e_kst, e_ktp, e_kdp, e_ki, e_ks, e_kb, e_kn, e_ktb, e_kta, e_xst, e_xtp, e_xdp, e_xbw, e_xan, e_xcb, e_xs, e_si, e_ss, e_sb, e_sn, e_slt, e_sls, e_slb, e_sdp, e_sst, e_its, e_itbl, e_ix, e_ixo, e_ixe, e_ixf, e_nop, e_som, e_smo, e_sl, e_slo, e_gsl, e_gss, e_rev, e_dg1, e_d1o, e_d1k, e_m1, e_m1o, e_call, e_cl, e_cle, e_re, e_ree, e_rt, e_rnx, e_rer, e_def0, e_def1, e_def2, e_def3, e_def4, e_def5, e_def6, e_seq, e_sqn, e_sqr, e_sqe, e_sqb, e_sqc, e_set, e_seo, e_see, e_se2, e_if, e_ift, e_iff, e_ifr, e_ret, e_rto, e_rte, e_exp, e_epo, e_epe, e_rai, e_frz, e_fro, e_frc, e_fzo, e_fzd, e_fzs, e_fzb, e_fzu, e_for, e_fos, e_fob, e_foe, e_lii, e_lio, e_tii, e_tio, e_sti, e_sto, e_r1, e_r1o, e_r2, e_r2o, e_comp, e_coo, e_cc, e_yes, e_na0, e_nas, e_nab, e_nao, e_nad, e_nau, e_naa, e_nae, e_ne0, e_nes, e_neb, e_neo, e_ned, e_neu, e_nea, e_nee, e_app, e_apo, e_sei, e_sio, e_si2, e_dput, e_dpi, e_dpb, e_dp2, e_try, e_tyn, e_tyr, e_tye, e_exs, e_exn, e_uns, e_unn, e_ber, e_ben, e_tka, e_tko, e_ise, e_ero, e_unp, e_unt, e_imi, e_ims, e_imb, e_imn, e_imt, e_im0, e_imc, List.map_cons, List.map_nil, List.cons_append, List.nil_append, List.replicate_succ, List.replicate_zero, List.length_cons, List.length_nil, List.getElem?_cons_zero, List.getElem?_cons_succ, List.set_cons_zero, List.set_cons_succ, Option.map_some, Option.map_none, Option.bind_some, Option.isSome_some, Option.isSome_none, if_true, if_false, reduceIte, Bool.and_true, Bool.true_and, Bool.and_false, Bool.false_and, Bool.or_true, Bool.true_or, Bool.or_false, Bool.false_or, Bool.not_true, Bool.not_false, Nat.reduceAdd, Nat.reduceEqDiff, Bool.false_eq_true, decide_true, decide_false, reduceCtorEq, and_self, true_and, and_true, true_or, or_true, false_or, or_false, or_self, Nat.reducePow, Nat.reduceLeDiff, Nat.reduceSub, Int.reduceLT, Int.reduceLE, Int.reduceAdd, Int.reduceSub, Int.reduceMul, Int.reduceNeg, Int.reduceEq, List.length_map, List.length_append, e_it0, e_it1, e_it2, e_it3, e_it4, e_itt0, e_itt1, e_itt2, e_itt3, e_itt4, eq_self, Int.reduceToNat, false_and, and_false, Int.reducePow, e_pla, e_ple, e_seal, hc0, h, e]


end DD

set_option maxRecDepth 100000
set_option maxHeartbeats 4000000
namespace DD
open PySem L2
-- the law's own test of a place
theorem sgn_filter (s : Str) : (sgns s).filter (fun d => match d with
    | .str t => !(t.cps.toList.all fun c => decide (97 ≤ c) && decide (c < 123))
    | _ => false) = (s.cps.toList.filter fun c => !(decide (97 ≤ c) && decide (c < 123))).map fun c => D.str ⟨#[c]⟩ := by
  unfold sgns
  rw [List.filter_map]
  congr 1
  refine List.filter_congr fun c _ => ?_
  simp
local macro_rules | `(tactic| walk_at "ev0") => `(tactic| simp only [e_var, e_ch3, e_c3o, e_cmt, e_cmf, e_cmo, e_crt, e_crf, e_r3, e_r3o, e_dg2, e_d2o, e_gd2, e_clr, e_cao, e_ext, e_exo, e_idx, e_ixl, e_fld, e_flr, e_flt, e_xtb, e_xta, e_mth, e_rrx, e_mto, e_mkt, e_mko, e_mke, e_mkx, e_mky, e_srt, e_l2, e_l2o, e_frd, e_frt, e_pair, e_pao, e_pab, e_paa, e_put, e_puo, e_puy, e_pue, e_fvs, e_fvi, e_fvb, e_fvn, e_dgt, e_dgs, e_dgi, e_dpt, e_dps, e_sdi, e_sdb, e_sml, e_smr, e_sh, e_bo, e_ow, e_dp, e_an, e_con, e_opt, e_op, e_op2, e_op2e, e_op2f, e_un, e_op1, e_op1e, e_add, e_adds, e_addl, e_sub, e_mul, e_muls, e_mull, e_mulI, e_div, e_mod, e_lt, e_le, e_gt, e_ge, e_neg, e_not, e_isn, e_notn, e_nn, e_ni, e_ns, e_nb, e_nl, e_nt, e_eqs, e_eqi, e_eqb, e_eqn, e_eqni, e_eqin, e_eqns, e_eqsn, e_eqsi, e_eqis, e_eq, e_ne, e_in, e_nin, e_din, e_dnin, e_dget, e_dget1, e_and, e_andt, e_andf, e_ande, e_or, e_orf, e_ort, e_tst, e_ts, e_tse, e_band, e_bat, e_baf, e_bae, e_bor, e_bof, e_bot, e_boe, e_bnot, e_bn, e_bne, e_ife, e_iet, e_ief, e_ch, e_ch2, e_cht, e_chf, e_nil, e_cons, e_cn, e_cne, e_cnf, e_arg1, e_arg2, e_lst, e_lse, e_ls0, e_ls1, e_ls2, e_ls3, e_ls4, e_ls5, e_ls6, e_ls7, e_ls8, e_tup, e_tue, e_tu0, e_tu1, e_tu2, e_tu3, e_tu4, e_dnew, e_cb, e_cbo, e_cbe, e_lens, e_lenl, e_lent, e_lenc, e_list, e_listt, e_inti, e_intb, e_ints, e_max, e_min, e_kst, e_ktp, e_kdp, e_ki, e_ks, e_kb, e_kn, e_ktb, e_kta, e_xst, e_xtp, e_xdp, e_xbw, e_xan, e_xcb, e_xs, e_si, e_ss, e_sb, e_sn, e_slt, e_sls, e_slb, e_sdp, e_sst, e_its, e_itbl, e_ix, e_ixo, e_ixe, e_ixf, e_nop, e_som, e_smo, e_sl, e_slo, e_gsl, e_gss, e_rev, e_dg1, e_d1o, e_d1k, e_m1, e_m1o, e_call, e_cl, e_cle, e_re, e_ree, e_rt, e_rnx, e_rer, e_def0, e_def1, e_def2, e_def3, e_def4, e_def5, e_def6, e_seq, e_sqn, e_sqr, e_sqe, e_sqb, e_sqc, e_set, e_seo, e_see, e_se2, e_if, e_ift, e_iff, e_ifr, e_ret, e_rto, e_rte, e_exp, e_epo, e_epe, e_rai, e_frz, e_fro, e_frc, e_fzo, e_fzd, e_fzs, e_fzb, e_fzu, e_for, e_fos, e_fob, e_foe, e_lii, e_lio, e_tii, e_tio, e_sti, e_sto, e_r1, e_r1o, e_r2, e_r2o, e_comp, e_coo, e_cc, e_yes, e_na0, e_nas, e_nab, e_nao, e_nad, e_nau, e_naa, e_nae, e_ne0, e_nes, e_neb, e_neo, e_ned, e_neu, e_nea, e_nee, e_app, e_apo, e_sei, e_sio, e_si2, e_dput, e_dpi, e_dpb, e_dp2, e_try, e_tyn, e_tyr, e_tye, e_exs, e_exn, e_uns, e_unn, e_ber, e_ben, e_tka, e_tko, e_ise, e_ero, e_unp, e_unt, e_imi, e_ims, e_imb, e_imn, e_imt, e_im0, e_imc, List.map_cons, List.map_nil, List.cons_append, List.nil_append, List.replicate_succ, List.replicate_zero, List.length_cons, List.length_nil, List.getElem?_cons_zero, List.getElem?_cons_succ, List.set_cons_zero, List.set_cons_succ, Option.map_some, Option.map_none, Option.bind_some, Option.isSome_some, Option.isSome_none, if_true, if_false, reduceIte, Bool.and_true, Bool.true_and, Bool.and_false, Bool.false_and, Bool.or_true, Bool.true_or, Bool.or_false, Bool.false_or, Bool.not_true, Bool.not_false, Nat.reduceAdd, Nat.reduceEqDiff, Bool.false_eq_true, decide_true, decide_false, reduceCtorEq, and_self, true_and, and_true, true_or, or_true, false_or, or_false, or_self, Nat.reducePow, Nat.reduceLeDiff, Nat.reduceSub, Int.reduceLT, Int.reduceLE, Int.reduceAdd, Int.reduceSub, Int.reduceMul, Int.reduceNeg, Int.reduceEq, List.length_map, List.length_append, e_it0, e_it1, e_it2, e_it3, e_it4, e_itt0, e_itt1, e_itt2, e_itt3, e_itt4, eq_self, Int.reduceToNat, false_and, and_false, Int.reducePow, e_pla, e_ple, e_seal])
local macro_rules | `(tactic| walk_at "ev1") => `(tactic| simp only [e_var, e_ch3, e_c3o, e_cmt, e_cmf, e_cmo, e_crt, e_crf, e_r3, e_r3o, e_dg2, e_d2o, e_gd2, e_clr, e_cao, e_ext, e_exo, e_idx, e_ixl, e_fld, e_flr, e_flt, e_xtb, e_xta, e_mth, e_rrx, e_mto, e_mkt, e_mko, e_mke, e_mkx, e_mky, e_srt, e_l2, e_l2o, e_frd, e_frt, e_pair, e_pao, e_pab, e_paa, e_put, e_puo, e_puy, e_pue, e_fvs, e_fvi, e_fvb, e_fvn, e_dgt, e_dgs, e_dgi, e_dpt, e_dps, e_sdi, e_sdb, e_sml, e_smr, e_sh, e_bo, e_ow, e_dp, e_an, e_con, e_opt, e_op, e_op2, e_op2e, e_op2f, e_un, e_op1, e_op1e, e_add, e_adds, e_addl, e_sub, e_mul, e_muls, e_mull, e_mulI, e_div, e_mod, e_lt, e_le, e_gt, e_ge, e_neg, e_not, e_isn, e_notn, e_nn, e_ni, e_ns, e_nb, e_nl, e_nt, e_eqs, e_eqi, e_eqb, e_eqn, e_eqni, e_eqin, e_eqns, e_eqsn, e_eqsi, e_eqis, e_eq, e_ne, e_in, e_nin, e_din, e_dnin, e_dget, e_dget1, e_and, e_andt, e_andf, e_ande, e_or, e_orf, e_ort, e_tst, e_ts, e_tse, e_band, e_bat, e_baf, e_bae, e_bor, e_bof, e_bot, e_boe, e_bnot, e_bn, e_bne, e_ife, e_iet, e_ief, e_ch, e_ch2, e_cht, e_chf, e_nil, e_cons, e_cn, e_cne, e_cnf, e_arg1, e_arg2, e_lst, e_lse, e_ls0, e_ls1, e_ls2, e_ls3, e_ls4, e_ls5, e_ls6, e_ls7, e_ls8, e_tup, e_tue, e_tu0, e_tu1, e_tu2, e_tu3, e_tu4, e_dnew, e_cb, e_cbo, e_cbe, e_lens, e_lenl, e_lent, e_lenc, e_list, e_listt, e_inti, e_intb, e_ints, e_max, e_min, e_kst, e_ktp, e_kdp, e_ki, e_ks, e_kb, e_kn, e_ktb, e_kta, e_xst, e_xtp, e_xdp, e_xbw, e_xan, e_xcb, e_xs, e_si, e_ss, e_sb, e_sn, e_slt, e_sls, e_slb, e_sdp, e_sst, e_its, e_itbl, e_ix, e_ixo, e_ixe, e_ixf, e_nop, e_som, e_smo, e_sl, e_slo, e_gsl, e_gss, e_rev, e_dg1, e_d1o, e_d1k, e_m1, e_m1o, e_call, e_cl, e_cle, e_re, e_ree, e_rt, e_rnx, e_rer, e_def0, e_def1, e_def2, e_def3, e_def4, e_def5, e_def6, e_seq, e_sqn, e_sqr, e_sqe, e_sqb, e_sqc, e_set, e_seo, e_see, e_se2, e_if, e_ift, e_iff, e_ifr, e_ret, e_rto, e_rte, e_exp, e_epo, e_epe, e_rai, e_frz, e_fro, e_frc, e_fzo, e_fzd, e_fzs, e_fzb, e_fzu, e_for, e_fos, e_fob, e_foe, e_lii, e_lio, e_tii, e_tio, e_sti, e_sto, e_r1, e_r1o, e_r2, e_r2o, e_comp, e_coo, e_cc, e_yes, e_na0, e_nas, e_nab, e_nao, e_nad, e_nau, e_naa, e_nae, e_ne0, e_nes, e_neb, e_neo, e_ned, e_neu, e_nea, e_nee, e_app, e_apo, e_sei, e_sio, e_si2, e_dput, e_dpi, e_dpb, e_dp2, e_try, e_tyn, e_tyr, e_tye, e_exs, e_exn, e_uns, e_unn, e_ber, e_ben, e_tka, e_tko, e_ise, e_ero, e_unp, e_unt, e_imi, e_ims, e_imb, e_imn, e_imt, e_im0, e_imc, List.map_cons, List.map_nil, List.cons_append, List.nil_append, List.replicate_succ, List.replicate_zero, List.length_cons, List.length_nil, List.getElem?_cons_zero, List.getElem?_cons_succ, List.set_cons_zero, List.set_cons_succ, Option.map_some, Option.map_none, Option.bind_some, Option.isSome_some, Option.isSome_none, if_true, if_false, reduceIte, Bool.and_true, Bool.true_and, Bool.and_false, Bool.false_and, Bool.or_true, Bool.true_or, Bool.or_false, Bool.false_or, Bool.not_true, Bool.not_false, Nat.reduceAdd, Nat.reduceEqDiff, Bool.false_eq_true, decide_true, decide_false, reduceCtorEq, and_self, true_and, and_true, true_or, or_true, false_or, or_false, or_self, Nat.reducePow, Nat.reduceLeDiff, Nat.reduceSub, Int.reduceLT, Int.reduceLE, Int.reduceAdd, Int.reduceSub, Int.reduceMul, Int.reduceNeg, Int.reduceEq, List.length_map, List.length_append, e_it0, e_it1, e_it2, e_it3, e_it4, e_itt0, e_itt1, e_itt2, e_itt3, e_itt4, eq_self, Int.reduceToNat, false_and, and_false, Int.reducePow, e_pla, e_ple, e_seal, in_letters])
theorem lawis_ok (d : D) (h : okD d) : g_law_is_place [d] = .ok (.bl (isPl d)) := by
  unfold g_law_is_place d_law_is_place
  cases d with
  | int i => walk_at "ev0"; rw [isi_strI]; walk_at "ev0"; rfl
  | non => walk_at "ev0"; rw [isi_strN]; walk_at "ev0"; rfl
  | str s =>
    have hl : s.length ≤ sizeLine := Nat.le_trans h.1 (by decide)
    walk_at "ev0"
    rw [isi_str]
    walk_at "ev0"
    rw [if_pos hl]
    walk_at "ev0"
    by_cases h1 : (1 : Int) ≤ s.length
    · rw [decide_eq_true h1]
      walk_at "ev0"
      by_cases h2 : (s.length : Int) ≤ 12
      · rw [decide_eq_true h2]
        have key := compL_if (i := 1) (p := t1_law_is_place) (f := e1_law_is_place) (δ := [.bo (.str s), .un]) (fun d => match d with
            | .str t => !(t.cps.toList.all fun c => decide (97 ≤ c) && decide (c < 123))
            | _ => false) id (sgns s) [] (by
          intro d hd
          simp only [sgns, List.mem_map] at hd
          obtain ⟨c, _, rfl⟩ := hd
          unfold t1_law_is_place
          walk_at "ev1"
          simp) (by
          intro d hd _
          simp only [sgns, List.mem_map] at hd
          obtain ⟨c, _, rfl⟩ := hd
          refine ⟨.any, ?_, rfl⟩
          unfold e1_law_is_place
          walk_at "ev0"
          rfl) (size_le (by simp only [sgns, List.length_map, List.length_nil]; have := str_len s; omega))
        rw [sgn_filter, List.map_id, List.nil_append] at key
        have hf : (s.cps.toList.filter fun c => !(decide (97 ≤ c) && decide (c < 123))).length ≤ 12 := Nat.le_trans (List.length_filter_le _ _) (by have := str_len s; omega)
        have hi : imms ((s.cps.toList.filter fun c => !(decide (97 ≤ c) && decide (c < 123))).map fun c => D.str ⟨#[c]⟩) = true := by
          have := imms_str ((s.cps.toList.filter fun c => !(decide (97 ≤ c) && decide (c < 123))).map fun c => (⟨#[c]⟩ : Str))
          rwa [List.map_map] at this
        have he : eqB (.lst ((s.cps.toList.filter fun c => !(decide (97 ≤ c) && decide (c < 123))).map fun c => D.str ⟨#[c]⟩)) (.lst []) = some (isPl (.str s)) := by
          have e2 : isPl (.str s) = s.cps.toList.all fun c => decide (97 ≤ c) && decide (c < 123) := by
            rw [isPl_str, decide_eq_true (by omega), decide_eq_true (by omega)]
            rfl
          rw [okD_nil (fun d hd => by
            obtain ⟨c, hc, rfl⟩ := List.mem_map.mp hd
            refine ⟨by show 1 ≤ 100; decide, fun z hz => ?_⟩
            have : z = c := by simpa using hz
            rw [this]
            exact h.2 c (List.mem_filter.mp hc).1), e2, List.isEmpty_map]
          congr 1
          rw [Bool.eq_iff_iff, List.isEmpty_iff, List.filter_eq_nil_iff, List.all_eq_true]
          refine forall_congr' fun c => imp_congr_right fun _ => ?_
          cases (decide (97 ≤ c) && decide (c < 123)) <;> simp
        simp only [e_var, e_ch3, e_c3o, e_cmt, e_cmf, e_cmo, e_crt, e_crf, e_r3, e_r3o, e_dg2, e_d2o, e_gd2, e_clr, e_cao, e_ext, e_exo, e_idx, e_ixl, e_fld, e_flr, e_flt, e_xtb, e_xta, e_mth, e_rrx, e_mto, e_mkt, e_mko, e_mke, e_mkx, e_mky, e_srt, e_l2, e_l2o, e_frd, e_frt, e_pair, e_pao, e_pab, e_paa, e_put, e_puo, e_puy, e_pue, e_fvs, e_fvi, e_fvb, e_fvn, e_dgt, e_dgs, e_dgi, e_dpt, e_dps, e_sdi, e_sdb, e_sml, e_smr, e_sh, e_bo, e_ow, e_dp, e_an, e_con, e_opt, e_op, e_op2, e_op2e, e_op2f, e_un, e_op1, e_op1e, e_add, e_adds, e_addl, e_sub, e_mul, e_muls, e_mull, e_mulI, e_div, e_mod, e_lt, e_le, e_gt, e_ge, e_neg, e_not, e_isn, e_notn, e_nn, e_ni, e_ns, e_nb, e_nl, e_nt, e_eqs, e_eqi, e_eqb, e_eqn, e_eqni, e_eqin, e_eqns, e_eqsn, e_eqsi, e_eqis, e_eq, e_ne, e_in, e_nin, e_din, e_dnin, e_dget, e_dget1, e_and, e_andt, e_andf, e_ande, e_or, e_orf, e_ort, e_tst, e_ts, e_tse, e_band, e_bat, e_baf, e_bae, e_bor, e_bof, e_bot, e_boe, e_bnot, e_bn, e_bne, e_ife, e_iet, e_ief, e_ch, e_ch2, e_cht, e_chf, e_nil, e_cons, e_cn, e_cne, e_cnf, e_arg1, e_arg2, e_lst, e_lse, e_ls0, e_ls1, e_ls2, e_ls3, e_ls4, e_ls5, e_ls6, e_ls7, e_ls8, e_tup, e_tue, e_tu0, e_tu1, e_tu2, e_tu3, e_tu4, e_dnew, e_cb, e_cbo, e_cbe, e_lens, e_lenl, e_lent, e_lenc, e_list, e_listt, e_inti, e_intb, e_ints, e_max, e_min, e_kst, e_ktp, e_kdp, e_ki, e_ks, e_kb, e_kn, e_ktb, e_kta, e_xst, e_xtp, e_xdp, e_xbw, e_xan, e_xcb, e_xs, e_si, e_ss, e_sb, e_sn, e_slt, e_sls, e_slb, e_sdp, e_sst, e_its, e_itbl, e_ix, e_ixo, e_ixe, e_ixf, e_nop, e_som, e_smo, e_sl, e_slo, e_gsl, e_gss, e_rev, e_dg1, e_d1o, e_d1k, e_m1, e_m1o, e_call, e_cl, e_cle, e_re, e_ree, e_rt, e_rnx, e_rer, e_def0, e_def1, e_def2, e_def3, e_def4, e_def5, e_def6, e_seq, e_sqn, e_sqr, e_sqe, e_sqb, e_sqc, e_set, e_seo, e_see, e_se2, e_if, e_ift, e_iff, e_ifr, e_ret, e_rto, e_rte, e_exp, e_epo, e_epe, e_rai, e_frz, e_fro, e_frc, e_fzo, e_fzd, e_fzs, e_fzb, e_fzu, e_for, e_fos, e_fob, e_foe, e_lii, e_lio, e_tii, e_tio, e_sti, e_sto, e_r1, e_r1o, e_r2, e_r2o, e_comp, e_coo, e_cc, e_yes, e_na0, e_nas, e_nab, e_nao, e_nad, e_nau, e_naa, e_nae, e_ne0, e_nes, e_neb, e_neo, e_ned, e_neu, e_nea, e_nee, e_app, e_apo, e_sei, e_sio, e_si2, e_dput, e_dpi, e_dpb, e_dp2, e_try, e_tyn, e_tyr, e_tye, e_exs, e_exn, e_uns, e_unn, e_ber, e_ben, e_tka, e_tko, e_ise, e_ero, e_unp, e_unt, e_imi, e_ims, e_imb, e_imn, e_imt, e_im0, e_imc, List.map_cons, List.map_nil, List.cons_append, List.nil_append, List.replicate_succ, List.replicate_zero, List.length_cons, List.length_nil, List.getElem?_cons_zero, List.getElem?_cons_succ, List.set_cons_zero, List.set_cons_succ, Option.map_some, Option.map_none, Option.bind_some, Option.isSome_some, Option.isSome_none, if_true, if_false, reduceIte, Bool.and_true, Bool.true_and, Bool.and_false, Bool.false_and, Bool.or_true, Bool.true_or, Bool.or_false, Bool.false_or, Bool.not_true, Bool.not_false, Nat.reduceAdd, Nat.reduceEqDiff, Bool.false_eq_true, decide_true, decide_false, reduceCtorEq, and_self, true_and, and_true, true_or, or_true, false_or, or_false, or_self, Nat.reducePow, Nat.reduceLeDiff, Nat.reduceSub, Int.reduceLT, Int.reduceLE, Int.reduceAdd, Int.reduceSub, Int.reduceMul, Int.reduceNeg, Int.reduceEq, List.length_map, List.length_append, e_it0, e_it1, e_it2, e_it3, e_it4, e_itt0, e_itt1, e_itt2, e_itt3, e_itt4, eq_self, Int.reduceToNat, false_and, and_false, Int.reducePow, e_pla, e_ple, e_seal, key, hi, he]
      · rw [decide_eq_false h2]
        walk_at "ev0"
        rw [isPl_str, decide_eq_false (show ¬ s.length ≤ 12 by omega)]
        simp
    · rw [decide_eq_false h1]
      walk_at "ev0"
      rw [isPl_str, decide_eq_false (show ¬ 1 ≤ s.length by omega)]
      simp
  | _ => exact h.elim
def exS : Option Ex → Str
  | none => Str.ofString ""
  | some .place => Str.ofString "place"
  | _ => Str.ofString "journey"
-- the loop, from k on
theorem duL (ds : List D) (h : ∀ d ∈ ds, okD d) (him : imms ds = true) : ∀ (m k : Nat) (x : Slot), k + m = ds.length → (∀ d, k > 0 → ds[k - 1]? = some d → True) →
    (match chk (if k = 0 then none else ds[k - 1]?) (ds.drop k) with
      | none => ∃ y, forL 1 .st b1_law_due ((List.range m).map fun i => D.int ((k : Int) + (i : Nat))) [.bo (.lst ds), x] = .nx [.bo (.lst ds), y]
      | some c => forL 1 .st b1_law_due ((List.range m).map fun i => D.int ((k : Int) + (i : Nat))) [.bo (.lst ds), x] = .rt (.str (exS (some c))) ∧ (c = .place ∨ c = .journey))
  | 0, k, x, e, _ => by
    rw [List.drop_of_length_le (by omega)]
    exact ⟨x, rfl⟩
  | m + 1, k, x, e, _ => by
    have hk : k < ds.length := by omega
    obtain ⟨d, hd⟩ : ∃ d, ds[k]? = some d := ⟨_, List.getElem?_eq_getElem hk⟩
    have hdm := h d (List.mem_of_getElem? hd)
    have ih := duL ds h him m (k + 1) (.sh (.int k)) (by omega) (fun _ _ _ => trivial)
    have hdr : ds.drop k = d :: ds.drop (k + 1) := by
      rw [List.drop_eq_getElem_cons hk]
      congr 1
      rw [List.getElem?_eq_getElem hk] at hd
      exact Option.some.inj hd
    have hr : ((List.range (m + 1)).map fun i => D.int ((k : Int) + (i : Nat))) = D.int k :: ((List.range m).map fun i => D.int (((k + 1 : Nat) : Int) + (i : Nat))) := by
      rw [List.range_succ_eq_map, List.map_cons, List.map_map]
      congr 1
      refine List.map_congr_left fun i _ => ?_
      show D.int ((k : Int) + ((i + 1 : Nat) : Int)) = _
      congr 1
      omega
    have hp := lawis_ok d hdm
    have hix := item_of hd
    rw [hdr, hr]
    rw [if_neg (by omega), show k + 1 - 1 = k by omega, hd] at ih
    unfold chk forL
    rw [e_its]
    simp only
    unfold b1_law_due at ih ⊢
    cases hpl : isPl d with
    | false =>
      rw [hpl] at hp
      simp only [e_var, e_ch3, e_c3o, e_cmt, e_cmf, e_cmo, e_crt, e_crf, e_r3, e_r3o, e_dg2, e_d2o, e_gd2, e_clr, e_cao, e_ext, e_exo, e_idx, e_ixl, e_fld, e_flr, e_flt, e_xtb, e_xta, e_mth, e_rrx, e_mto, e_mkt, e_mko, e_mke, e_mkx, e_mky, e_srt, e_l2, e_l2o, e_frd, e_frt, e_pair, e_pao, e_pab, e_paa, e_put, e_puo, e_puy, e_pue, e_fvs, e_fvi, e_fvb, e_fvn, e_dgt, e_dgs, e_dgi, e_dpt, e_dps, e_sdi, e_sdb, e_sml, e_smr, e_sh, e_bo, e_ow, e_dp, e_an, e_con, e_opt, e_op, e_op2, e_op2e, e_op2f, e_un, e_op1, e_op1e, e_add, e_adds, e_addl, e_sub, e_mul, e_muls, e_mull, e_mulI, e_div, e_mod, e_lt, e_le, e_gt, e_ge, e_neg, e_not, e_isn, e_notn, e_nn, e_ni, e_ns, e_nb, e_nl, e_nt, e_eqs, e_eqi, e_eqb, e_eqn, e_eqni, e_eqin, e_eqns, e_eqsn, e_eqsi, e_eqis, e_eq, e_ne, e_in, e_nin, e_din, e_dnin, e_dget, e_dget1, e_and, e_andt, e_andf, e_ande, e_or, e_orf, e_ort, e_tst, e_ts, e_tse, e_band, e_bat, e_baf, e_bae, e_bor, e_bof, e_bot, e_boe, e_bnot, e_bn, e_bne, e_ife, e_iet, e_ief, e_ch, e_ch2, e_cht, e_chf, e_nil, e_cons, e_cn, e_cne, e_cnf, e_arg1, e_arg2, e_lst, e_lse, e_ls0, e_ls1, e_ls2, e_ls3, e_ls4, e_ls5, e_ls6, e_ls7, e_ls8, e_tup, e_tue, e_tu0, e_tu1, e_tu2, e_tu3, e_tu4, e_dnew, e_cb, e_cbo, e_cbe, e_lens, e_lenl, e_lent, e_lenc, e_list, e_listt, e_inti, e_intb, e_ints, e_max, e_min, e_kst, e_ktp, e_kdp, e_ki, e_ks, e_kb, e_kn, e_ktb, e_kta, e_xst, e_xtp, e_xdp, e_xbw, e_xan, e_xcb, e_xs, e_si, e_ss, e_sb, e_sn, e_slt, e_sls, e_slb, e_sdp, e_sst, e_its, e_itbl, e_ix, e_ixo, e_ixe, e_ixf, e_nop, e_som, e_smo, e_sl, e_slo, e_gsl, e_gss, e_rev, e_dg1, e_d1o, e_d1k, e_m1, e_m1o, e_call, e_cl, e_cle, e_re, e_ree, e_rt, e_rnx, e_rer, e_def0, e_def1, e_def2, e_def3, e_def4, e_def5, e_def6, e_seq, e_sqn, e_sqr, e_sqe, e_sqb, e_sqc, e_set, e_seo, e_see, e_se2, e_if, e_ift, e_iff, e_ifr, e_ret, e_rto, e_rte, e_exp, e_epo, e_epe, e_rai, e_frz, e_fro, e_frc, e_fzo, e_fzd, e_fzs, e_fzb, e_fzu, e_for, e_fos, e_fob, e_foe, e_lii, e_lio, e_tii, e_tio, e_sti, e_sto, e_r1, e_r1o, e_r2, e_r2o, e_comp, e_coo, e_cc, e_yes, e_na0, e_nas, e_nab, e_nao, e_nad, e_nau, e_naa, e_nae, e_ne0, e_nes, e_neb, e_neo, e_ned, e_neu, e_nea, e_nee, e_app, e_apo, e_sei, e_sio, e_si2, e_dput, e_dpi, e_dpb, e_dp2, e_try, e_tyn, e_tyr, e_tye, e_exs, e_exn, e_uns, e_unn, e_ber, e_ben, e_tka, e_tko, e_ise, e_ero, e_unp, e_unt, e_imi, e_ims, e_imb, e_imn, e_imt, e_im0, e_imc, List.map_cons, List.map_nil, List.cons_append, List.nil_append, List.replicate_succ, List.replicate_zero, List.length_cons, List.length_nil, List.getElem?_cons_zero, List.getElem?_cons_succ, List.set_cons_zero, List.set_cons_succ, Option.map_some, Option.map_none, Option.bind_some, Option.isSome_some, Option.isSome_none, if_true, if_false, reduceIte, Bool.and_true, Bool.true_and, Bool.and_false, Bool.false_and, Bool.or_true, Bool.true_or, Bool.or_false, Bool.false_or, Bool.not_true, Bool.not_false, Nat.reduceAdd, Nat.reduceEqDiff, Bool.false_eq_true, decide_true, decide_false, reduceCtorEq, and_self, true_and, and_true, true_or, or_true, false_or, or_false, or_self, Nat.reducePow, Nat.reduceLeDiff, Nat.reduceSub, Int.reduceLT, Int.reduceLE, Int.reduceAdd, Int.reduceSub, Int.reduceMul, Int.reduceNeg, Int.reduceEq, List.length_map, List.length_append, e_it0, e_it1, e_it2, e_it3, e_it4, e_itt0, e_itt1, e_itt2, e_itt3, e_itt4, eq_self, Int.reduceToNat, false_and, and_false, Int.reducePow, e_pla, e_ple, e_seal, hix, hp]
      rfl
    | true =>
      rw [hpl] at hp
      by_cases h0 : k = 0
      · subst h0
        have : eqT d .non = false := by
          cases d <;> first | exact hdm.elim | (cases hpl; done) | exact eqT_of e_eqsn
        rw [if_pos rfl]
        simp only [e_var, e_ch3, e_c3o, e_cmt, e_cmf, e_cmo, e_crt, e_crf, e_r3, e_r3o, e_dg2, e_d2o, e_gd2, e_clr, e_cao, e_ext, e_exo, e_idx, e_ixl, e_fld, e_flr, e_flt, e_xtb, e_xta, e_mth, e_rrx, e_mto, e_mkt, e_mko, e_mke, e_mkx, e_mky, e_srt, e_l2, e_l2o, e_frd, e_frt, e_pair, e_pao, e_pab, e_paa, e_put, e_puo, e_puy, e_pue, e_fvs, e_fvi, e_fvb, e_fvn, e_dgt, e_dgs, e_dgi, e_dpt, e_dps, e_sdi, e_sdb, e_sml, e_smr, e_sh, e_bo, e_ow, e_dp, e_an, e_con, e_opt, e_op, e_op2, e_op2e, e_op2f, e_un, e_op1, e_op1e, e_add, e_adds, e_addl, e_sub, e_mul, e_muls, e_mull, e_mulI, e_div, e_mod, e_lt, e_le, e_gt, e_ge, e_neg, e_not, e_isn, e_notn, e_nn, e_ni, e_ns, e_nb, e_nl, e_nt, e_eqs, e_eqi, e_eqb, e_eqn, e_eqni, e_eqin, e_eqns, e_eqsn, e_eqsi, e_eqis, e_eq, e_ne, e_in, e_nin, e_din, e_dnin, e_dget, e_dget1, e_and, e_andt, e_andf, e_ande, e_or, e_orf, e_ort, e_tst, e_ts, e_tse, e_band, e_bat, e_baf, e_bae, e_bor, e_bof, e_bot, e_boe, e_bnot, e_bn, e_bne, e_ife, e_iet, e_ief, e_ch, e_ch2, e_cht, e_chf, e_nil, e_cons, e_cn, e_cne, e_cnf, e_arg1, e_arg2, e_lst, e_lse, e_ls0, e_ls1, e_ls2, e_ls3, e_ls4, e_ls5, e_ls6, e_ls7, e_ls8, e_tup, e_tue, e_tu0, e_tu1, e_tu2, e_tu3, e_tu4, e_dnew, e_cb, e_cbo, e_cbe, e_lens, e_lenl, e_lent, e_lenc, e_list, e_listt, e_inti, e_intb, e_ints, e_max, e_min, e_kst, e_ktp, e_kdp, e_ki, e_ks, e_kb, e_kn, e_ktb, e_kta, e_xst, e_xtp, e_xdp, e_xbw, e_xan, e_xcb, e_xs, e_si, e_ss, e_sb, e_sn, e_slt, e_sls, e_slb, e_sdp, e_sst, e_its, e_itbl, e_ix, e_ixo, e_ixe, e_ixf, e_nop, e_som, e_smo, e_sl, e_slo, e_gsl, e_gss, e_rev, e_dg1, e_d1o, e_d1k, e_m1, e_m1o, e_call, e_cl, e_cle, e_re, e_ree, e_rt, e_rnx, e_rer, e_def0, e_def1, e_def2, e_def3, e_def4, e_def5, e_def6, e_seq, e_sqn, e_sqr, e_sqe, e_sqb, e_sqc, e_set, e_seo, e_see, e_se2, e_if, e_ift, e_iff, e_ifr, e_ret, e_rto, e_rte, e_exp, e_epo, e_epe, e_rai, e_frz, e_fro, e_frc, e_fzo, e_fzd, e_fzs, e_fzb, e_fzu, e_for, e_fos, e_fob, e_foe, e_lii, e_lio, e_tii, e_tio, e_sti, e_sto, e_r1, e_r1o, e_r2, e_r2o, e_comp, e_coo, e_cc, e_yes, e_na0, e_nas, e_nab, e_nao, e_nad, e_nau, e_naa, e_nae, e_ne0, e_nes, e_neb, e_neo, e_ned, e_neu, e_nea, e_nee, e_app, e_apo, e_sei, e_sio, e_si2, e_dput, e_dpi, e_dpb, e_dp2, e_try, e_tyn, e_tyr, e_tye, e_exs, e_exn, e_uns, e_unn, e_ber, e_ben, e_tka, e_tko, e_ise, e_ero, e_unp, e_unt, e_imi, e_ims, e_imb, e_imn, e_imt, e_im0, e_imc, List.map_cons, List.map_nil, List.cons_append, List.nil_append, List.replicate_succ, List.replicate_zero, List.length_cons, List.length_nil, List.getElem?_cons_zero, List.getElem?_cons_succ, List.set_cons_zero, List.set_cons_succ, Option.map_some, Option.map_none, Option.bind_some, Option.isSome_some, Option.isSome_none, if_true, if_false, reduceIte, Bool.and_true, Bool.true_and, Bool.and_false, Bool.false_and, Bool.or_true, Bool.true_or, Bool.or_false, Bool.false_or, Bool.not_true, Bool.not_false, Nat.reduceAdd, Nat.reduceEqDiff, Bool.false_eq_true, decide_true, decide_false, reduceCtorEq, and_self, true_and, and_true, true_or, or_true, false_or, or_false, or_self, Nat.reducePow, Nat.reduceLeDiff, Nat.reduceSub, Int.reduceLT, Int.reduceLE, Int.reduceAdd, Int.reduceSub, Int.reduceMul, Int.reduceNeg, Int.reduceEq, List.length_map, List.length_append, e_it0, e_it1, e_it2, e_it3, e_it4, e_itt0, e_itt1, e_itt2, e_itt3, e_itt4, eq_self, Int.reduceToNat, false_and, and_false, Int.reducePow, e_pla, e_ple, e_seal, hix, hp, Option.getD_none, this]
        exact ih
      · obtain ⟨a, ha⟩ : ∃ a, ds[k - 1]? = some a := ⟨_, List.getElem?_eq_getElem (by omega)⟩
        have ham := h a (List.mem_of_getElem? ha)
        obtain ⟨b, hb⟩ := eqB_okD hdm ham
        have hix2 := item_of ha
        rw [show ((k - 1 : Nat) : Int) = (k : Int) - 1 by omega] at hix2
        have hk0 : (0 : Int) < k := by omega
        rw [if_neg h0, ha, Option.getD_some, eqT_of hb]
        cases b with
        | true =>
          simp only [e_var, e_ch3, e_c3o, e_cmt, e_cmf, e_cmo, e_crt, e_crf, e_r3, e_r3o, e_dg2, e_d2o, e_gd2, e_clr, e_cao, e_ext, e_exo, e_idx, e_ixl, e_fld, e_flr, e_flt, e_xtb, e_xta, e_mth, e_rrx, e_mto, e_mkt, e_mko, e_mke, e_mkx, e_mky, e_srt, e_l2, e_l2o, e_frd, e_frt, e_pair, e_pao, e_pab, e_paa, e_put, e_puo, e_puy, e_pue, e_fvs, e_fvi, e_fvb, e_fvn, e_dgt, e_dgs, e_dgi, e_dpt, e_dps, e_sdi, e_sdb, e_sml, e_smr, e_sh, e_bo, e_ow, e_dp, e_an, e_con, e_opt, e_op, e_op2, e_op2e, e_op2f, e_un, e_op1, e_op1e, e_add, e_adds, e_addl, e_sub, e_mul, e_muls, e_mull, e_mulI, e_div, e_mod, e_lt, e_le, e_gt, e_ge, e_neg, e_not, e_isn, e_notn, e_nn, e_ni, e_ns, e_nb, e_nl, e_nt, e_eqs, e_eqi, e_eqb, e_eqn, e_eqni, e_eqin, e_eqns, e_eqsn, e_eqsi, e_eqis, e_eq, e_ne, e_in, e_nin, e_din, e_dnin, e_dget, e_dget1, e_and, e_andt, e_andf, e_ande, e_or, e_orf, e_ort, e_tst, e_ts, e_tse, e_band, e_bat, e_baf, e_bae, e_bor, e_bof, e_bot, e_boe, e_bnot, e_bn, e_bne, e_ife, e_iet, e_ief, e_ch, e_ch2, e_cht, e_chf, e_nil, e_cons, e_cn, e_cne, e_cnf, e_arg1, e_arg2, e_lst, e_lse, e_ls0, e_ls1, e_ls2, e_ls3, e_ls4, e_ls5, e_ls6, e_ls7, e_ls8, e_tup, e_tue, e_tu0, e_tu1, e_tu2, e_tu3, e_tu4, e_dnew, e_cb, e_cbo, e_cbe, e_lens, e_lenl, e_lent, e_lenc, e_list, e_listt, e_inti, e_intb, e_ints, e_max, e_min, e_kst, e_ktp, e_kdp, e_ki, e_ks, e_kb, e_kn, e_ktb, e_kta, e_xst, e_xtp, e_xdp, e_xbw, e_xan, e_xcb, e_xs, e_si, e_ss, e_sb, e_sn, e_slt, e_sls, e_slb, e_sdp, e_sst, e_its, e_itbl, e_ix, e_ixo, e_ixe, e_ixf, e_nop, e_som, e_smo, e_sl, e_slo, e_gsl, e_gss, e_rev, e_dg1, e_d1o, e_d1k, e_m1, e_m1o, e_call, e_cl, e_cle, e_re, e_ree, e_rt, e_rnx, e_rer, e_def0, e_def1, e_def2, e_def3, e_def4, e_def5, e_def6, e_seq, e_sqn, e_sqr, e_sqe, e_sqb, e_sqc, e_set, e_seo, e_see, e_se2, e_if, e_ift, e_iff, e_ifr, e_ret, e_rto, e_rte, e_exp, e_epo, e_epe, e_rai, e_frz, e_fro, e_frc, e_fzo, e_fzd, e_fzs, e_fzb, e_fzu, e_for, e_fos, e_fob, e_foe, e_lii, e_lio, e_tii, e_tio, e_sti, e_sto, e_r1, e_r1o, e_r2, e_r2o, e_comp, e_coo, e_cc, e_yes, e_na0, e_nas, e_nab, e_nao, e_nad, e_nau, e_naa, e_nae, e_ne0, e_nes, e_neb, e_neo, e_ned, e_neu, e_nea, e_nee, e_app, e_apo, e_sei, e_sio, e_si2, e_dput, e_dpi, e_dpb, e_dp2, e_try, e_tyn, e_tyr, e_tye, e_exs, e_exn, e_uns, e_unn, e_ber, e_ben, e_tka, e_tko, e_ise, e_ero, e_unp, e_unt, e_imi, e_ims, e_imb, e_imn, e_imt, e_im0, e_imc, List.map_cons, List.map_nil, List.cons_append, List.nil_append, List.replicate_succ, List.replicate_zero, List.length_cons, List.length_nil, List.getElem?_cons_zero, List.getElem?_cons_succ, List.set_cons_zero, List.set_cons_succ, Option.map_some, Option.map_none, Option.bind_some, Option.isSome_some, Option.isSome_none, if_true, if_false, reduceIte, Bool.and_true, Bool.true_and, Bool.and_false, Bool.false_and, Bool.or_true, Bool.true_or, Bool.or_false, Bool.false_or, Bool.not_true, Bool.not_false, Nat.reduceAdd, Nat.reduceEqDiff, Bool.false_eq_true, decide_true, decide_false, reduceCtorEq, and_self, true_and, and_true, true_or, or_true, false_or, or_false, or_self, Nat.reducePow, Nat.reduceLeDiff, Nat.reduceSub, Int.reduceLT, Int.reduceLE, Int.reduceAdd, Int.reduceSub, Int.reduceMul, Int.reduceNeg, Int.reduceEq, List.length_map, List.length_append, e_it0, e_it1, e_it2, e_it3, e_it4, e_itt0, e_itt1, e_itt2, e_itt3, e_itt4, eq_self, Int.reduceToNat, false_and, and_false, Int.reducePow, e_pla, e_ple, e_seal, hix, hp, hk0, hix2, hb]
          rfl
        | false =>
          simp only [e_var, e_ch3, e_c3o, e_cmt, e_cmf, e_cmo, e_crt, e_crf, e_r3, e_r3o, e_dg2, e_d2o, e_gd2, e_clr, e_cao, e_ext, e_exo, e_idx, e_ixl, e_fld, e_flr, e_flt, e_xtb, e_xta, e_mth, e_rrx, e_mto, e_mkt, e_mko, e_mke, e_mkx, e_mky, e_srt, e_l2, e_l2o, e_frd, e_frt, e_pair, e_pao, e_pab, e_paa, e_put, e_puo, e_puy, e_pue, e_fvs, e_fvi, e_fvb, e_fvn, e_dgt, e_dgs, e_dgi, e_dpt, e_dps, e_sdi, e_sdb, e_sml, e_smr, e_sh, e_bo, e_ow, e_dp, e_an, e_con, e_opt, e_op, e_op2, e_op2e, e_op2f, e_un, e_op1, e_op1e, e_add, e_adds, e_addl, e_sub, e_mul, e_muls, e_mull, e_mulI, e_div, e_mod, e_lt, e_le, e_gt, e_ge, e_neg, e_not, e_isn, e_notn, e_nn, e_ni, e_ns, e_nb, e_nl, e_nt, e_eqs, e_eqi, e_eqb, e_eqn, e_eqni, e_eqin, e_eqns, e_eqsn, e_eqsi, e_eqis, e_eq, e_ne, e_in, e_nin, e_din, e_dnin, e_dget, e_dget1, e_and, e_andt, e_andf, e_ande, e_or, e_orf, e_ort, e_tst, e_ts, e_tse, e_band, e_bat, e_baf, e_bae, e_bor, e_bof, e_bot, e_boe, e_bnot, e_bn, e_bne, e_ife, e_iet, e_ief, e_ch, e_ch2, e_cht, e_chf, e_nil, e_cons, e_cn, e_cne, e_cnf, e_arg1, e_arg2, e_lst, e_lse, e_ls0, e_ls1, e_ls2, e_ls3, e_ls4, e_ls5, e_ls6, e_ls7, e_ls8, e_tup, e_tue, e_tu0, e_tu1, e_tu2, e_tu3, e_tu4, e_dnew, e_cb, e_cbo, e_cbe, e_lens, e_lenl, e_lent, e_lenc, e_list, e_listt, e_inti, e_intb, e_ints, e_max, e_min, e_kst, e_ktp, e_kdp, e_ki, e_ks, e_kb, e_kn, e_ktb, e_kta, e_xst, e_xtp, e_xdp, e_xbw, e_xan, e_xcb, e_xs, e_si, e_ss, e_sb, e_sn, e_slt, e_sls, e_slb, e_sdp, e_sst, e_its, e_itbl, e_ix, e_ixo, e_ixe, e_ixf, e_nop, e_som, e_smo, e_sl, e_slo, e_gsl, e_gss, e_rev, e_dg1, e_d1o, e_d1k, e_m1, e_m1o, e_call, e_cl, e_cle, e_re, e_ree, e_rt, e_rnx, e_rer, e_def0, e_def1, e_def2, e_def3, e_def4, e_def5, e_def6, e_seq, e_sqn, e_sqr, e_sqe, e_sqb, e_sqc, e_set, e_seo, e_see, e_se2, e_if, e_ift, e_iff, e_ifr, e_ret, e_rto, e_rte, e_exp, e_epo, e_epe, e_rai, e_frz, e_fro, e_frc, e_fzo, e_fzd, e_fzs, e_fzb, e_fzu, e_for, e_fos, e_fob, e_foe, e_lii, e_lio, e_tii, e_tio, e_sti, e_sto, e_r1, e_r1o, e_r2, e_r2o, e_comp, e_coo, e_cc, e_yes, e_na0, e_nas, e_nab, e_nao, e_nad, e_nau, e_naa, e_nae, e_ne0, e_nes, e_neb, e_neo, e_ned, e_neu, e_nea, e_nee, e_app, e_apo, e_sei, e_sio, e_si2, e_dput, e_dpi, e_dpb, e_dp2, e_try, e_tyn, e_tyr, e_tye, e_exs, e_exn, e_uns, e_unn, e_ber, e_ben, e_tka, e_tko, e_ise, e_ero, e_unp, e_unt, e_imi, e_ims, e_imb, e_imn, e_imt, e_im0, e_imc, List.map_cons, List.map_nil, List.cons_append, List.nil_append, List.replicate_succ, List.replicate_zero, List.length_cons, List.length_nil, List.getElem?_cons_zero, List.getElem?_cons_succ, List.set_cons_zero, List.set_cons_succ, Option.map_some, Option.map_none, Option.bind_some, Option.isSome_some, Option.isSome_none, if_true, if_false, reduceIte, Bool.and_true, Bool.true_and, Bool.and_false, Bool.false_and, Bool.or_true, Bool.true_or, Bool.or_false, Bool.false_or, Bool.not_true, Bool.not_false, Nat.reduceAdd, Nat.reduceEqDiff, Bool.false_eq_true, decide_true, decide_false, reduceCtorEq, and_self, true_and, and_true, true_or, or_true, false_or, or_false, or_self, Nat.reducePow, Nat.reduceLeDiff, Nat.reduceSub, Int.reduceLT, Int.reduceLE, Int.reduceAdd, Int.reduceSub, Int.reduceMul, Int.reduceNeg, Int.reduceEq, List.length_map, List.length_append, e_it0, e_it1, e_it2, e_it3, e_it4, e_itt0, e_itt1, e_itt2, e_itt3, e_itt4, eq_self, Int.reduceToNat, false_and, and_false, Int.reducePow, e_pla, e_ple, e_seal, hix, hp, hk0, hix2, hb]
          exact ih
theorem due_ok (ds : List D) (h : ∀ d ∈ ds, okD d) (h42 : ds.length ≤ 42) : g_law_due [.lst ds] = .ok (.str (exS (duE ds))) ∧ (duE ds = none ∨ duE ds = some .place ∨ duE ds = some .journey) := by
  have him := okD_imms h
  have key := duL ds h him ds.length 0 .un (by omega) (fun _ _ _ => trivial)
  rw [List.drop_zero, if_pos rfl] at key
  have hr : (rng 0 1 ds.length) = (List.range ds.length).map fun i => D.int (((0 : Nat) : Int) + (i : Nat)) := by
    unfold rng
    refine List.map_congr_left fun i _ => ?_
    congr 1
    omega
  have hs := e_smr (i := (ds.length : Int)) (by omega) (by omega)
  unfold g_law_due d_law_due duE
  by_cases h1 : 2 ≤ ds.length
  · have h1' : (2 : Int) ≤ ds.length := by omega
    by_cases h2 : ds.length ≤ 40
    · have h2' : (ds.length : Int) ≤ 40 := by omega
      rw [if_pos ⟨h1, h2⟩]
      cases hc : chk none ds with
      | none =>
        rw [hc] at key
        obtain ⟨y, k1⟩ := key
        simp only [e_var, e_ch3, e_c3o, e_cmt, e_cmf, e_cmo, e_crt, e_crf, e_r3, e_r3o, e_dg2, e_d2o, e_gd2, e_clr, e_cao, e_ext, e_exo, e_idx, e_ixl, e_fld, e_flr, e_flt, e_xtb, e_xta, e_mth, e_rrx, e_mto, e_mkt, e_mko, e_mke, e_mkx, e_mky, e_srt, e_l2, e_l2o, e_frd, e_frt, e_pair, e_pao, e_pab, e_paa, e_put, e_puo, e_puy, e_pue, e_fvs, e_fvi, e_fvb, e_fvn, e_dgt, e_dgs, e_dgi, e_dpt, e_dps, e_sdi, e_sdb, e_sml, e_smr, e_sh, e_bo, e_ow, e_dp, e_an, e_con, e_opt, e_op, e_op2, e_op2e, e_op2f, e_un, e_op1, e_op1e, e_add, e_adds, e_addl, e_sub, e_mul, e_muls, e_mull, e_mulI, e_div, e_mod, e_lt, e_le, e_gt, e_ge, e_neg, e_not, e_isn, e_notn, e_nn, e_ni, e_ns, e_nb, e_nl, e_nt, e_eqs, e_eqi, e_eqb, e_eqn, e_eqni, e_eqin, e_eqns, e_eqsn, e_eqsi, e_eqis, e_eq, e_ne, e_in, e_nin, e_din, e_dnin, e_dget, e_dget1, e_and, e_andt, e_andf, e_ande, e_or, e_orf, e_ort, e_tst, e_ts, e_tse, e_band, e_bat, e_baf, e_bae, e_bor, e_bof, e_bot, e_boe, e_bnot, e_bn, e_bne, e_ife, e_iet, e_ief, e_ch, e_ch2, e_cht, e_chf, e_nil, e_cons, e_cn, e_cne, e_cnf, e_arg1, e_arg2, e_lst, e_lse, e_ls0, e_ls1, e_ls2, e_ls3, e_ls4, e_ls5, e_ls6, e_ls7, e_ls8, e_tup, e_tue, e_tu0, e_tu1, e_tu2, e_tu3, e_tu4, e_dnew, e_cb, e_cbo, e_cbe, e_lens, e_lenl, e_lent, e_lenc, e_list, e_listt, e_inti, e_intb, e_ints, e_max, e_min, e_kst, e_ktp, e_kdp, e_ki, e_ks, e_kb, e_kn, e_ktb, e_kta, e_xst, e_xtp, e_xdp, e_xbw, e_xan, e_xcb, e_xs, e_si, e_ss, e_sb, e_sn, e_slt, e_sls, e_slb, e_sdp, e_sst, e_its, e_itbl, e_ix, e_ixo, e_ixe, e_ixf, e_nop, e_som, e_smo, e_sl, e_slo, e_gsl, e_gss, e_rev, e_dg1, e_d1o, e_d1k, e_m1, e_m1o, e_call, e_cl, e_cle, e_re, e_ree, e_rt, e_rnx, e_rer, e_def0, e_def1, e_def2, e_def3, e_def4, e_def5, e_def6, e_seq, e_sqn, e_sqr, e_sqe, e_sqb, e_sqc, e_set, e_seo, e_see, e_se2, e_if, e_ift, e_iff, e_ifr, e_ret, e_rto, e_rte, e_exp, e_epo, e_epe, e_rai, e_frz, e_fro, e_frc, e_fzo, e_fzd, e_fzs, e_fzb, e_fzu, e_for, e_fos, e_fob, e_foe, e_lii, e_lio, e_tii, e_tio, e_sti, e_sto, e_r1, e_r1o, e_r2, e_r2o, e_comp, e_coo, e_cc, e_yes, e_na0, e_nas, e_nab, e_nao, e_nad, e_nau, e_naa, e_nae, e_ne0, e_nes, e_neb, e_neo, e_ned, e_neu, e_nea, e_nee, e_app, e_apo, e_sei, e_sio, e_si2, e_dput, e_dpi, e_dpb, e_dp2, e_try, e_tyn, e_tyr, e_tye, e_exs, e_exn, e_uns, e_unn, e_ber, e_ben, e_tka, e_tko, e_ise, e_ero, e_unp, e_unt, e_imi, e_ims, e_imb, e_imn, e_imt, e_im0, e_imc, List.map_cons, List.map_nil, List.cons_append, List.nil_append, List.replicate_succ, List.replicate_zero, List.length_cons, List.length_nil, List.getElem?_cons_zero, List.getElem?_cons_succ, List.set_cons_zero, List.set_cons_succ, Option.map_some, Option.map_none, Option.bind_some, Option.isSome_some, Option.isSome_none, if_true, if_false, reduceIte, Bool.and_true, Bool.true_and, Bool.and_false, Bool.false_and, Bool.or_true, Bool.true_or, Bool.or_false, Bool.false_or, Bool.not_true, Bool.not_false, Nat.reduceAdd, Nat.reduceEqDiff, Bool.false_eq_true, decide_true, decide_false, reduceCtorEq, and_self, true_and, and_true, true_or, or_true, false_or, or_false, or_self, Nat.reducePow, Nat.reduceLeDiff, Nat.reduceSub, Int.reduceLT, Int.reduceLE, Int.reduceAdd, Int.reduceSub, Int.reduceMul, Int.reduceNeg, Int.reduceEq, List.length_map, List.length_append, e_it0, e_it1, e_it2, e_it3, e_it4, e_itt0, e_itt1, e_itt2, e_itt3, e_itt4, eq_self, Int.reduceToNat, false_and, and_false, Int.reducePow, e_pla, e_ple, e_seal, h1', h2', hs, Int.toNat_natCast, hr, k1]
        rfl
      | some c =>
        rw [hc] at key
        obtain ⟨k1, k2⟩ := key
        simp only [e_var, e_ch3, e_c3o, e_cmt, e_cmf, e_cmo, e_crt, e_crf, e_r3, e_r3o, e_dg2, e_d2o, e_gd2, e_clr, e_cao, e_ext, e_exo, e_idx, e_ixl, e_fld, e_flr, e_flt, e_xtb, e_xta, e_mth, e_rrx, e_mto, e_mkt, e_mko, e_mke, e_mkx, e_mky, e_srt, e_l2, e_l2o, e_frd, e_frt, e_pair, e_pao, e_pab, e_paa, e_put, e_puo, e_puy, e_pue, e_fvs, e_fvi, e_fvb, e_fvn, e_dgt, e_dgs, e_dgi, e_dpt, e_dps, e_sdi, e_sdb, e_sml, e_smr, e_sh, e_bo, e_ow, e_dp, e_an, e_con, e_opt, e_op, e_op2, e_op2e, e_op2f, e_un, e_op1, e_op1e, e_add, e_adds, e_addl, e_sub, e_mul, e_muls, e_mull, e_mulI, e_div, e_mod, e_lt, e_le, e_gt, e_ge, e_neg, e_not, e_isn, e_notn, e_nn, e_ni, e_ns, e_nb, e_nl, e_nt, e_eqs, e_eqi, e_eqb, e_eqn, e_eqni, e_eqin, e_eqns, e_eqsn, e_eqsi, e_eqis, e_eq, e_ne, e_in, e_nin, e_din, e_dnin, e_dget, e_dget1, e_and, e_andt, e_andf, e_ande, e_or, e_orf, e_ort, e_tst, e_ts, e_tse, e_band, e_bat, e_baf, e_bae, e_bor, e_bof, e_bot, e_boe, e_bnot, e_bn, e_bne, e_ife, e_iet, e_ief, e_ch, e_ch2, e_cht, e_chf, e_nil, e_cons, e_cn, e_cne, e_cnf, e_arg1, e_arg2, e_lst, e_lse, e_ls0, e_ls1, e_ls2, e_ls3, e_ls4, e_ls5, e_ls6, e_ls7, e_ls8, e_tup, e_tue, e_tu0, e_tu1, e_tu2, e_tu3, e_tu4, e_dnew, e_cb, e_cbo, e_cbe, e_lens, e_lenl, e_lent, e_lenc, e_list, e_listt, e_inti, e_intb, e_ints, e_max, e_min, e_kst, e_ktp, e_kdp, e_ki, e_ks, e_kb, e_kn, e_ktb, e_kta, e_xst, e_xtp, e_xdp, e_xbw, e_xan, e_xcb, e_xs, e_si, e_ss, e_sb, e_sn, e_slt, e_sls, e_slb, e_sdp, e_sst, e_its, e_itbl, e_ix, e_ixo, e_ixe, e_ixf, e_nop, e_som, e_smo, e_sl, e_slo, e_gsl, e_gss, e_rev, e_dg1, e_d1o, e_d1k, e_m1, e_m1o, e_call, e_cl, e_cle, e_re, e_ree, e_rt, e_rnx, e_rer, e_def0, e_def1, e_def2, e_def3, e_def4, e_def5, e_def6, e_seq, e_sqn, e_sqr, e_sqe, e_sqb, e_sqc, e_set, e_seo, e_see, e_se2, e_if, e_ift, e_iff, e_ifr, e_ret, e_rto, e_rte, e_exp, e_epo, e_epe, e_rai, e_frz, e_fro, e_frc, e_fzo, e_fzd, e_fzs, e_fzb, e_fzu, e_for, e_fos, e_fob, e_foe, e_lii, e_lio, e_tii, e_tio, e_sti, e_sto, e_r1, e_r1o, e_r2, e_r2o, e_comp, e_coo, e_cc, e_yes, e_na0, e_nas, e_nab, e_nao, e_nad, e_nau, e_naa, e_nae, e_ne0, e_nes, e_neb, e_neo, e_ned, e_neu, e_nea, e_nee, e_app, e_apo, e_sei, e_sio, e_si2, e_dput, e_dpi, e_dpb, e_dp2, e_try, e_tyn, e_tyr, e_tye, e_exs, e_exn, e_uns, e_unn, e_ber, e_ben, e_tka, e_tko, e_ise, e_ero, e_unp, e_unt, e_imi, e_ims, e_imb, e_imn, e_imt, e_im0, e_imc, List.map_cons, List.map_nil, List.cons_append, List.nil_append, List.replicate_succ, List.replicate_zero, List.length_cons, List.length_nil, List.getElem?_cons_zero, List.getElem?_cons_succ, List.set_cons_zero, List.set_cons_succ, Option.map_some, Option.map_none, Option.bind_some, Option.isSome_some, Option.isSome_none, if_true, if_false, reduceIte, Bool.and_true, Bool.true_and, Bool.and_false, Bool.false_and, Bool.or_true, Bool.true_or, Bool.or_false, Bool.false_or, Bool.not_true, Bool.not_false, Nat.reduceAdd, Nat.reduceEqDiff, Bool.false_eq_true, decide_true, decide_false, reduceCtorEq, and_self, true_and, and_true, true_or, or_true, false_or, or_false, or_self, Nat.reducePow, Nat.reduceLeDiff, Nat.reduceSub, Int.reduceLT, Int.reduceLE, Int.reduceAdd, Int.reduceSub, Int.reduceMul, Int.reduceNeg, Int.reduceEq, List.length_map, List.length_append, e_it0, e_it1, e_it2, e_it3, e_it4, e_itt0, e_itt1, e_itt2, e_itt3, e_itt4, eq_self, Int.reduceToNat, false_and, and_false, Int.reducePow, e_pla, e_ple, e_seal, h1', h2', hs, Int.toNat_natCast, hr, k1]
        rcases k2 with rfl | rfl <;> simp
    · have h2' : ¬ (ds.length : Int) ≤ 40 := by omega
      rw [if_neg (fun z => h2 z.2)]
      simp only [e_var, e_ch3, e_c3o, e_cmt, e_cmf, e_cmo, e_crt, e_crf, e_r3, e_r3o, e_dg2, e_d2o, e_gd2, e_clr, e_cao, e_ext, e_exo, e_idx, e_ixl, e_fld, e_flr, e_flt, e_xtb, e_xta, e_mth, e_rrx, e_mto, e_mkt, e_mko, e_mke, e_mkx, e_mky, e_srt, e_l2, e_l2o, e_frd, e_frt, e_pair, e_pao, e_pab, e_paa, e_put, e_puo, e_puy, e_pue, e_fvs, e_fvi, e_fvb, e_fvn, e_dgt, e_dgs, e_dgi, e_dpt, e_dps, e_sdi, e_sdb, e_sml, e_smr, e_sh, e_bo, e_ow, e_dp, e_an, e_con, e_opt, e_op, e_op2, e_op2e, e_op2f, e_un, e_op1, e_op1e, e_add, e_adds, e_addl, e_sub, e_mul, e_muls, e_mull, e_mulI, e_div, e_mod, e_lt, e_le, e_gt, e_ge, e_neg, e_not, e_isn, e_notn, e_nn, e_ni, e_ns, e_nb, e_nl, e_nt, e_eqs, e_eqi, e_eqb, e_eqn, e_eqni, e_eqin, e_eqns, e_eqsn, e_eqsi, e_eqis, e_eq, e_ne, e_in, e_nin, e_din, e_dnin, e_dget, e_dget1, e_and, e_andt, e_andf, e_ande, e_or, e_orf, e_ort, e_tst, e_ts, e_tse, e_band, e_bat, e_baf, e_bae, e_bor, e_bof, e_bot, e_boe, e_bnot, e_bn, e_bne, e_ife, e_iet, e_ief, e_ch, e_ch2, e_cht, e_chf, e_nil, e_cons, e_cn, e_cne, e_cnf, e_arg1, e_arg2, e_lst, e_lse, e_ls0, e_ls1, e_ls2, e_ls3, e_ls4, e_ls5, e_ls6, e_ls7, e_ls8, e_tup, e_tue, e_tu0, e_tu1, e_tu2, e_tu3, e_tu4, e_dnew, e_cb, e_cbo, e_cbe, e_lens, e_lenl, e_lent, e_lenc, e_list, e_listt, e_inti, e_intb, e_ints, e_max, e_min, e_kst, e_ktp, e_kdp, e_ki, e_ks, e_kb, e_kn, e_ktb, e_kta, e_xst, e_xtp, e_xdp, e_xbw, e_xan, e_xcb, e_xs, e_si, e_ss, e_sb, e_sn, e_slt, e_sls, e_slb, e_sdp, e_sst, e_its, e_itbl, e_ix, e_ixo, e_ixe, e_ixf, e_nop, e_som, e_smo, e_sl, e_slo, e_gsl, e_gss, e_rev, e_dg1, e_d1o, e_d1k, e_m1, e_m1o, e_call, e_cl, e_cle, e_re, e_ree, e_rt, e_rnx, e_rer, e_def0, e_def1, e_def2, e_def3, e_def4, e_def5, e_def6, e_seq, e_sqn, e_sqr, e_sqe, e_sqb, e_sqc, e_set, e_seo, e_see, e_se2, e_if, e_ift, e_iff, e_ifr, e_ret, e_rto, e_rte, e_exp, e_epo, e_epe, e_rai, e_frz, e_fro, e_frc, e_fzo, e_fzd, e_fzs, e_fzb, e_fzu, e_for, e_fos, e_fob, e_foe, e_lii, e_lio, e_tii, e_tio, e_sti, e_sto, e_r1, e_r1o, e_r2, e_r2o, e_comp, e_coo, e_cc, e_yes, e_na0, e_nas, e_nab, e_nao, e_nad, e_nau, e_naa, e_nae, e_ne0, e_nes, e_neb, e_neo, e_ned, e_neu, e_nea, e_nee, e_app, e_apo, e_sei, e_sio, e_si2, e_dput, e_dpi, e_dpb, e_dp2, e_try, e_tyn, e_tyr, e_tye, e_exs, e_exn, e_uns, e_unn, e_ber, e_ben, e_tka, e_tko, e_ise, e_ero, e_unp, e_unt, e_imi, e_ims, e_imb, e_imn, e_imt, e_im0, e_imc, List.map_cons, List.map_nil, List.cons_append, List.nil_append, List.replicate_succ, List.replicate_zero, List.length_cons, List.length_nil, List.getElem?_cons_zero, List.getElem?_cons_succ, List.set_cons_zero, List.set_cons_succ, Option.map_some, Option.map_none, Option.bind_some, Option.isSome_some, Option.isSome_none, if_true, if_false, reduceIte, Bool.and_true, Bool.true_and, Bool.and_false, Bool.false_and, Bool.or_true, Bool.true_or, Bool.or_false, Bool.false_or, Bool.not_true, Bool.not_false, Nat.reduceAdd, Nat.reduceEqDiff, Bool.false_eq_true, decide_true, decide_false, reduceCtorEq, and_self, true_and, and_true, true_or, or_true, false_or, or_false, or_self, Nat.reducePow, Nat.reduceLeDiff, Nat.reduceSub, Int.reduceLT, Int.reduceLE, Int.reduceAdd, Int.reduceSub, Int.reduceMul, Int.reduceNeg, Int.reduceEq, List.length_map, List.length_append, e_it0, e_it1, e_it2, e_it3, e_it4, e_itt0, e_itt1, e_itt2, e_itt3, e_itt4, eq_self, Int.reduceToNat, false_and, and_false, Int.reducePow, e_pla, e_ple, e_seal, h1', h2']
      rfl
  · have h1' : ¬ (2 : Int) ≤ ds.length := by omega
    rw [if_neg (fun z => h1 z.1)]
    simp only [e_var, e_ch3, e_c3o, e_cmt, e_cmf, e_cmo, e_crt, e_crf, e_r3, e_r3o, e_dg2, e_d2o, e_gd2, e_clr, e_cao, e_ext, e_exo, e_idx, e_ixl, e_fld, e_flr, e_flt, e_xtb, e_xta, e_mth, e_rrx, e_mto, e_mkt, e_mko, e_mke, e_mkx, e_mky, e_srt, e_l2, e_l2o, e_frd, e_frt, e_pair, e_pao, e_pab, e_paa, e_put, e_puo, e_puy, e_pue, e_fvs, e_fvi, e_fvb, e_fvn, e_dgt, e_dgs, e_dgi, e_dpt, e_dps, e_sdi, e_sdb, e_sml, e_smr, e_sh, e_bo, e_ow, e_dp, e_an, e_con, e_opt, e_op, e_op2, e_op2e, e_op2f, e_un, e_op1, e_op1e, e_add, e_adds, e_addl, e_sub, e_mul, e_muls, e_mull, e_mulI, e_div, e_mod, e_lt, e_le, e_gt, e_ge, e_neg, e_not, e_isn, e_notn, e_nn, e_ni, e_ns, e_nb, e_nl, e_nt, e_eqs, e_eqi, e_eqb, e_eqn, e_eqni, e_eqin, e_eqns, e_eqsn, e_eqsi, e_eqis, e_eq, e_ne, e_in, e_nin, e_din, e_dnin, e_dget, e_dget1, e_and, e_andt, e_andf, e_ande, e_or, e_orf, e_ort, e_tst, e_ts, e_tse, e_band, e_bat, e_baf, e_bae, e_bor, e_bof, e_bot, e_boe, e_bnot, e_bn, e_bne, e_ife, e_iet, e_ief, e_ch, e_ch2, e_cht, e_chf, e_nil, e_cons, e_cn, e_cne, e_cnf, e_arg1, e_arg2, e_lst, e_lse, e_ls0, e_ls1, e_ls2, e_ls3, e_ls4, e_ls5, e_ls6, e_ls7, e_ls8, e_tup, e_tue, e_tu0, e_tu1, e_tu2, e_tu3, e_tu4, e_dnew, e_cb, e_cbo, e_cbe, e_lens, e_lenl, e_lent, e_lenc, e_list, e_listt, e_inti, e_intb, e_ints, e_max, e_min, e_kst, e_ktp, e_kdp, e_ki, e_ks, e_kb, e_kn, e_ktb, e_kta, e_xst, e_xtp, e_xdp, e_xbw, e_xan, e_xcb, e_xs, e_si, e_ss, e_sb, e_sn, e_slt, e_sls, e_slb, e_sdp, e_sst, e_its, e_itbl, e_ix, e_ixo, e_ixe, e_ixf, e_nop, e_som, e_smo, e_sl, e_slo, e_gsl, e_gss, e_rev, e_dg1, e_d1o, e_d1k, e_m1, e_m1o, e_call, e_cl, e_cle, e_re, e_ree, e_rt, e_rnx, e_rer, e_def0, e_def1, e_def2, e_def3, e_def4, e_def5, e_def6, e_seq, e_sqn, e_sqr, e_sqe, e_sqb, e_sqc, e_set, e_seo, e_see, e_se2, e_if, e_ift, e_iff, e_ifr, e_ret, e_rto, e_rte, e_exp, e_epo, e_epe, e_rai, e_frz, e_fro, e_frc, e_fzo, e_fzd, e_fzs, e_fzb, e_fzu, e_for, e_fos, e_fob, e_foe, e_lii, e_lio, e_tii, e_tio, e_sti, e_sto, e_r1, e_r1o, e_r2, e_r2o, e_comp, e_coo, e_cc, e_yes, e_na0, e_nas, e_nab, e_nao, e_nad, e_nau, e_naa, e_nae, e_ne0, e_nes, e_neb, e_neo, e_ned, e_neu, e_nea, e_nee, e_app, e_apo, e_sei, e_sio, e_si2, e_dput, e_dpi, e_dpb, e_dp2, e_try, e_tyn, e_tyr, e_tye, e_exs, e_exn, e_uns, e_unn, e_ber, e_ben, e_tka, e_tko, e_ise, e_ero, e_unp, e_unt, e_imi, e_ims, e_imb, e_imn, e_imt, e_im0, e_imc, List.map_cons, List.map_nil, List.cons_append, List.nil_append, List.replicate_succ, List.replicate_zero, List.length_cons, List.length_nil, List.getElem?_cons_zero, List.getElem?_cons_succ, List.set_cons_zero, List.set_cons_succ, Option.map_some, Option.map_none, Option.bind_some, Option.isSome_some, Option.isSome_none, if_true, if_false, reduceIte, Bool.and_true, Bool.true_and, Bool.and_false, Bool.false_and, Bool.or_true, Bool.true_or, Bool.or_false, Bool.false_or, Bool.not_true, Bool.not_false, Nat.reduceAdd, Nat.reduceEqDiff, Bool.false_eq_true, decide_true, decide_false, reduceCtorEq, and_self, true_and, and_true, true_or, or_true, false_or, or_false, or_self, Nat.reducePow, Nat.reduceLeDiff, Nat.reduceSub, Int.reduceLT, Int.reduceLE, Int.reduceAdd, Int.reduceSub, Int.reduceMul, Int.reduceNeg, Int.reduceEq, List.length_map, List.length_append, e_it0, e_it1, e_it2, e_it3, e_it4, e_itt0, e_itt1, e_itt2, e_itt3, e_itt4, eq_self, Int.reduceToNat, false_and, and_false, Int.reducePow, e_pla, e_ple, e_seal, h1']
    rfl


end DD

set_option maxRecDepth 100000
set_option maxHeartbeats 4000000
namespace DD
open PySem L2
theorem pl_nm {d : D} (h : isPl d = true) : ∃ s, d = .str s ∧ Nm s := by
  cases d with
  | str s =>
    rw [isPl_str, Bool.and_eq_true, Bool.and_eq_true, decide_eq_true_eq, decide_eq_true_eq, List.all_eq_true] at h
    refine ⟨s, rfl, h.1.1, h.1.2, fun c hc => ?_⟩
    have := h.2 c hc
    simpa using this
  | _ => cases h
theorem pr_no : ∀ {rows : List Rw} {a b : Str}, (∀ r ∈ rows, ¬ (r.1 = a ∧ r.2.1 = b)) → prOf rows a b = none
  | [], _, _, _ => rfl
  | r :: rs, a, b, h => by
    unfold prOf
    rw [if_neg (h r (by simp))]
    exact pr_no fun x hx => h x (by simp [hx])
theorem lawtariff_ok (ds : List D) (h : ∀ d ∈ ds, okD d) (h42 : ds.length ≤ 42) : ∃ R : List Rw, RowsOk [] R ∧ R.length ≤ 42 ∧ g_law_tariff [.lst ds] = .ok (.lst (R.map rowD)) := by
  have him := okD_imms h
  have s1 := e_smr (i := 1) (by omega) (by omega)
  have s2 := e_smr (i := (ds.length : Int)) (by omega) (by omega)
  have key := forL_inv (i := 2) (k := .st) (body := b1_law_tariff)
    (fun n δ => ∃ (R : List Rw) (x y : Slot), δ = [.bo (.lst ds), .ow (.lst (R.map rowD)), x, y] ∧ R.length ≤ n ∧ RowsOk [] R ∧ plS y = true) (fun o => False)
    (rng 1 1 ((ds.length : Int) - 1).toNat) 0 [.bo (.lst ds), .ow (.lst []), .un, .un] ⟨[], _, _, rfl, by simp, trivial, rfl⟩ (by
      rintro k d δ hd ⟨R, x, y, rfl, hL, hR, py⟩
      obtain ⟨hk, rfl⟩ := get_rng hd
      rw [Nat.zero_add] at hL ⊢
      rw [show (1 : Int) + (k : Nat) * 1 = ((k + 1 : Nat) : Int) by omega]
      refine ⟨_, e_its, ?_⟩
      obtain ⟨a, ha⟩ : ∃ a, ds[k]? = some a := ⟨_, List.getElem?_eq_getElem (by omega)⟩
      obtain ⟨b, hb⟩ : ∃ b, ds[k + 1]? = some b := ⟨_, List.getElem?_eq_getElem (by omega)⟩
      have ham := h a (List.mem_of_getElem? ha)
      have hbm := h b (List.mem_of_getElem? hb)
      have ia := item_of ha
      have ib := item_of hb
      rw [show ((k : Nat) : Int) = ((k + 1 : Nat) : Int) - 1 by omega] at ia
      have pa := lawis_ok a ham
      have pb := lawis_ok b hbm
      obtain ⟨q, hq⟩ := eqB_okD hbm ham
      have same : ∃ (R' : List Rw) (x' y' : Slot), ([.bo (.lst ds), .ow (.lst (R.map rowD)), .sh (.int ((k + 1 : Nat) : Int)), y] : Dl) = [.bo (.lst ds), .ow (.lst (R'.map rowD)), x', y'] ∧ R'.length ≤ k + 1 ∧ RowsOk [] R' ∧ plS y' = true := ⟨R, _, _, rfl, by omega, hR, py⟩
      generalize hK : ((k + 1 : Nat) : Int) = K at *
      unfold b1_law_tariff
      cases hpb : isPl b with
      | false =>
        rw [hpb] at pb
        simp only [e_var, e_ch3, e_c3o, e_cmt, e_cmf, e_cmo, e_crt, e_crf, e_r3, e_r3o, e_dg2, e_d2o, e_gd2, e_clr, e_cao, e_ext, e_exo, e_idx, e_ixl, e_fld, e_flr, e_flt, e_xtb, e_xta, e_mth, e_rrx, e_mto, e_mkt, e_mko, e_mke, e_mkx, e_mky, e_srt, e_l2, e_l2o, e_frd, e_frt, e_pair, e_pao, e_pab, e_paa, e_put, e_puo, e_puy, e_pue, e_fvs, e_fvi, e_fvb, e_fvn, e_dgt, e_dgs, e_dgi, e_dpt, e_dps, e_sdi, e_sdb, e_sml, e_smr, e_sh, e_bo, e_ow, e_dp, e_an, e_con, e_opt, e_op, e_op2, e_op2e, e_op2f, e_un, e_op1, e_op1e, e_add, e_adds, e_addl, e_sub, e_mul, e_muls, e_mull, e_mulI, e_div, e_mod, e_lt, e_le, e_gt, e_ge, e_neg, e_not, e_isn, e_notn, e_nn, e_ni, e_ns, e_nb, e_nl, e_nt, e_eqs, e_eqi, e_eqb, e_eqn, e_eqni, e_eqin, e_eqns, e_eqsn, e_eqsi, e_eqis, e_eq, e_ne, e_in, e_nin, e_din, e_dnin, e_dget, e_dget1, e_and, e_andt, e_andf, e_ande, e_or, e_orf, e_ort, e_tst, e_ts, e_tse, e_band, e_bat, e_baf, e_bae, e_bor, e_bof, e_bot, e_boe, e_bnot, e_bn, e_bne, e_ife, e_iet, e_ief, e_ch, e_ch2, e_cht, e_chf, e_nil, e_cons, e_cn, e_cne, e_cnf, e_arg1, e_arg2, e_lst, e_lse, e_ls0, e_ls1, e_ls2, e_ls3, e_ls4, e_ls5, e_ls6, e_ls7, e_ls8, e_tup, e_tue, e_tu0, e_tu1, e_tu2, e_tu3, e_tu4, e_dnew, e_cb, e_cbo, e_cbe, e_lens, e_lenl, e_lent, e_lenc, e_list, e_listt, e_inti, e_intb, e_ints, e_max, e_min, e_kst, e_ktp, e_kdp, e_ki, e_ks, e_kb, e_kn, e_ktb, e_kta, e_xst, e_xtp, e_xdp, e_xbw, e_xan, e_xcb, e_xs, e_si, e_ss, e_sb, e_sn, e_slt, e_sls, e_slb, e_sdp, e_sst, e_its, e_itbl, e_ix, e_ixo, e_ixe, e_ixf, e_nop, e_som, e_smo, e_sl, e_slo, e_gsl, e_gss, e_rev, e_dg1, e_d1o, e_d1k, e_m1, e_m1o, e_call, e_cl, e_cle, e_re, e_ree, e_rt, e_rnx, e_rer, e_def0, e_def1, e_def2, e_def3, e_def4, e_def5, e_def6, e_seq, e_sqn, e_sqr, e_sqe, e_sqb, e_sqc, e_set, e_seo, e_see, e_se2, e_if, e_ift, e_iff, e_ifr, e_ret, e_rto, e_rte, e_exp, e_epo, e_epe, e_rai, e_frz, e_fro, e_frc, e_fzo, e_fzd, e_fzs, e_fzb, e_fzu, e_for, e_fos, e_fob, e_foe, e_lii, e_lio, e_tii, e_tio, e_sti, e_sto, e_r1, e_r1o, e_r2, e_r2o, e_comp, e_coo, e_cc, e_yes, e_na0, e_nas, e_nab, e_nao, e_nad, e_nau, e_naa, e_nae, e_ne0, e_nes, e_neb, e_neo, e_ned, e_neu, e_nea, e_nee, e_app, e_apo, e_sei, e_sio, e_si2, e_dput, e_dpi, e_dpb, e_dp2, e_try, e_tyn, e_tyr, e_tye, e_exs, e_exn, e_uns, e_unn, e_ber, e_ben, e_tka, e_tko, e_ise, e_ero, e_unp, e_unt, e_imi, e_ims, e_imb, e_imn, e_imt, e_im0, e_imc, List.map_cons, List.map_nil, List.cons_append, List.nil_append, List.replicate_succ, List.replicate_zero, List.length_cons, List.length_nil, List.getElem?_cons_zero, List.getElem?_cons_succ, List.set_cons_zero, List.set_cons_succ, Option.map_some, Option.map_none, Option.bind_some, Option.isSome_some, Option.isSome_none, if_true, if_false, reduceIte, Bool.and_true, Bool.true_and, Bool.and_false, Bool.false_and, Bool.or_true, Bool.true_or, Bool.or_false, Bool.false_or, Bool.not_true, Bool.not_false, Nat.reduceAdd, Nat.reduceEqDiff, Bool.false_eq_true, decide_true, decide_false, reduceCtorEq, and_self, true_and, and_true, true_or, or_true, false_or, or_false, or_self, Nat.reducePow, Nat.reduceLeDiff, Nat.reduceSub, Int.reduceLT, Int.reduceLE, Int.reduceAdd, Int.reduceSub, Int.reduceMul, Int.reduceNeg, Int.reduceEq, List.length_map, List.length_append, e_it0, e_it1, e_it2, e_it3, e_it4, e_itt0, e_itt1, e_itt2, e_itt3, e_itt4, eq_self, Int.reduceToNat, false_and, and_false, Int.reducePow, e_pla, e_ple, e_seal, ib, pb]
        exact same
      | true =>
        rw [hpb] at pb
        cases hpa : isPl a with
        | false =>
          rw [hpa] at pa
          simp only [e_var, e_ch3, e_c3o, e_cmt, e_cmf, e_cmo, e_crt, e_crf, e_r3, e_r3o, e_dg2, e_d2o, e_gd2, e_clr, e_cao, e_ext, e_exo, e_idx, e_ixl, e_fld, e_flr, e_flt, e_xtb, e_xta, e_mth, e_rrx, e_mto, e_mkt, e_mko, e_mke, e_mkx, e_mky, e_srt, e_l2, e_l2o, e_frd, e_frt, e_pair, e_pao, e_pab, e_paa, e_put, e_puo, e_puy, e_pue, e_fvs, e_fvi, e_fvb, e_fvn, e_dgt, e_dgs, e_dgi, e_dpt, e_dps, e_sdi, e_sdb, e_sml, e_smr, e_sh, e_bo, e_ow, e_dp, e_an, e_con, e_opt, e_op, e_op2, e_op2e, e_op2f, e_un, e_op1, e_op1e, e_add, e_adds, e_addl, e_sub, e_mul, e_muls, e_mull, e_mulI, e_div, e_mod, e_lt, e_le, e_gt, e_ge, e_neg, e_not, e_isn, e_notn, e_nn, e_ni, e_ns, e_nb, e_nl, e_nt, e_eqs, e_eqi, e_eqb, e_eqn, e_eqni, e_eqin, e_eqns, e_eqsn, e_eqsi, e_eqis, e_eq, e_ne, e_in, e_nin, e_din, e_dnin, e_dget, e_dget1, e_and, e_andt, e_andf, e_ande, e_or, e_orf, e_ort, e_tst, e_ts, e_tse, e_band, e_bat, e_baf, e_bae, e_bor, e_bof, e_bot, e_boe, e_bnot, e_bn, e_bne, e_ife, e_iet, e_ief, e_ch, e_ch2, e_cht, e_chf, e_nil, e_cons, e_cn, e_cne, e_cnf, e_arg1, e_arg2, e_lst, e_lse, e_ls0, e_ls1, e_ls2, e_ls3, e_ls4, e_ls5, e_ls6, e_ls7, e_ls8, e_tup, e_tue, e_tu0, e_tu1, e_tu2, e_tu3, e_tu4, e_dnew, e_cb, e_cbo, e_cbe, e_lens, e_lenl, e_lent, e_lenc, e_list, e_listt, e_inti, e_intb, e_ints, e_max, e_min, e_kst, e_ktp, e_kdp, e_ki, e_ks, e_kb, e_kn, e_ktb, e_kta, e_xst, e_xtp, e_xdp, e_xbw, e_xan, e_xcb, e_xs, e_si, e_ss, e_sb, e_sn, e_slt, e_sls, e_slb, e_sdp, e_sst, e_its, e_itbl, e_ix, e_ixo, e_ixe, e_ixf, e_nop, e_som, e_smo, e_sl, e_slo, e_gsl, e_gss, e_rev, e_dg1, e_d1o, e_d1k, e_m1, e_m1o, e_call, e_cl, e_cle, e_re, e_ree, e_rt, e_rnx, e_rer, e_def0, e_def1, e_def2, e_def3, e_def4, e_def5, e_def6, e_seq, e_sqn, e_sqr, e_sqe, e_sqb, e_sqc, e_set, e_seo, e_see, e_se2, e_if, e_ift, e_iff, e_ifr, e_ret, e_rto, e_rte, e_exp, e_epo, e_epe, e_rai, e_frz, e_fro, e_frc, e_fzo, e_fzd, e_fzs, e_fzb, e_fzu, e_for, e_fos, e_fob, e_foe, e_lii, e_lio, e_tii, e_tio, e_sti, e_sto, e_r1, e_r1o, e_r2, e_r2o, e_comp, e_coo, e_cc, e_yes, e_na0, e_nas, e_nab, e_nao, e_nad, e_nau, e_naa, e_nae, e_ne0, e_nes, e_neb, e_neo, e_ned, e_neu, e_nea, e_nee, e_app, e_apo, e_sei, e_sio, e_si2, e_dput, e_dpi, e_dpb, e_dp2, e_try, e_tyn, e_tyr, e_tye, e_exs, e_exn, e_uns, e_unn, e_ber, e_ben, e_tka, e_tko, e_ise, e_ero, e_unp, e_unt, e_imi, e_ims, e_imb, e_imn, e_imt, e_im0, e_imc, List.map_cons, List.map_nil, List.cons_append, List.nil_append, List.replicate_succ, List.replicate_zero, List.length_cons, List.length_nil, List.getElem?_cons_zero, List.getElem?_cons_succ, List.set_cons_zero, List.set_cons_succ, Option.map_some, Option.map_none, Option.bind_some, Option.isSome_some, Option.isSome_none, if_true, if_false, reduceIte, Bool.and_true, Bool.true_and, Bool.and_false, Bool.false_and, Bool.or_true, Bool.true_or, Bool.or_false, Bool.false_or, Bool.not_true, Bool.not_false, Nat.reduceAdd, Nat.reduceEqDiff, Bool.false_eq_true, decide_true, decide_false, reduceCtorEq, and_self, true_and, and_true, true_or, or_true, false_or, or_false, or_self, Nat.reducePow, Nat.reduceLeDiff, Nat.reduceSub, Int.reduceLT, Int.reduceLE, Int.reduceAdd, Int.reduceSub, Int.reduceMul, Int.reduceNeg, Int.reduceEq, List.length_map, List.length_append, e_it0, e_it1, e_it2, e_it3, e_it4, e_itt0, e_itt1, e_itt2, e_itt3, e_itt4, eq_self, Int.reduceToNat, false_and, and_false, Int.reducePow, e_pla, e_ple, e_seal, ib, pb, ia, pa]
          exact same
        | true =>
          rw [hpa] at pa
          cases q with
          | true =>
            simp only [e_var, e_ch3, e_c3o, e_cmt, e_cmf, e_cmo, e_crt, e_crf, e_r3, e_r3o, e_dg2, e_d2o, e_gd2, e_clr, e_cao, e_ext, e_exo, e_idx, e_ixl, e_fld, e_flr, e_flt, e_xtb, e_xta, e_mth, e_rrx, e_mto, e_mkt, e_mko, e_mke, e_mkx, e_mky, e_srt, e_l2, e_l2o, e_frd, e_frt, e_pair, e_pao, e_pab, e_paa, e_put, e_puo, e_puy, e_pue, e_fvs, e_fvi, e_fvb, e_fvn, e_dgt, e_dgs, e_dgi, e_dpt, e_dps, e_sdi, e_sdb, e_sml, e_smr, e_sh, e_bo, e_ow, e_dp, e_an, e_con, e_opt, e_op, e_op2, e_op2e, e_op2f, e_un, e_op1, e_op1e, e_add, e_adds, e_addl, e_sub, e_mul, e_muls, e_mull, e_mulI, e_div, e_mod, e_lt, e_le, e_gt, e_ge, e_neg, e_not, e_isn, e_notn, e_nn, e_ni, e_ns, e_nb, e_nl, e_nt, e_eqs, e_eqi, e_eqb, e_eqn, e_eqni, e_eqin, e_eqns, e_eqsn, e_eqsi, e_eqis, e_eq, e_ne, e_in, e_nin, e_din, e_dnin, e_dget, e_dget1, e_and, e_andt, e_andf, e_ande, e_or, e_orf, e_ort, e_tst, e_ts, e_tse, e_band, e_bat, e_baf, e_bae, e_bor, e_bof, e_bot, e_boe, e_bnot, e_bn, e_bne, e_ife, e_iet, e_ief, e_ch, e_ch2, e_cht, e_chf, e_nil, e_cons, e_cn, e_cne, e_cnf, e_arg1, e_arg2, e_lst, e_lse, e_ls0, e_ls1, e_ls2, e_ls3, e_ls4, e_ls5, e_ls6, e_ls7, e_ls8, e_tup, e_tue, e_tu0, e_tu1, e_tu2, e_tu3, e_tu4, e_dnew, e_cb, e_cbo, e_cbe, e_lens, e_lenl, e_lent, e_lenc, e_list, e_listt, e_inti, e_intb, e_ints, e_max, e_min, e_kst, e_ktp, e_kdp, e_ki, e_ks, e_kb, e_kn, e_ktb, e_kta, e_xst, e_xtp, e_xdp, e_xbw, e_xan, e_xcb, e_xs, e_si, e_ss, e_sb, e_sn, e_slt, e_sls, e_slb, e_sdp, e_sst, e_its, e_itbl, e_ix, e_ixo, e_ixe, e_ixf, e_nop, e_som, e_smo, e_sl, e_slo, e_gsl, e_gss, e_rev, e_dg1, e_d1o, e_d1k, e_m1, e_m1o, e_call, e_cl, e_cle, e_re, e_ree, e_rt, e_rnx, e_rer, e_def0, e_def1, e_def2, e_def3, e_def4, e_def5, e_def6, e_seq, e_sqn, e_sqr, e_sqe, e_sqb, e_sqc, e_set, e_seo, e_see, e_se2, e_if, e_ift, e_iff, e_ifr, e_ret, e_rto, e_rte, e_exp, e_epo, e_epe, e_rai, e_frz, e_fro, e_frc, e_fzo, e_fzd, e_fzs, e_fzb, e_fzu, e_for, e_fos, e_fob, e_foe, e_lii, e_lio, e_tii, e_tio, e_sti, e_sto, e_r1, e_r1o, e_r2, e_r2o, e_comp, e_coo, e_cc, e_yes, e_na0, e_nas, e_nab, e_nao, e_nad, e_nau, e_naa, e_nae, e_ne0, e_nes, e_neb, e_neo, e_ned, e_neu, e_nea, e_nee, e_app, e_apo, e_sei, e_sio, e_si2, e_dput, e_dpi, e_dpb, e_dp2, e_try, e_tyn, e_tyr, e_tye, e_exs, e_exn, e_uns, e_unn, e_ber, e_ben, e_tka, e_tko, e_ise, e_ero, e_unp, e_unt, e_imi, e_ims, e_imb, e_imn, e_imt, e_im0, e_imc, List.map_cons, List.map_nil, List.cons_append, List.nil_append, List.replicate_succ, List.replicate_zero, List.length_cons, List.length_nil, List.getElem?_cons_zero, List.getElem?_cons_succ, List.set_cons_zero, List.set_cons_succ, Option.map_some, Option.map_none, Option.bind_some, Option.isSome_some, Option.isSome_none, if_true, if_false, reduceIte, Bool.and_true, Bool.true_and, Bool.and_false, Bool.false_and, Bool.or_true, Bool.true_or, Bool.or_false, Bool.false_or, Bool.not_true, Bool.not_false, Nat.reduceAdd, Nat.reduceEqDiff, Bool.false_eq_true, decide_true, decide_false, reduceCtorEq, and_self, true_and, and_true, true_or, or_true, false_or, or_false, or_self, Nat.reducePow, Nat.reduceLeDiff, Nat.reduceSub, Int.reduceLT, Int.reduceLE, Int.reduceAdd, Int.reduceSub, Int.reduceMul, Int.reduceNeg, Int.reduceEq, List.length_map, List.length_append, e_it0, e_it1, e_it2, e_it3, e_it4, e_itt0, e_itt1, e_itt2, e_itt3, e_itt4, eq_self, Int.reduceToNat, false_and, and_false, Int.reducePow, e_pla, e_ple, e_seal, ib, pb, ia, pa, hq]
            exact same
          | false =>
            obtain ⟨s, rfl, hs⟩ := pl_nm hpa
            obtain ⟨t, rfl, ht⟩ := pl_nm hpb
            have hne : ¬ t = s := by
              rw [e_eqs] at hq
              simpa using Option.some.inj hq
            have key := compL_if (i := 3) (p := t1_law_tariff) (f := e1_law_tariff) (δ := [.bo (.lst ds), .ow (.lst (R.map rowD)), .sh (.int K), .un]) (fun d => match d with
                | .tup [.str u, .str v, _] => decide (u = s) && decide (v = t)
                | _ => false) (fun _ => .int 1) (R.map rowD) [] (by
              intro d hd
              obtain ⟨r, hr, rfl⟩ := List.mem_map.mp hd
              rw [show rowD r = .tup [.str r.1, .str r.2.1, .int r.2.2] from rfl]
              unfold t1_law_tariff
              by_cases e1 : r.1 = s
              · simp only [e_var, e_ch3, e_c3o, e_cmt, e_cmf, e_cmo, e_crt, e_crf, e_r3, e_r3o, e_dg2, e_d2o, e_gd2, e_clr, e_cao, e_ext, e_exo, e_idx, e_ixl, e_fld, e_flr, e_flt, e_xtb, e_xta, e_mth, e_rrx, e_mto, e_mkt, e_mko, e_mke, e_mkx, e_mky, e_srt, e_l2, e_l2o, e_frd, e_frt, e_pair, e_pao, e_pab, e_paa, e_put, e_puo, e_puy, e_pue, e_fvs, e_fvi, e_fvb, e_fvn, e_dgt, e_dgs, e_dgi, e_dpt, e_dps, e_sdi, e_sdb, e_sml, e_smr, e_sh, e_bo, e_ow, e_dp, e_an, e_con, e_opt, e_op, e_op2, e_op2e, e_op2f, e_un, e_op1, e_op1e, e_add, e_adds, e_addl, e_sub, e_mul, e_muls, e_mull, e_mulI, e_div, e_mod, e_lt, e_le, e_gt, e_ge, e_neg, e_not, e_isn, e_notn, e_nn, e_ni, e_ns, e_nb, e_nl, e_nt, e_eqs, e_eqi, e_eqb, e_eqn, e_eqni, e_eqin, e_eqns, e_eqsn, e_eqsi, e_eqis, e_eq, e_ne, e_in, e_nin, e_din, e_dnin, e_dget, e_dget1, e_and, e_andt, e_andf, e_ande, e_or, e_orf, e_ort, e_tst, e_ts, e_tse, e_band, e_bat, e_baf, e_bae, e_bor, e_bof, e_bot, e_boe, e_bnot, e_bn, e_bne, e_ife, e_iet, e_ief, e_ch, e_ch2, e_cht, e_chf, e_nil, e_cons, e_cn, e_cne, e_cnf, e_arg1, e_arg2, e_lst, e_lse, e_ls0, e_ls1, e_ls2, e_ls3, e_ls4, e_ls5, e_ls6, e_ls7, e_ls8, e_tup, e_tue, e_tu0, e_tu1, e_tu2, e_tu3, e_tu4, e_dnew, e_cb, e_cbo, e_cbe, e_lens, e_lenl, e_lent, e_lenc, e_list, e_listt, e_inti, e_intb, e_ints, e_max, e_min, e_kst, e_ktp, e_kdp, e_ki, e_ks, e_kb, e_kn, e_ktb, e_kta, e_xst, e_xtp, e_xdp, e_xbw, e_xan, e_xcb, e_xs, e_si, e_ss, e_sb, e_sn, e_slt, e_sls, e_slb, e_sdp, e_sst, e_its, e_itbl, e_ix, e_ixo, e_ixe, e_ixf, e_nop, e_som, e_smo, e_sl, e_slo, e_gsl, e_gss, e_rev, e_dg1, e_d1o, e_d1k, e_m1, e_m1o, e_call, e_cl, e_cle, e_re, e_ree, e_rt, e_rnx, e_rer, e_def0, e_def1, e_def2, e_def3, e_def4, e_def5, e_def6, e_seq, e_sqn, e_sqr, e_sqe, e_sqb, e_sqc, e_set, e_seo, e_see, e_se2, e_if, e_ift, e_iff, e_ifr, e_ret, e_rto, e_rte, e_exp, e_epo, e_epe, e_rai, e_frz, e_fro, e_frc, e_fzo, e_fzd, e_fzs, e_fzb, e_fzu, e_for, e_fos, e_fob, e_foe, e_lii, e_lio, e_tii, e_tio, e_sti, e_sto, e_r1, e_r1o, e_r2, e_r2o, e_comp, e_coo, e_cc, e_yes, e_na0, e_nas, e_nab, e_nao, e_nad, e_nau, e_naa, e_nae, e_ne0, e_nes, e_neb, e_neo, e_ned, e_neu, e_nea, e_nee, e_app, e_apo, e_sei, e_sio, e_si2, e_dput, e_dpi, e_dpb, e_dp2, e_try, e_tyn, e_tyr, e_tye, e_exs, e_exn, e_uns, e_unn, e_ber, e_ben, e_tka, e_tko, e_ise, e_ero, e_unp, e_unt, e_imi, e_ims, e_imb, e_imn, e_imt, e_im0, e_imc, List.map_cons, List.map_nil, List.cons_append, List.nil_append, List.replicate_succ, List.replicate_zero, List.length_cons, List.length_nil, List.getElem?_cons_zero, List.getElem?_cons_succ, List.set_cons_zero, List.set_cons_succ, Option.map_some, Option.map_none, Option.bind_some, Option.isSome_some, Option.isSome_none, if_true, if_false, reduceIte, Bool.and_true, Bool.true_and, Bool.and_false, Bool.false_and, Bool.or_true, Bool.true_or, Bool.or_false, Bool.false_or, Bool.not_true, Bool.not_false, Nat.reduceAdd, Nat.reduceEqDiff, Bool.false_eq_true, decide_true, decide_false, reduceCtorEq, and_self, true_and, and_true, true_or, or_true, false_or, or_false, or_self, Nat.reducePow, Nat.reduceLeDiff, Nat.reduceSub, Int.reduceLT, Int.reduceLE, Int.reduceAdd, Int.reduceSub, Int.reduceMul, Int.reduceNeg, Int.reduceEq, List.length_map, List.length_append, e_it0, e_it1, e_it2, e_it3, e_it4, e_itt0, e_itt1, e_itt2, e_itt3, e_itt4, eq_self, Int.reduceToNat, false_and, and_false, Int.reducePow, e_pla, e_ple, e_seal, ia, ib, e1]
              · simp only [e_var, e_ch3, e_c3o, e_cmt, e_cmf, e_cmo, e_crt, e_crf, e_r3, e_r3o, e_dg2, e_d2o, e_gd2, e_clr, e_cao, e_ext, e_exo, e_idx, e_ixl, e_fld, e_flr, e_flt, e_xtb, e_xta, e_mth, e_rrx, e_mto, e_mkt, e_mko, e_mke, e_mkx, e_mky, e_srt, e_l2, e_l2o, e_frd, e_frt, e_pair, e_pao, e_pab, e_paa, e_put, e_puo, e_puy, e_pue, e_fvs, e_fvi, e_fvb, e_fvn, e_dgt, e_dgs, e_dgi, e_dpt, e_dps, e_sdi, e_sdb, e_sml, e_smr, e_sh, e_bo, e_ow, e_dp, e_an, e_con, e_opt, e_op, e_op2, e_op2e, e_op2f, e_un, e_op1, e_op1e, e_add, e_adds, e_addl, e_sub, e_mul, e_muls, e_mull, e_mulI, e_div, e_mod, e_lt, e_le, e_gt, e_ge, e_neg, e_not, e_isn, e_notn, e_nn, e_ni, e_ns, e_nb, e_nl, e_nt, e_eqs, e_eqi, e_eqb, e_eqn, e_eqni, e_eqin, e_eqns, e_eqsn, e_eqsi, e_eqis, e_eq, e_ne, e_in, e_nin, e_din, e_dnin, e_dget, e_dget1, e_and, e_andt, e_andf, e_ande, e_or, e_orf, e_ort, e_tst, e_ts, e_tse, e_band, e_bat, e_baf, e_bae, e_bor, e_bof, e_bot, e_boe, e_bnot, e_bn, e_bne, e_ife, e_iet, e_ief, e_ch, e_ch2, e_cht, e_chf, e_nil, e_cons, e_cn, e_cne, e_cnf, e_arg1, e_arg2, e_lst, e_lse, e_ls0, e_ls1, e_ls2, e_ls3, e_ls4, e_ls5, e_ls6, e_ls7, e_ls8, e_tup, e_tue, e_tu0, e_tu1, e_tu2, e_tu3, e_tu4, e_dnew, e_cb, e_cbo, e_cbe, e_lens, e_lenl, e_lent, e_lenc, e_list, e_listt, e_inti, e_intb, e_ints, e_max, e_min, e_kst, e_ktp, e_kdp, e_ki, e_ks, e_kb, e_kn, e_ktb, e_kta, e_xst, e_xtp, e_xdp, e_xbw, e_xan, e_xcb, e_xs, e_si, e_ss, e_sb, e_sn, e_slt, e_sls, e_slb, e_sdp, e_sst, e_its, e_itbl, e_ix, e_ixo, e_ixe, e_ixf, e_nop, e_som, e_smo, e_sl, e_slo, e_gsl, e_gss, e_rev, e_dg1, e_d1o, e_d1k, e_m1, e_m1o, e_call, e_cl, e_cle, e_re, e_ree, e_rt, e_rnx, e_rer, e_def0, e_def1, e_def2, e_def3, e_def4, e_def5, e_def6, e_seq, e_sqn, e_sqr, e_sqe, e_sqb, e_sqc, e_set, e_seo, e_see, e_se2, e_if, e_ift, e_iff, e_ifr, e_ret, e_rto, e_rte, e_exp, e_epo, e_epe, e_rai, e_frz, e_fro, e_frc, e_fzo, e_fzd, e_fzs, e_fzb, e_fzu, e_for, e_fos, e_fob, e_foe, e_lii, e_lio, e_tii, e_tio, e_sti, e_sto, e_r1, e_r1o, e_r2, e_r2o, e_comp, e_coo, e_cc, e_yes, e_na0, e_nas, e_nab, e_nao, e_nad, e_nau, e_naa, e_nae, e_ne0, e_nes, e_neb, e_neo, e_ned, e_neu, e_nea, e_nee, e_app, e_apo, e_sei, e_sio, e_si2, e_dput, e_dpi, e_dpb, e_dp2, e_try, e_tyn, e_tyr, e_tye, e_exs, e_exn, e_uns, e_unn, e_ber, e_ben, e_tka, e_tko, e_ise, e_ero, e_unp, e_unt, e_imi, e_ims, e_imb, e_imn, e_imt, e_im0, e_imc, List.map_cons, List.map_nil, List.cons_append, List.nil_append, List.replicate_succ, List.replicate_zero, List.length_cons, List.length_nil, List.getElem?_cons_zero, List.getElem?_cons_succ, List.set_cons_zero, List.set_cons_succ, Option.map_some, Option.map_none, Option.bind_some, Option.isSome_some, Option.isSome_none, if_true, if_false, reduceIte, Bool.and_true, Bool.true_and, Bool.and_false, Bool.false_and, Bool.or_true, Bool.true_or, Bool.or_false, Bool.false_or, Bool.not_true, Bool.not_false, Nat.reduceAdd, Nat.reduceEqDiff, Bool.false_eq_true, decide_true, decide_false, reduceCtorEq, and_self, true_and, and_true, true_or, or_true, false_or, or_false, or_self, Nat.reducePow, Nat.reduceLeDiff, Nat.reduceSub, Int.reduceLT, Int.reduceLE, Int.reduceAdd, Int.reduceSub, Int.reduceMul, Int.reduceNeg, Int.reduceEq, List.length_map, List.length_append, e_it0, e_it1, e_it2, e_it3, e_it4, e_itt0, e_itt1, e_itt2, e_itt3, e_itt4, eq_self, Int.reduceToNat, false_and, and_false, Int.reducePow, e_pla, e_ple, e_seal, ia, ib, e1]) (by
              intro d hd _
              exact ⟨.st, rfl, rfl⟩) (size_le (by simp; omega))
            rw [List.nil_append] at key
            have hn := okD_nil (ds := ((R.map rowD).filter (fun d => match d with
                | .tup [.str u, .str v, _] => decide (u = s) && decide (v = t)
                | _ => false)).map fun _ => D.int 1) (fun d hd => by
              obtain ⟨_, _, rfl⟩ := List.mem_map.mp hd
              trivial)
            have hi := okD_imms (ds := ((R.map rowD).filter (fun d => match d with
                | .tup [.str u, .str v, _] => decide (u = s) && decide (v = t)
                | _ => false)).map fun _ => D.int 1) (fun d hd => by
              obtain ⟨_, _, rfl⟩ := List.mem_map.mp hd
              trivial)
            cases hem : (((R.map rowD).filter (fun d => match d with
                | .tup [.str u, .str v, _] => decide (u = s) && decide (v = t)
                | _ => false)).map fun _ => D.int 1).isEmpty with
            | false =>
              rw [hem] at hn
              simp only [e_var, e_ch3, e_c3o, e_cmt, e_cmf, e_cmo, e_crt, e_crf, e_r3, e_r3o, e_dg2, e_d2o, e_gd2, e_clr, e_cao, e_ext, e_exo, e_idx, e_ixl, e_fld, e_flr, e_flt, e_xtb, e_xta, e_mth, e_rrx, e_mto, e_mkt, e_mko, e_mke, e_mkx, e_mky, e_srt, e_l2, e_l2o, e_frd, e_frt, e_pair, e_pao, e_pab, e_paa, e_put, e_puo, e_puy, e_pue, e_fvs, e_fvi, e_fvb, e_fvn, e_dgt, e_dgs, e_dgi, e_dpt, e_dps, e_sdi, e_sdb, e_sml, e_smr, e_sh, e_bo, e_ow, e_dp, e_an, e_con, e_opt, e_op, e_op2, e_op2e, e_op2f, e_un, e_op1, e_op1e, e_add, e_adds, e_addl, e_sub, e_mul, e_muls, e_mull, e_mulI, e_div, e_mod, e_lt, e_le, e_gt, e_ge, e_neg, e_not, e_isn, e_notn, e_nn, e_ni, e_ns, e_nb, e_nl, e_nt, e_eqs, e_eqi, e_eqb, e_eqn, e_eqni, e_eqin, e_eqns, e_eqsn, e_eqsi, e_eqis, e_eq, e_ne, e_in, e_nin, e_din, e_dnin, e_dget, e_dget1, e_and, e_andt, e_andf, e_ande, e_or, e_orf, e_ort, e_tst, e_ts, e_tse, e_band, e_bat, e_baf, e_bae, e_bor, e_bof, e_bot, e_boe, e_bnot, e_bn, e_bne, e_ife, e_iet, e_ief, e_ch, e_ch2, e_cht, e_chf, e_nil, e_cons, e_cn, e_cne, e_cnf, e_arg1, e_arg2, e_lst, e_lse, e_ls0, e_ls1, e_ls2, e_ls3, e_ls4, e_ls5, e_ls6, e_ls7, e_ls8, e_tup, e_tue, e_tu0, e_tu1, e_tu2, e_tu3, e_tu4, e_dnew, e_cb, e_cbo, e_cbe, e_lens, e_lenl, e_lent, e_lenc, e_list, e_listt, e_inti, e_intb, e_ints, e_max, e_min, e_kst, e_ktp, e_kdp, e_ki, e_ks, e_kb, e_kn, e_ktb, e_kta, e_xst, e_xtp, e_xdp, e_xbw, e_xan, e_xcb, e_xs, e_si, e_ss, e_sb, e_sn, e_slt, e_sls, e_slb, e_sdp, e_sst, e_its, e_itbl, e_ix, e_ixo, e_ixe, e_ixf, e_nop, e_som, e_smo, e_sl, e_slo, e_gsl, e_gss, e_rev, e_dg1, e_d1o, e_d1k, e_m1, e_m1o, e_call, e_cl, e_cle, e_re, e_ree, e_rt, e_rnx, e_rer, e_def0, e_def1, e_def2, e_def3, e_def4, e_def5, e_def6, e_seq, e_sqn, e_sqr, e_sqe, e_sqb, e_sqc, e_set, e_seo, e_see, e_se2, e_if, e_ift, e_iff, e_ifr, e_ret, e_rto, e_rte, e_exp, e_epo, e_epe, e_rai, e_frz, e_fro, e_frc, e_fzo, e_fzd, e_fzs, e_fzb, e_fzu, e_for, e_fos, e_fob, e_foe, e_lii, e_lio, e_tii, e_tio, e_sti, e_sto, e_r1, e_r1o, e_r2, e_r2o, e_comp, e_coo, e_cc, e_yes, e_na0, e_nas, e_nab, e_nao, e_nad, e_nau, e_naa, e_nae, e_ne0, e_nes, e_neb, e_neo, e_ned, e_neu, e_nea, e_nee, e_app, e_apo, e_sei, e_sio, e_si2, e_dput, e_dpi, e_dpb, e_dp2, e_try, e_tyn, e_tyr, e_tye, e_exs, e_exn, e_uns, e_unn, e_ber, e_ben, e_tka, e_tko, e_ise, e_ero, e_unp, e_unt, e_imi, e_ims, e_imb, e_imn, e_imt, e_im0, e_imc, List.map_cons, List.map_nil, List.cons_append, List.nil_append, List.replicate_succ, List.replicate_zero, List.length_cons, List.length_nil, List.getElem?_cons_zero, List.getElem?_cons_succ, List.set_cons_zero, List.set_cons_succ, Option.map_some, Option.map_none, Option.bind_some, Option.isSome_some, Option.isSome_none, if_true, if_false, reduceIte, Bool.and_true, Bool.true_and, Bool.and_false, Bool.false_and, Bool.or_true, Bool.true_or, Bool.or_false, Bool.false_or, Bool.not_true, Bool.not_false, Nat.reduceAdd, Nat.reduceEqDiff, Bool.false_eq_true, decide_true, decide_false, reduceCtorEq, and_self, true_and, and_true, true_or, or_true, false_or, or_false, or_self, Nat.reducePow, Nat.reduceLeDiff, Nat.reduceSub, Int.reduceLT, Int.reduceLE, Int.reduceAdd, Int.reduceSub, Int.reduceMul, Int.reduceNeg, Int.reduceEq, List.length_map, List.length_append, e_it0, e_it1, e_it2, e_it3, e_it4, e_itt0, e_itt1, e_itt2, e_itt3, e_itt4, eq_self, Int.reduceToNat, false_and, and_false, Int.reducePow, e_pla, e_ple, e_seal, ib, pb, ia, pa, hq, key, hn, hi, py]
              exact ⟨R, _, _, rfl, by omega, hR, py⟩
            | true =>
              rw [hem] at hn
              have hsm := e_sml (i := 3) (by omega) (by omega)
              have hlt : R.length < sizeLine := lt_sz (by omega)
              simp only [e_var, e_ch3, e_c3o, e_cmt, e_cmf, e_cmo, e_crt, e_crf, e_r3, e_r3o, e_dg2, e_d2o, e_gd2, e_clr, e_cao, e_ext, e_exo, e_idx, e_ixl, e_fld, e_flr, e_flt, e_xtb, e_xta, e_mth, e_rrx, e_mto, e_mkt, e_mko, e_mke, e_mkx, e_mky, e_srt, e_l2, e_l2o, e_frd, e_frt, e_pair, e_pao, e_pab, e_paa, e_put, e_puo, e_puy, e_pue, e_fvs, e_fvi, e_fvb, e_fvn, e_dgt, e_dgs, e_dgi, e_dpt, e_dps, e_sdi, e_sdb, e_sml, e_smr, e_sh, e_bo, e_ow, e_dp, e_an, e_con, e_opt, e_op, e_op2, e_op2e, e_op2f, e_un, e_op1, e_op1e, e_add, e_adds, e_addl, e_sub, e_mul, e_muls, e_mull, e_mulI, e_div, e_mod, e_lt, e_le, e_gt, e_ge, e_neg, e_not, e_isn, e_notn, e_nn, e_ni, e_ns, e_nb, e_nl, e_nt, e_eqs, e_eqi, e_eqb, e_eqn, e_eqni, e_eqin, e_eqns, e_eqsn, e_eqsi, e_eqis, e_eq, e_ne, e_in, e_nin, e_din, e_dnin, e_dget, e_dget1, e_and, e_andt, e_andf, e_ande, e_or, e_orf, e_ort, e_tst, e_ts, e_tse, e_band, e_bat, e_baf, e_bae, e_bor, e_bof, e_bot, e_boe, e_bnot, e_bn, e_bne, e_ife, e_iet, e_ief, e_ch, e_ch2, e_cht, e_chf, e_nil, e_cons, e_cn, e_cne, e_cnf, e_arg1, e_arg2, e_lst, e_lse, e_ls0, e_ls1, e_ls2, e_ls3, e_ls4, e_ls5, e_ls6, e_ls7, e_ls8, e_tup, e_tue, e_tu0, e_tu1, e_tu2, e_tu3, e_tu4, e_dnew, e_cb, e_cbo, e_cbe, e_lens, e_lenl, e_lent, e_lenc, e_list, e_listt, e_inti, e_intb, e_ints, e_max, e_min, e_kst, e_ktp, e_kdp, e_ki, e_ks, e_kb, e_kn, e_ktb, e_kta, e_xst, e_xtp, e_xdp, e_xbw, e_xan, e_xcb, e_xs, e_si, e_ss, e_sb, e_sn, e_slt, e_sls, e_slb, e_sdp, e_sst, e_its, e_itbl, e_ix, e_ixo, e_ixe, e_ixf, e_nop, e_som, e_smo, e_sl, e_slo, e_gsl, e_gss, e_rev, e_dg1, e_d1o, e_d1k, e_m1, e_m1o, e_call, e_cl, e_cle, e_re, e_ree, e_rt, e_rnx, e_rer, e_def0, e_def1, e_def2, e_def3, e_def4, e_def5, e_def6, e_seq, e_sqn, e_sqr, e_sqe, e_sqb, e_sqc, e_set, e_seo, e_see, e_se2, e_if, e_ift, e_iff, e_ifr, e_ret, e_rto, e_rte, e_exp, e_epo, e_epe, e_rai, e_frz, e_fro, e_frc, e_fzo, e_fzd, e_fzs, e_fzb, e_fzu, e_for, e_fos, e_fob, e_foe, e_lii, e_lio, e_tii, e_tio, e_sti, e_sto, e_r1, e_r1o, e_r2, e_r2o, e_comp, e_coo, e_cc, e_yes, e_na0, e_nas, e_nab, e_nao, e_nad, e_nau, e_naa, e_nae, e_ne0, e_nes, e_neb, e_neo, e_ned, e_neu, e_nea, e_nee, e_app, e_apo, e_sei, e_sio, e_si2, e_dput, e_dpi, e_dpb, e_dp2, e_try, e_tyn, e_tyr, e_tye, e_exs, e_exn, e_uns, e_unn, e_ber, e_ben, e_tka, e_tko, e_ise, e_ero, e_unp, e_unt, e_imi, e_ims, e_imb, e_imn, e_imt, e_im0, e_imc, List.map_cons, List.map_nil, List.cons_append, List.nil_append, List.replicate_succ, List.replicate_zero, List.length_cons, List.length_nil, List.getElem?_cons_zero, List.getElem?_cons_succ, List.set_cons_zero, List.set_cons_succ, Option.map_some, Option.map_none, Option.bind_some, Option.isSome_some, Option.isSome_none, if_true, if_false, reduceIte, Bool.and_true, Bool.true_and, Bool.and_false, Bool.false_and, Bool.or_true, Bool.true_or, Bool.or_false, Bool.false_or, Bool.not_true, Bool.not_false, Nat.reduceAdd, Nat.reduceEqDiff, Bool.false_eq_true, decide_true, decide_false, reduceCtorEq, and_self, true_and, and_true, true_or, or_true, false_or, or_false, or_self, Nat.reducePow, Nat.reduceLeDiff, Nat.reduceSub, Int.reduceLT, Int.reduceLE, Int.reduceAdd, Int.reduceSub, Int.reduceMul, Int.reduceNeg, Int.reduceEq, List.length_map, List.length_append, e_it0, e_it1, e_it2, e_it3, e_it4, e_itt0, e_itt1, e_itt2, e_itt3, e_itt4, eq_self, Int.reduceToNat, false_and, and_false, Int.reducePow, e_pla, e_ple, e_seal, ib, pb, ia, pa, hq, key, hn, hi, py, hsm, hlt]
              refine ⟨R ++ [(s, t, 3 * K)], _, _, by rw [rowD_snoc], by simp; omega, hR.snoc ⟨hs, ht, fun z => hne z.symm, by show 0 ≤ 3 * K; omega, by show 3 * K ≤ 1000000000000; omega, ?_⟩, py⟩
              rw [List.nil_append]
              refine pr_no fun r hr z => ?_
              rw [List.isEmpty_map, List.isEmpty_iff, List.filter_eq_nil_iff] at hem
              have := hem (rowD r) (List.mem_map.mpr ⟨r, hr, rfl⟩)
              apply this
              show (decide (r.1 = s) && decide (r.2.1 = t)) = true
              rw [decide_eq_true z.1, decide_eq_true z.2]
              rfl)
  rcases key with ⟨δ', k1, R, x, y, rfl, hL, hR, _⟩ | h
  · rw [rng_len, Nat.zero_add] at hL
    refine ⟨R, hR, by omega, ?_⟩
    unfold g_law_tariff d_law_tariff
    simp only [e_var, e_ch3, e_c3o, e_cmt, e_cmf, e_cmo, e_crt, e_crf, e_r3, e_r3o, e_dg2, e_d2o, e_gd2, e_clr, e_cao, e_ext, e_exo, e_idx, e_ixl, e_fld, e_flr, e_flt, e_xtb, e_xta, e_mth, e_rrx, e_mto, e_mkt, e_mko, e_mke, e_mkx, e_mky, e_srt, e_l2, e_l2o, e_frd, e_frt, e_pair, e_pao, e_pab, e_paa, e_put, e_puo, e_puy, e_pue, e_fvs, e_fvi, e_fvb, e_fvn, e_dgt, e_dgs, e_dgi, e_dpt, e_dps, e_sdi, e_sdb, e_sml, e_smr, e_sh, e_bo, e_ow, e_dp, e_an, e_con, e_opt, e_op, e_op2, e_op2e, e_op2f, e_un, e_op1, e_op1e, e_add, e_adds, e_addl, e_sub, e_mul, e_muls, e_mull, e_mulI, e_div, e_mod, e_lt, e_le, e_gt, e_ge, e_neg, e_not, e_isn, e_notn, e_nn, e_ni, e_ns, e_nb, e_nl, e_nt, e_eqs, e_eqi, e_eqb, e_eqn, e_eqni, e_eqin, e_eqns, e_eqsn, e_eqsi, e_eqis, e_eq, e_ne, e_in, e_nin, e_din, e_dnin, e_dget, e_dget1, e_and, e_andt, e_andf, e_ande, e_or, e_orf, e_ort, e_tst, e_ts, e_tse, e_band, e_bat, e_baf, e_bae, e_bor, e_bof, e_bot, e_boe, e_bnot, e_bn, e_bne, e_ife, e_iet, e_ief, e_ch, e_ch2, e_cht, e_chf, e_nil, e_cons, e_cn, e_cne, e_cnf, e_arg1, e_arg2, e_lst, e_lse, e_ls0, e_ls1, e_ls2, e_ls3, e_ls4, e_ls5, e_ls6, e_ls7, e_ls8, e_tup, e_tue, e_tu0, e_tu1, e_tu2, e_tu3, e_tu4, e_dnew, e_cb, e_cbo, e_cbe, e_lens, e_lenl, e_lent, e_lenc, e_list, e_listt, e_inti, e_intb, e_ints, e_max, e_min, e_kst, e_ktp, e_kdp, e_ki, e_ks, e_kb, e_kn, e_ktb, e_kta, e_xst, e_xtp, e_xdp, e_xbw, e_xan, e_xcb, e_xs, e_si, e_ss, e_sb, e_sn, e_slt, e_sls, e_slb, e_sdp, e_sst, e_its, e_itbl, e_ix, e_ixo, e_ixe, e_ixf, e_nop, e_som, e_smo, e_sl, e_slo, e_gsl, e_gss, e_rev, e_dg1, e_d1o, e_d1k, e_m1, e_m1o, e_call, e_cl, e_cle, e_re, e_ree, e_rt, e_rnx, e_rer, e_def0, e_def1, e_def2, e_def3, e_def4, e_def5, e_def6, e_seq, e_sqn, e_sqr, e_sqe, e_sqb, e_sqc, e_set, e_seo, e_see, e_se2, e_if, e_ift, e_iff, e_ifr, e_ret, e_rto, e_rte, e_exp, e_epo, e_epe, e_rai, e_frz, e_fro, e_frc, e_fzo, e_fzd, e_fzs, e_fzb, e_fzu, e_for, e_fos, e_fob, e_foe, e_lii, e_lio, e_tii, e_tio, e_sti, e_sto, e_r1, e_r1o, e_r2, e_r2o, e_comp, e_coo, e_cc, e_yes, e_na0, e_nas, e_nab, e_nao, e_nad, e_nau, e_naa, e_nae, e_ne0, e_nes, e_neb, e_neo, e_ned, e_neu, e_nea, e_nee, e_app, e_apo, e_sei, e_sio, e_si2, e_dput, e_dpi, e_dpb, e_dp2, e_try, e_tyn, e_tyr, e_tye, e_exs, e_exn, e_uns, e_unn, e_ber, e_ben, e_tka, e_tko, e_ise, e_ero, e_unp, e_unt, e_imi, e_ims, e_imb, e_imn, e_imt, e_im0, e_imc, List.map_cons, List.map_nil, List.cons_append, List.nil_append, List.replicate_succ, List.replicate_zero, List.length_cons, List.length_nil, List.getElem?_cons_zero, List.getElem?_cons_succ, List.set_cons_zero, List.set_cons_succ, Option.map_some, Option.map_none, Option.bind_some, Option.isSome_some, Option.isSome_none, if_true, if_false, reduceIte, Bool.and_true, Bool.true_and, Bool.and_false, Bool.false_and, Bool.or_true, Bool.true_or, Bool.or_false, Bool.false_or, Bool.not_true, Bool.not_false, Nat.reduceAdd, Nat.reduceEqDiff, Bool.false_eq_true, decide_true, decide_false, reduceCtorEq, and_self, true_and, and_true, true_or, or_true, false_or, or_false, or_self, Nat.reducePow, Nat.reduceLeDiff, Nat.reduceSub, Int.reduceLT, Int.reduceLE, Int.reduceAdd, Int.reduceSub, Int.reduceMul, Int.reduceNeg, Int.reduceEq, List.length_map, List.length_append, e_it0, e_it1, e_it2, e_it3, e_it4, e_itt0, e_itt1, e_itt2, e_itt3, e_itt4, eq_self, Int.reduceToNat, false_and, and_false, Int.reducePow, e_pla, e_ple, e_seal, s1, s2, k1]
  · exact h.elim


end DD

set_option maxRecDepth 100000
set_option maxHeartbeats 4000000
namespace DD
open PySem L2
theorem deed_er (p : Int) (R : List Rw) (ds : List D) {c : Ex} (h : ∀ d ∈ ds, okD d) (h42 : ds.length ≤ 42) (hd : duE ds = some c) : g_law_deed [.int p, .tar R, .lst ds] = .er c := by
  have hn := need_ok ds h
  rw [hd] at hn
  simp only at hn
  have hfa : ∀ a b, g_fault [.tar R, .lst ds, .int a, .int b] = .er c := fun a b => by
    unfold g_fault d_fault
    simp only [e_var, e_ch3, e_c3o, e_cmt, e_cmf, e_cmo, e_crt, e_crf, e_r3, e_r3o, e_dg2, e_d2o, e_gd2, e_clr, e_cao, e_ext, e_exo, e_idx, e_ixl, e_fld, e_flr, e_flt, e_xtb, e_xta, e_mth, e_rrx, e_mto, e_mkt, e_mko, e_mke, e_mkx, e_mky, e_srt, e_l2, e_l2o, e_frd, e_frt, e_pair, e_pao, e_pab, e_paa, e_put, e_puo, e_puy, e_pue, e_fvs, e_fvi, e_fvb, e_fvn, e_dgt, e_dgs, e_dgi, e_dpt, e_dps, e_sdi, e_sdb, e_sml, e_smr, e_sh, e_bo, e_ow, e_dp, e_an, e_con, e_opt, e_op, e_op2, e_op2e, e_op2f, e_un, e_op1, e_op1e, e_add, e_adds, e_addl, e_sub, e_mul, e_muls, e_mull, e_mulI, e_div, e_mod, e_lt, e_le, e_gt, e_ge, e_neg, e_not, e_isn, e_notn, e_nn, e_ni, e_ns, e_nb, e_nl, e_nt, e_eqs, e_eqi, e_eqb, e_eqn, e_eqni, e_eqin, e_eqns, e_eqsn, e_eqsi, e_eqis, e_eq, e_ne, e_in, e_nin, e_din, e_dnin, e_dget, e_dget1, e_and, e_andt, e_andf, e_ande, e_or, e_orf, e_ort, e_tst, e_ts, e_tse, e_band, e_bat, e_baf, e_bae, e_bor, e_bof, e_bot, e_boe, e_bnot, e_bn, e_bne, e_ife, e_iet, e_ief, e_ch, e_ch2, e_cht, e_chf, e_nil, e_cons, e_cn, e_cne, e_cnf, e_arg1, e_arg2, e_lst, e_lse, e_ls0, e_ls1, e_ls2, e_ls3, e_ls4, e_ls5, e_ls6, e_ls7, e_ls8, e_tup, e_tue, e_tu0, e_tu1, e_tu2, e_tu3, e_tu4, e_dnew, e_cb, e_cbo, e_cbe, e_lens, e_lenl, e_lent, e_lenc, e_list, e_listt, e_inti, e_intb, e_ints, e_max, e_min, e_kst, e_ktp, e_kdp, e_ki, e_ks, e_kb, e_kn, e_ktb, e_kta, e_xst, e_xtp, e_xdp, e_xbw, e_xan, e_xcb, e_xs, e_si, e_ss, e_sb, e_sn, e_slt, e_sls, e_slb, e_sdp, e_sst, e_its, e_itbl, e_ix, e_ixo, e_ixe, e_ixf, e_nop, e_som, e_smo, e_sl, e_slo, e_gsl, e_gss, e_rev, e_dg1, e_d1o, e_d1k, e_m1, e_m1o, e_call, e_cl, e_cle, e_re, e_ree, e_rt, e_rnx, e_rer, e_def0, e_def1, e_def2, e_def3, e_def4, e_def5, e_def6, e_seq, e_sqn, e_sqr, e_sqe, e_sqb, e_sqc, e_set, e_seo, e_see, e_se2, e_if, e_ift, e_iff, e_ifr, e_ret, e_rto, e_rte, e_exp, e_epo, e_epe, e_rai, e_frz, e_fro, e_frc, e_fzo, e_fzd, e_fzs, e_fzb, e_fzu, e_for, e_fos, e_fob, e_foe, e_lii, e_lio, e_tii, e_tio, e_sti, e_sto, e_r1, e_r1o, e_r2, e_r2o, e_comp, e_coo, e_cc, e_yes, e_na0, e_nas, e_nab, e_nao, e_nad, e_nau, e_naa, e_nae, e_ne0, e_nes, e_neb, e_neo, e_ned, e_neu, e_nea, e_nee, e_app, e_apo, e_sei, e_sio, e_si2, e_dput, e_dpi, e_dpb, e_dp2, e_try, e_tyn, e_tyr, e_tye, e_exs, e_exn, e_uns, e_unn, e_ber, e_ben, e_tka, e_tko, e_ise, e_ero, e_unp, e_unt, e_imi, e_ims, e_imb, e_imn, e_imt, e_im0, e_imc, List.map_cons, List.map_nil, List.cons_append, List.nil_append, List.replicate_succ, List.replicate_zero, List.length_cons, List.length_nil, List.getElem?_cons_zero, List.getElem?_cons_succ, List.set_cons_zero, List.set_cons_succ, Option.map_some, Option.map_none, Option.bind_some, Option.isSome_some, Option.isSome_none, if_true, if_false, reduceIte, Bool.and_true, Bool.true_and, Bool.and_false, Bool.false_and, Bool.or_true, Bool.true_or, Bool.or_false, Bool.false_or, Bool.not_true, Bool.not_false, Nat.reduceAdd, Nat.reduceEqDiff, Bool.false_eq_true, decide_true, decide_false, reduceCtorEq, and_self, true_and, and_true, true_or, or_true, false_or, or_false, or_self, Nat.reducePow, Nat.reduceLeDiff, Nat.reduceSub, Int.reduceLT, Int.reduceLE, Int.reduceAdd, Int.reduceSub, Int.reduceMul, Int.reduceNeg, Int.reduceEq, List.length_map, List.length_append, e_it0, e_it1, e_it2, e_it3, e_it4, e_itt0, e_itt1, e_itt2, e_itt3, e_itt4, eq_self, Int.reduceToNat, false_and, and_false, Int.reducePow, e_pla, e_ple, e_seal, hn]
  have hhe : g_held [.tar R, .lst ds] = .er c := by
    unfold g_held d_held
    simp only [e_var, e_ch3, e_c3o, e_cmt, e_cmf, e_cmo, e_crt, e_crf, e_r3, e_r3o, e_dg2, e_d2o, e_gd2, e_clr, e_cao, e_ext, e_exo, e_idx, e_ixl, e_fld, e_flr, e_flt, e_xtb, e_xta, e_mth, e_rrx, e_mto, e_mkt, e_mko, e_mke, e_mkx, e_mky, e_srt, e_l2, e_l2o, e_frd, e_frt, e_pair, e_pao, e_pab, e_paa, e_put, e_puo, e_puy, e_pue, e_fvs, e_fvi, e_fvb, e_fvn, e_dgt, e_dgs, e_dgi, e_dpt, e_dps, e_sdi, e_sdb, e_sml, e_smr, e_sh, e_bo, e_ow, e_dp, e_an, e_con, e_opt, e_op, e_op2, e_op2e, e_op2f, e_un, e_op1, e_op1e, e_add, e_adds, e_addl, e_sub, e_mul, e_muls, e_mull, e_mulI, e_div, e_mod, e_lt, e_le, e_gt, e_ge, e_neg, e_not, e_isn, e_notn, e_nn, e_ni, e_ns, e_nb, e_nl, e_nt, e_eqs, e_eqi, e_eqb, e_eqn, e_eqni, e_eqin, e_eqns, e_eqsn, e_eqsi, e_eqis, e_eq, e_ne, e_in, e_nin, e_din, e_dnin, e_dget, e_dget1, e_and, e_andt, e_andf, e_ande, e_or, e_orf, e_ort, e_tst, e_ts, e_tse, e_band, e_bat, e_baf, e_bae, e_bor, e_bof, e_bot, e_boe, e_bnot, e_bn, e_bne, e_ife, e_iet, e_ief, e_ch, e_ch2, e_cht, e_chf, e_nil, e_cons, e_cn, e_cne, e_cnf, e_arg1, e_arg2, e_lst, e_lse, e_ls0, e_ls1, e_ls2, e_ls3, e_ls4, e_ls5, e_ls6, e_ls7, e_ls8, e_tup, e_tue, e_tu0, e_tu1, e_tu2, e_tu3, e_tu4, e_dnew, e_cb, e_cbo, e_cbe, e_lens, e_lenl, e_lent, e_lenc, e_list, e_listt, e_inti, e_intb, e_ints, e_max, e_min, e_kst, e_ktp, e_kdp, e_ki, e_ks, e_kb, e_kn, e_ktb, e_kta, e_xst, e_xtp, e_xdp, e_xbw, e_xan, e_xcb, e_xs, e_si, e_ss, e_sb, e_sn, e_slt, e_sls, e_slb, e_sdp, e_sst, e_its, e_itbl, e_ix, e_ixo, e_ixe, e_ixf, e_nop, e_som, e_smo, e_sl, e_slo, e_gsl, e_gss, e_rev, e_dg1, e_d1o, e_d1k, e_m1, e_m1o, e_call, e_cl, e_cle, e_re, e_ree, e_rt, e_rnx, e_rer, e_def0, e_def1, e_def2, e_def3, e_def4, e_def5, e_def6, e_seq, e_sqn, e_sqr, e_sqe, e_sqb, e_sqc, e_set, e_seo, e_see, e_se2, e_if, e_ift, e_iff, e_ifr, e_ret, e_rto, e_rte, e_exp, e_epo, e_epe, e_rai, e_frz, e_fro, e_frc, e_fzo, e_fzd, e_fzs, e_fzb, e_fzu, e_for, e_fos, e_fob, e_foe, e_lii, e_lio, e_tii, e_tio, e_sti, e_sto, e_r1, e_r1o, e_r2, e_r2o, e_comp, e_coo, e_cc, e_yes, e_na0, e_nas, e_nab, e_nao, e_nad, e_nau, e_naa, e_nae, e_ne0, e_nes, e_neb, e_neo, e_ned, e_neu, e_nea, e_nee, e_app, e_apo, e_sei, e_sio, e_si2, e_dput, e_dpi, e_dpb, e_dp2, e_try, e_tyn, e_tyr, e_tye, e_exs, e_exn, e_uns, e_unn, e_ber, e_ben, e_tka, e_tko, e_ise, e_ero, e_unp, e_unt, e_imi, e_ims, e_imb, e_imn, e_imt, e_im0, e_imc, List.map_cons, List.map_nil, List.cons_append, List.nil_append, List.replicate_succ, List.replicate_zero, List.length_cons, List.length_nil, List.getElem?_cons_zero, List.getElem?_cons_succ, List.set_cons_zero, List.set_cons_succ, Option.map_some, Option.map_none, Option.bind_some, Option.isSome_some, Option.isSome_none, if_true, if_false, reduceIte, Bool.and_true, Bool.true_and, Bool.and_false, Bool.false_and, Bool.or_true, Bool.true_or, Bool.or_false, Bool.false_or, Bool.not_true, Bool.not_false, Nat.reduceAdd, Nat.reduceEqDiff, Bool.false_eq_true, decide_true, decide_false, reduceCtorEq, and_self, true_and, and_true, true_or, or_true, false_or, or_false, or_self, Nat.reducePow, Nat.reduceLeDiff, Nat.reduceSub, Int.reduceLT, Int.reduceLE, Int.reduceAdd, Int.reduceSub, Int.reduceMul, Int.reduceNeg, Int.reduceEq, List.length_map, List.length_append, e_it0, e_it1, e_it2, e_it3, e_it4, e_itt0, e_itt1, e_itt2, e_itt3, e_itt4, eq_self, Int.reduceToNat, false_and, and_false, Int.reducePow, e_pla, e_ple, e_seal, hn]
  have hpr : ∀ L, g_price_of [.tar R, .lst ds, L] = .er c := fun L => by
    unfold g_price_of d_price_of
    simp only [e_var, e_ch3, e_c3o, e_cmt, e_cmf, e_cmo, e_crt, e_crf, e_r3, e_r3o, e_dg2, e_d2o, e_gd2, e_clr, e_cao, e_ext, e_exo, e_idx, e_ixl, e_fld, e_flr, e_flt, e_xtb, e_xta, e_mth, e_rrx, e_mto, e_mkt, e_mko, e_mke, e_mkx, e_mky, e_srt, e_l2, e_l2o, e_frd, e_frt, e_pair, e_pao, e_pab, e_paa, e_put, e_puo, e_puy, e_pue, e_fvs, e_fvi, e_fvb, e_fvn, e_dgt, e_dgs, e_dgi, e_dpt, e_dps, e_sdi, e_sdb, e_sml, e_smr, e_sh, e_bo, e_ow, e_dp, e_an, e_con, e_opt, e_op, e_op2, e_op2e, e_op2f, e_un, e_op1, e_op1e, e_add, e_adds, e_addl, e_sub, e_mul, e_muls, e_mull, e_mulI, e_div, e_mod, e_lt, e_le, e_gt, e_ge, e_neg, e_not, e_isn, e_notn, e_nn, e_ni, e_ns, e_nb, e_nl, e_nt, e_eqs, e_eqi, e_eqb, e_eqn, e_eqni, e_eqin, e_eqns, e_eqsn, e_eqsi, e_eqis, e_eq, e_ne, e_in, e_nin, e_din, e_dnin, e_dget, e_dget1, e_and, e_andt, e_andf, e_ande, e_or, e_orf, e_ort, e_tst, e_ts, e_tse, e_band, e_bat, e_baf, e_bae, e_bor, e_bof, e_bot, e_boe, e_bnot, e_bn, e_bne, e_ife, e_iet, e_ief, e_ch, e_ch2, e_cht, e_chf, e_nil, e_cons, e_cn, e_cne, e_cnf, e_arg1, e_arg2, e_lst, e_lse, e_ls0, e_ls1, e_ls2, e_ls3, e_ls4, e_ls5, e_ls6, e_ls7, e_ls8, e_tup, e_tue, e_tu0, e_tu1, e_tu2, e_tu3, e_tu4, e_dnew, e_cb, e_cbo, e_cbe, e_lens, e_lenl, e_lent, e_lenc, e_list, e_listt, e_inti, e_intb, e_ints, e_max, e_min, e_kst, e_ktp, e_kdp, e_ki, e_ks, e_kb, e_kn, e_ktb, e_kta, e_xst, e_xtp, e_xdp, e_xbw, e_xan, e_xcb, e_xs, e_si, e_ss, e_sb, e_sn, e_slt, e_sls, e_slb, e_sdp, e_sst, e_its, e_itbl, e_ix, e_ixo, e_ixe, e_ixf, e_nop, e_som, e_smo, e_sl, e_slo, e_gsl, e_gss, e_rev, e_dg1, e_d1o, e_d1k, e_m1, e_m1o, e_call, e_cl, e_cle, e_re, e_ree, e_rt, e_rnx, e_rer, e_def0, e_def1, e_def2, e_def3, e_def4, e_def5, e_def6, e_seq, e_sqn, e_sqr, e_sqe, e_sqb, e_sqc, e_set, e_seo, e_see, e_se2, e_if, e_ift, e_iff, e_ifr, e_ret, e_rto, e_rte, e_exp, e_epo, e_epe, e_rai, e_frz, e_fro, e_frc, e_fzo, e_fzd, e_fzs, e_fzb, e_fzu, e_for, e_fos, e_fob, e_foe, e_lii, e_lio, e_tii, e_tio, e_sti, e_sto, e_r1, e_r1o, e_r2, e_r2o, e_comp, e_coo, e_cc, e_yes, e_na0, e_nas, e_nab, e_nao, e_nad, e_nau, e_naa, e_nae, e_ne0, e_nes, e_neb, e_neo, e_ned, e_neu, e_nea, e_nee, e_app, e_apo, e_sei, e_sio, e_si2, e_dput, e_dpi, e_dpb, e_dp2, e_try, e_tyn, e_tyr, e_tye, e_exs, e_exn, e_uns, e_unn, e_ber, e_ben, e_tka, e_tko, e_ise, e_ero, e_unp, e_unt, e_imi, e_ims, e_imb, e_imn, e_imt, e_im0, e_imc, List.map_cons, List.map_nil, List.cons_append, List.nil_append, List.replicate_succ, List.replicate_zero, List.length_cons, List.length_nil, List.getElem?_cons_zero, List.getElem?_cons_succ, List.set_cons_zero, List.set_cons_succ, Option.map_some, Option.map_none, Option.bind_some, Option.isSome_some, Option.isSome_none, if_true, if_false, reduceIte, Bool.and_true, Bool.true_and, Bool.and_false, Bool.false_and, Bool.or_true, Bool.true_or, Bool.or_false, Bool.false_or, Bool.not_true, Bool.not_false, Nat.reduceAdd, Nat.reduceEqDiff, Bool.false_eq_true, decide_true, decide_false, reduceCtorEq, and_self, true_and, and_true, true_or, or_true, false_or, or_false, or_self, Nat.reducePow, Nat.reduceLeDiff, Nat.reduceSub, Int.reduceLT, Int.reduceLE, Int.reduceAdd, Int.reduceSub, Int.reduceMul, Int.reduceNeg, Int.reduceEq, List.length_map, List.length_append, e_it0, e_it1, e_it2, e_it3, e_it4, e_itt0, e_itt1, e_itt2, e_itt3, e_itt4, eq_self, Int.reduceToNat, false_and, and_false, Int.reducePow, e_pla, e_ple, e_seal, hn]
  have hle : g_left [.tar R, .lst ds] = .er c := by
    have e1 : liX (Res.er c) = .er c := rfl
    have e2 : ∀ i k δ, foX (.er c) i k δ = .er c δ := fun _ _ _ => rfl
    unfold g_left d_left
    simp only [e_var, e_ch3, e_c3o, e_cmt, e_cmf, e_cmo, e_crt, e_crf, e_r3, e_r3o, e_dg2, e_d2o, e_gd2, e_clr, e_cao, e_ext, e_exo, e_idx, e_ixl, e_fld, e_flr, e_flt, e_xtb, e_xta, e_mth, e_rrx, e_mto, e_mkt, e_mko, e_mke, e_mkx, e_mky, e_srt, e_l2, e_l2o, e_frd, e_frt, e_pair, e_pao, e_pab, e_paa, e_put, e_puo, e_puy, e_pue, e_fvs, e_fvi, e_fvb, e_fvn, e_dgt, e_dgs, e_dgi, e_dpt, e_dps, e_sdi, e_sdb, e_sml, e_smr, e_sh, e_bo, e_ow, e_dp, e_an, e_con, e_opt, e_op, e_op2, e_op2e, e_op2f, e_un, e_op1, e_op1e, e_add, e_adds, e_addl, e_sub, e_mul, e_muls, e_mull, e_mulI, e_div, e_mod, e_lt, e_le, e_gt, e_ge, e_neg, e_not, e_isn, e_notn, e_nn, e_ni, e_ns, e_nb, e_nl, e_nt, e_eqs, e_eqi, e_eqb, e_eqn, e_eqni, e_eqin, e_eqns, e_eqsn, e_eqsi, e_eqis, e_eq, e_ne, e_in, e_nin, e_din, e_dnin, e_dget, e_dget1, e_and, e_andt, e_andf, e_ande, e_or, e_orf, e_ort, e_tst, e_ts, e_tse, e_band, e_bat, e_baf, e_bae, e_bor, e_bof, e_bot, e_boe, e_bnot, e_bn, e_bne, e_ife, e_iet, e_ief, e_ch, e_ch2, e_cht, e_chf, e_nil, e_cons, e_cn, e_cne, e_cnf, e_arg1, e_arg2, e_lst, e_lse, e_ls0, e_ls1, e_ls2, e_ls3, e_ls4, e_ls5, e_ls6, e_ls7, e_ls8, e_tup, e_tue, e_tu0, e_tu1, e_tu2, e_tu3, e_tu4, e_dnew, e_cb, e_cbo, e_cbe, e_lens, e_lenl, e_lent, e_lenc, e_list, e_listt, e_inti, e_intb, e_ints, e_max, e_min, e_kst, e_ktp, e_kdp, e_ki, e_ks, e_kb, e_kn, e_ktb, e_kta, e_xst, e_xtp, e_xdp, e_xbw, e_xan, e_xcb, e_xs, e_si, e_ss, e_sb, e_sn, e_slt, e_sls, e_slb, e_sdp, e_sst, e_its, e_itbl, e_ix, e_ixo, e_ixe, e_ixf, e_nop, e_som, e_smo, e_sl, e_slo, e_gsl, e_gss, e_rev, e_dg1, e_d1o, e_d1k, e_m1, e_m1o, e_call, e_cl, e_cle, e_re, e_ree, e_rt, e_rnx, e_rer, e_def0, e_def1, e_def2, e_def3, e_def4, e_def5, e_def6, e_seq, e_sqn, e_sqr, e_sqe, e_sqb, e_sqc, e_set, e_seo, e_see, e_se2, e_if, e_ift, e_iff, e_ifr, e_ret, e_rto, e_rte, e_exp, e_epo, e_epe, e_rai, e_frz, e_fro, e_frc, e_fzo, e_fzd, e_fzs, e_fzb, e_fzu, e_for, e_fos, e_fob, e_foe, e_lii, e_lio, e_tii, e_tio, e_sti, e_sto, e_r1, e_r1o, e_r2, e_r2o, e_comp, e_coo, e_cc, e_yes, e_na0, e_nas, e_nab, e_nao, e_nad, e_nau, e_naa, e_nae, e_ne0, e_nes, e_neb, e_neo, e_ned, e_neu, e_nea, e_nee, e_app, e_apo, e_sei, e_sio, e_si2, e_dput, e_dpi, e_dpb, e_dp2, e_try, e_tyn, e_tyr, e_tye, e_exs, e_exn, e_uns, e_unn, e_ber, e_ben, e_tka, e_tko, e_ise, e_ero, e_unp, e_unt, e_imi, e_ims, e_imb, e_imn, e_imt, e_im0, e_imc, List.map_cons, List.map_nil, List.cons_append, List.nil_append, List.replicate_succ, List.replicate_zero, List.length_cons, List.length_nil, List.getElem?_cons_zero, List.getElem?_cons_succ, List.set_cons_zero, List.set_cons_succ, Option.map_some, Option.map_none, Option.bind_some, Option.isSome_some, Option.isSome_none, if_true, if_false, reduceIte, Bool.and_true, Bool.true_and, Bool.and_false, Bool.false_and, Bool.or_true, Bool.true_or, Bool.or_false, Bool.false_or, Bool.not_true, Bool.not_false, Nat.reduceAdd, Nat.reduceEqDiff, Bool.false_eq_true, decide_true, decide_false, reduceCtorEq, and_self, true_and, and_true, true_or, or_true, false_or, or_false, or_self, Nat.reducePow, Nat.reduceLeDiff, Nat.reduceSub, Int.reduceLT, Int.reduceLE, Int.reduceAdd, Int.reduceSub, Int.reduceMul, Int.reduceNeg, Int.reduceEq, List.length_map, List.length_append, e_it0, e_it1, e_it2, e_it3, e_it4, e_itt0, e_itt1, e_itt2, e_itt3, e_itt4, eq_self, Int.reduceToNat, false_and, and_false, Int.reducePow, e_pla, e_ple, e_seal, hn, e1, e2]
  have hpc : g_priced [.tar R, .lst ds] = .er c := by
    unfold g_priced d_priced
    simp only [e_var, e_ch3, e_c3o, e_cmt, e_cmf, e_cmo, e_crt, e_crf, e_r3, e_r3o, e_dg2, e_d2o, e_gd2, e_clr, e_cao, e_ext, e_exo, e_idx, e_ixl, e_fld, e_flr, e_flt, e_xtb, e_xta, e_mth, e_rrx, e_mto, e_mkt, e_mko, e_mke, e_mkx, e_mky, e_srt, e_l2, e_l2o, e_frd, e_frt, e_pair, e_pao, e_pab, e_paa, e_put, e_puo, e_puy, e_pue, e_fvs, e_fvi, e_fvb, e_fvn, e_dgt, e_dgs, e_dgi, e_dpt, e_dps, e_sdi, e_sdb, e_sml, e_smr, e_sh, e_bo, e_ow, e_dp, e_an, e_con, e_opt, e_op, e_op2, e_op2e, e_op2f, e_un, e_op1, e_op1e, e_add, e_adds, e_addl, e_sub, e_mul, e_muls, e_mull, e_mulI, e_div, e_mod, e_lt, e_le, e_gt, e_ge, e_neg, e_not, e_isn, e_notn, e_nn, e_ni, e_ns, e_nb, e_nl, e_nt, e_eqs, e_eqi, e_eqb, e_eqn, e_eqni, e_eqin, e_eqns, e_eqsn, e_eqsi, e_eqis, e_eq, e_ne, e_in, e_nin, e_din, e_dnin, e_dget, e_dget1, e_and, e_andt, e_andf, e_ande, e_or, e_orf, e_ort, e_tst, e_ts, e_tse, e_band, e_bat, e_baf, e_bae, e_bor, e_bof, e_bot, e_boe, e_bnot, e_bn, e_bne, e_ife, e_iet, e_ief, e_ch, e_ch2, e_cht, e_chf, e_nil, e_cons, e_cn, e_cne, e_cnf, e_arg1, e_arg2, e_lst, e_lse, e_ls0, e_ls1, e_ls2, e_ls3, e_ls4, e_ls5, e_ls6, e_ls7, e_ls8, e_tup, e_tue, e_tu0, e_tu1, e_tu2, e_tu3, e_tu4, e_dnew, e_cb, e_cbo, e_cbe, e_lens, e_lenl, e_lent, e_lenc, e_list, e_listt, e_inti, e_intb, e_ints, e_max, e_min, e_kst, e_ktp, e_kdp, e_ki, e_ks, e_kb, e_kn, e_ktb, e_kta, e_xst, e_xtp, e_xdp, e_xbw, e_xan, e_xcb, e_xs, e_si, e_ss, e_sb, e_sn, e_slt, e_sls, e_slb, e_sdp, e_sst, e_its, e_itbl, e_ix, e_ixo, e_ixe, e_ixf, e_nop, e_som, e_smo, e_sl, e_slo, e_gsl, e_gss, e_rev, e_dg1, e_d1o, e_d1k, e_m1, e_m1o, e_call, e_cl, e_cle, e_re, e_ree, e_rt, e_rnx, e_rer, e_def0, e_def1, e_def2, e_def3, e_def4, e_def5, e_def6, e_seq, e_sqn, e_sqr, e_sqe, e_sqb, e_sqc, e_set, e_seo, e_see, e_se2, e_if, e_ift, e_iff, e_ifr, e_ret, e_rto, e_rte, e_exp, e_epo, e_epe, e_rai, e_frz, e_fro, e_frc, e_fzo, e_fzd, e_fzs, e_fzb, e_fzu, e_for, e_fos, e_fob, e_foe, e_lii, e_lio, e_tii, e_tio, e_sti, e_sto, e_r1, e_r1o, e_r2, e_r2o, e_comp, e_coo, e_cc, e_yes, e_na0, e_nas, e_nab, e_nao, e_nad, e_nau, e_naa, e_nae, e_ne0, e_nes, e_neb, e_neo, e_ned, e_neu, e_nea, e_nee, e_app, e_apo, e_sei, e_sio, e_si2, e_dput, e_dpi, e_dpb, e_dp2, e_try, e_tyn, e_tyr, e_tye, e_exs, e_exn, e_uns, e_unn, e_ber, e_ben, e_tka, e_tko, e_ise, e_ero, e_unp, e_unt, e_imi, e_ims, e_imb, e_imn, e_imt, e_im0, e_imc, List.map_cons, List.map_nil, List.cons_append, List.nil_append, List.replicate_succ, List.replicate_zero, List.length_cons, List.length_nil, List.getElem?_cons_zero, List.getElem?_cons_succ, List.set_cons_zero, List.set_cons_succ, Option.map_some, Option.map_none, Option.bind_some, Option.isSome_some, Option.isSome_none, if_true, if_false, reduceIte, Bool.and_true, Bool.true_and, Bool.and_false, Bool.false_and, Bool.or_true, Bool.true_or, Bool.or_false, Bool.false_or, Bool.not_true, Bool.not_false, Nat.reduceAdd, Nat.reduceEqDiff, Bool.false_eq_true, decide_true, decide_false, reduceCtorEq, and_self, true_and, and_true, true_or, or_true, false_or, or_false, or_self, Nat.reducePow, Nat.reduceLeDiff, Nat.reduceSub, Int.reduceLT, Int.reduceLE, Int.reduceAdd, Int.reduceSub, Int.reduceMul, Int.reduceNeg, Int.reduceEq, List.length_map, List.length_append, e_it0, e_it1, e_it2, e_it3, e_it4, e_itt0, e_itt1, e_itt2, e_itt3, e_itt4, eq_self, Int.reduceToNat, false_and, and_false, Int.reducePow, e_pla, e_ple, e_seal, hn]
  have hpa : g_parted [.tar R, .lst ds] = .er c := by
    unfold g_parted d_parted
    simp only [e_var, e_ch3, e_c3o, e_cmt, e_cmf, e_cmo, e_crt, e_crf, e_r3, e_r3o, e_dg2, e_d2o, e_gd2, e_clr, e_cao, e_ext, e_exo, e_idx, e_ixl, e_fld, e_flr, e_flt, e_xtb, e_xta, e_mth, e_rrx, e_mto, e_mkt, e_mko, e_mke, e_mkx, e_mky, e_srt, e_l2, e_l2o, e_frd, e_frt, e_pair, e_pao, e_pab, e_paa, e_put, e_puo, e_puy, e_pue, e_fvs, e_fvi, e_fvb, e_fvn, e_dgt, e_dgs, e_dgi, e_dpt, e_dps, e_sdi, e_sdb, e_sml, e_smr, e_sh, e_bo, e_ow, e_dp, e_an, e_con, e_opt, e_op, e_op2, e_op2e, e_op2f, e_un, e_op1, e_op1e, e_add, e_adds, e_addl, e_sub, e_mul, e_muls, e_mull, e_mulI, e_div, e_mod, e_lt, e_le, e_gt, e_ge, e_neg, e_not, e_isn, e_notn, e_nn, e_ni, e_ns, e_nb, e_nl, e_nt, e_eqs, e_eqi, e_eqb, e_eqn, e_eqni, e_eqin, e_eqns, e_eqsn, e_eqsi, e_eqis, e_eq, e_ne, e_in, e_nin, e_din, e_dnin, e_dget, e_dget1, e_and, e_andt, e_andf, e_ande, e_or, e_orf, e_ort, e_tst, e_ts, e_tse, e_band, e_bat, e_baf, e_bae, e_bor, e_bof, e_bot, e_boe, e_bnot, e_bn, e_bne, e_ife, e_iet, e_ief, e_ch, e_ch2, e_cht, e_chf, e_nil, e_cons, e_cn, e_cne, e_cnf, e_arg1, e_arg2, e_lst, e_lse, e_ls0, e_ls1, e_ls2, e_ls3, e_ls4, e_ls5, e_ls6, e_ls7, e_ls8, e_tup, e_tue, e_tu0, e_tu1, e_tu2, e_tu3, e_tu4, e_dnew, e_cb, e_cbo, e_cbe, e_lens, e_lenl, e_lent, e_lenc, e_list, e_listt, e_inti, e_intb, e_ints, e_max, e_min, e_kst, e_ktp, e_kdp, e_ki, e_ks, e_kb, e_kn, e_ktb, e_kta, e_xst, e_xtp, e_xdp, e_xbw, e_xan, e_xcb, e_xs, e_si, e_ss, e_sb, e_sn, e_slt, e_sls, e_slb, e_sdp, e_sst, e_its, e_itbl, e_ix, e_ixo, e_ixe, e_ixf, e_nop, e_som, e_smo, e_sl, e_slo, e_gsl, e_gss, e_rev, e_dg1, e_d1o, e_d1k, e_m1, e_m1o, e_call, e_cl, e_cle, e_re, e_ree, e_rt, e_rnx, e_rer, e_def0, e_def1, e_def2, e_def3, e_def4, e_def5, e_def6, e_seq, e_sqn, e_sqr, e_sqe, e_sqb, e_sqc, e_set, e_seo, e_see, e_se2, e_if, e_ift, e_iff, e_ifr, e_ret, e_rto, e_rte, e_exp, e_epo, e_epe, e_rai, e_frz, e_fro, e_frc, e_fzo, e_fzd, e_fzs, e_fzb, e_fzu, e_for, e_fos, e_fob, e_foe, e_lii, e_lio, e_tii, e_tio, e_sti, e_sto, e_r1, e_r1o, e_r2, e_r2o, e_comp, e_coo, e_cc, e_yes, e_na0, e_nas, e_nab, e_nao, e_nad, e_nau, e_naa, e_nae, e_ne0, e_nes, e_neb, e_neo, e_ned, e_neu, e_nea, e_nee, e_app, e_apo, e_sei, e_sio, e_si2, e_dput, e_dpi, e_dpb, e_dp2, e_try, e_tyn, e_tyr, e_tye, e_exs, e_exn, e_uns, e_unn, e_ber, e_ben, e_tka, e_tko, e_ise, e_ero, e_unp, e_unt, e_imi, e_ims, e_imb, e_imn, e_imt, e_im0, e_imc, List.map_cons, List.map_nil, List.cons_append, List.nil_append, List.replicate_succ, List.replicate_zero, List.length_cons, List.length_nil, List.getElem?_cons_zero, List.getElem?_cons_succ, List.set_cons_zero, List.set_cons_succ, Option.map_some, Option.map_none, Option.bind_some, Option.isSome_some, Option.isSome_none, if_true, if_false, reduceIte, Bool.and_true, Bool.true_and, Bool.and_false, Bool.false_and, Bool.or_true, Bool.true_or, Bool.or_false, Bool.false_or, Bool.not_true, Bool.not_false, Nat.reduceAdd, Nat.reduceEqDiff, Bool.false_eq_true, decide_true, decide_false, reduceCtorEq, and_self, true_and, and_true, true_or, or_true, false_or, or_false, or_self, Nat.reducePow, Nat.reduceLeDiff, Nat.reduceSub, Int.reduceLT, Int.reduceLE, Int.reduceAdd, Int.reduceSub, Int.reduceMul, Int.reduceNeg, Int.reduceEq, List.length_map, List.length_append, e_it0, e_it1, e_it2, e_it3, e_it4, e_itt0, e_itt1, e_itt2, e_itt3, e_itt4, eq_self, Int.reduceToNat, false_and, and_false, Int.reducePow, e_pla, e_ple, e_seal, hpc]
  have hbi : g_bill [.tar R, .lst ds] = .er c := by
    unfold g_bill d_bill
    simp only [e_var, e_ch3, e_c3o, e_cmt, e_cmf, e_cmo, e_crt, e_crf, e_r3, e_r3o, e_dg2, e_d2o, e_gd2, e_clr, e_cao, e_ext, e_exo, e_idx, e_ixl, e_fld, e_flr, e_flt, e_xtb, e_xta, e_mth, e_rrx, e_mto, e_mkt, e_mko, e_mke, e_mkx, e_mky, e_srt, e_l2, e_l2o, e_frd, e_frt, e_pair, e_pao, e_pab, e_paa, e_put, e_puo, e_puy, e_pue, e_fvs, e_fvi, e_fvb, e_fvn, e_dgt, e_dgs, e_dgi, e_dpt, e_dps, e_sdi, e_sdb, e_sml, e_smr, e_sh, e_bo, e_ow, e_dp, e_an, e_con, e_opt, e_op, e_op2, e_op2e, e_op2f, e_un, e_op1, e_op1e, e_add, e_adds, e_addl, e_sub, e_mul, e_muls, e_mull, e_mulI, e_div, e_mod, e_lt, e_le, e_gt, e_ge, e_neg, e_not, e_isn, e_notn, e_nn, e_ni, e_ns, e_nb, e_nl, e_nt, e_eqs, e_eqi, e_eqb, e_eqn, e_eqni, e_eqin, e_eqns, e_eqsn, e_eqsi, e_eqis, e_eq, e_ne, e_in, e_nin, e_din, e_dnin, e_dget, e_dget1, e_and, e_andt, e_andf, e_ande, e_or, e_orf, e_ort, e_tst, e_ts, e_tse, e_band, e_bat, e_baf, e_bae, e_bor, e_bof, e_bot, e_boe, e_bnot, e_bn, e_bne, e_ife, e_iet, e_ief, e_ch, e_ch2, e_cht, e_chf, e_nil, e_cons, e_cn, e_cne, e_cnf, e_arg1, e_arg2, e_lst, e_lse, e_ls0, e_ls1, e_ls2, e_ls3, e_ls4, e_ls5, e_ls6, e_ls7, e_ls8, e_tup, e_tue, e_tu0, e_tu1, e_tu2, e_tu3, e_tu4, e_dnew, e_cb, e_cbo, e_cbe, e_lens, e_lenl, e_lent, e_lenc, e_list, e_listt, e_inti, e_intb, e_ints, e_max, e_min, e_kst, e_ktp, e_kdp, e_ki, e_ks, e_kb, e_kn, e_ktb, e_kta, e_xst, e_xtp, e_xdp, e_xbw, e_xan, e_xcb, e_xs, e_si, e_ss, e_sb, e_sn, e_slt, e_sls, e_slb, e_sdp, e_sst, e_its, e_itbl, e_ix, e_ixo, e_ixe, e_ixf, e_nop, e_som, e_smo, e_sl, e_slo, e_gsl, e_gss, e_rev, e_dg1, e_d1o, e_d1k, e_m1, e_m1o, e_call, e_cl, e_cle, e_re, e_ree, e_rt, e_rnx, e_rer, e_def0, e_def1, e_def2, e_def3, e_def4, e_def5, e_def6, e_seq, e_sqn, e_sqr, e_sqe, e_sqb, e_sqc, e_set, e_seo, e_see, e_se2, e_if, e_ift, e_iff, e_ifr, e_ret, e_rto, e_rte, e_exp, e_epo, e_epe, e_rai, e_frz, e_fro, e_frc, e_fzo, e_fzd, e_fzs, e_fzb, e_fzu, e_for, e_fos, e_fob, e_foe, e_lii, e_lio, e_tii, e_tio, e_sti, e_sto, e_r1, e_r1o, e_r2, e_r2o, e_comp, e_coo, e_cc, e_yes, e_na0, e_nas, e_nab, e_nao, e_nad, e_nau, e_naa, e_nae, e_ne0, e_nes, e_neb, e_neo, e_ned, e_neu, e_nea, e_nee, e_app, e_apo, e_sei, e_sio, e_si2, e_dput, e_dpi, e_dpb, e_dp2, e_try, e_tyn, e_tyr, e_tye, e_exs, e_exn, e_uns, e_unn, e_ber, e_ben, e_tka, e_tko, e_ise, e_ero, e_unp, e_unt, e_imi, e_ims, e_imb, e_imn, e_imt, e_im0, e_imc, List.map_cons, List.map_nil, List.cons_append, List.nil_append, List.replicate_succ, List.replicate_zero, List.length_cons, List.length_nil, List.getElem?_cons_zero, List.getElem?_cons_succ, List.set_cons_zero, List.set_cons_succ, Option.map_some, Option.map_none, Option.bind_some, Option.isSome_some, Option.isSome_none, if_true, if_false, reduceIte, Bool.and_true, Bool.true_and, Bool.and_false, Bool.false_and, Bool.or_true, Bool.true_or, Bool.or_false, Bool.false_or, Bool.not_true, Bool.not_false, Nat.reduceAdd, Nat.reduceEqDiff, Bool.false_eq_true, decide_true, decide_false, reduceCtorEq, and_self, true_and, and_true, true_or, or_true, false_or, or_false, or_self, Nat.reducePow, Nat.reduceLeDiff, Nat.reduceSub, Int.reduceLT, Int.reduceLE, Int.reduceAdd, Int.reduceSub, Int.reduceMul, Int.reduceNeg, Int.reduceEq, List.length_map, List.length_append, e_it0, e_it1, e_it2, e_it3, e_it4, e_itt0, e_itt1, e_itt2, e_itt3, e_itt4, eq_self, Int.reduceToNat, false_and, and_false, Int.reducePow, e_pla, e_ple, e_seal, hn]
  obtain ⟨q, hq⟩ : ∃ q, q = p % 7 := ⟨_, rfl⟩
  obtain ⟨m, hm⟩ : ∃ m, m = p / 7 % 3 := ⟨_, rfl⟩
  unfold g_law_deed d_law_deed
  rcases (show m = 0 ∨ m = 1 ∨ m = 2 by omega) with rfl | rfl | rfl <;>
  rcases (show q = 0 ∨ q = 1 ∨ q = 2 ∨ q = 3 ∨ q = 4 ∨ q = 5 ∨ q = 6 by omega) with rfl | rfl | rfl | rfl | rfl | rfl | rfl <;>
  simp only [e_var, e_ch3, e_c3o, e_cmt, e_cmf, e_cmo, e_crt, e_crf, e_r3, e_r3o, e_dg2, e_d2o, e_gd2, e_clr, e_cao, e_ext, e_exo, e_idx, e_ixl, e_fld, e_flr, e_flt, e_xtb, e_xta, e_mth, e_rrx, e_mto, e_mkt, e_mko, e_mke, e_mkx, e_mky, e_srt, e_l2, e_l2o, e_frd, e_frt, e_pair, e_pao, e_pab, e_paa, e_put, e_puo, e_puy, e_pue, e_fvs, e_fvi, e_fvb, e_fvn, e_dgt, e_dgs, e_dgi, e_dpt, e_dps, e_sdi, e_sdb, e_sml, e_smr, e_sh, e_bo, e_ow, e_dp, e_an, e_con, e_opt, e_op, e_op2, e_op2e, e_op2f, e_un, e_op1, e_op1e, e_add, e_adds, e_addl, e_sub, e_mul, e_muls, e_mull, e_mulI, e_div, e_mod, e_lt, e_le, e_gt, e_ge, e_neg, e_not, e_isn, e_notn, e_nn, e_ni, e_ns, e_nb, e_nl, e_nt, e_eqs, e_eqi, e_eqb, e_eqn, e_eqni, e_eqin, e_eqns, e_eqsn, e_eqsi, e_eqis, e_eq, e_ne, e_in, e_nin, e_din, e_dnin, e_dget, e_dget1, e_and, e_andt, e_andf, e_ande, e_or, e_orf, e_ort, e_tst, e_ts, e_tse, e_band, e_bat, e_baf, e_bae, e_bor, e_bof, e_bot, e_boe, e_bnot, e_bn, e_bne, e_ife, e_iet, e_ief, e_ch, e_ch2, e_cht, e_chf, e_nil, e_cons, e_cn, e_cne, e_cnf, e_arg1, e_arg2, e_lst, e_lse, e_ls0, e_ls1, e_ls2, e_ls3, e_ls4, e_ls5, e_ls6, e_ls7, e_ls8, e_tup, e_tue, e_tu0, e_tu1, e_tu2, e_tu3, e_tu4, e_dnew, e_cb, e_cbo, e_cbe, e_lens, e_lenl, e_lent, e_lenc, e_list, e_listt, e_inti, e_intb, e_ints, e_max, e_min, e_kst, e_ktp, e_kdp, e_ki, e_ks, e_kb, e_kn, e_ktb, e_kta, e_xst, e_xtp, e_xdp, e_xbw, e_xan, e_xcb, e_xs, e_si, e_ss, e_sb, e_sn, e_slt, e_sls, e_slb, e_sdp, e_sst, e_its, e_itbl, e_ix, e_ixo, e_ixe, e_ixf, e_nop, e_som, e_smo, e_sl, e_slo, e_gsl, e_gss, e_rev, e_dg1, e_d1o, e_d1k, e_m1, e_m1o, e_call, e_cl, e_cle, e_re, e_ree, e_rt, e_rnx, e_rer, e_def0, e_def1, e_def2, e_def3, e_def4, e_def5, e_def6, e_seq, e_sqn, e_sqr, e_sqe, e_sqb, e_sqc, e_set, e_seo, e_see, e_se2, e_if, e_ift, e_iff, e_ifr, e_ret, e_rto, e_rte, e_exp, e_epo, e_epe, e_rai, e_frz, e_fro, e_frc, e_fzo, e_fzd, e_fzs, e_fzb, e_fzu, e_for, e_fos, e_fob, e_foe, e_lii, e_lio, e_tii, e_tio, e_sti, e_sto, e_r1, e_r1o, e_r2, e_r2o, e_comp, e_coo, e_cc, e_yes, e_na0, e_nas, e_nab, e_nao, e_nad, e_nau, e_naa, e_nae, e_ne0, e_nes, e_neb, e_neo, e_ned, e_neu, e_nea, e_nee, e_app, e_apo, e_sei, e_sio, e_si2, e_dput, e_dpi, e_dpb, e_dp2, e_try, e_tyn, e_tyr, e_tye, e_exs, e_exn, e_uns, e_unn, e_ber, e_ben, e_tka, e_tko, e_ise, e_ero, e_unp, e_unt, e_imi, e_ims, e_imb, e_imn, e_imt, e_im0, e_imc, List.map_cons, List.map_nil, List.cons_append, List.nil_append, List.replicate_succ, List.replicate_zero, List.length_cons, List.length_nil, List.getElem?_cons_zero, List.getElem?_cons_succ, List.set_cons_zero, List.set_cons_succ, Option.map_some, Option.map_none, Option.bind_some, Option.isSome_some, Option.isSome_none, if_true, if_false, reduceIte, Bool.and_true, Bool.true_and, Bool.and_false, Bool.false_and, Bool.or_true, Bool.true_or, Bool.or_false, Bool.false_or, Bool.not_true, Bool.not_false, Nat.reduceAdd, Nat.reduceEqDiff, Bool.false_eq_true, decide_true, decide_false, reduceCtorEq, and_self, true_and, and_true, true_or, or_true, false_or, or_false, or_self, Nat.reducePow, Nat.reduceLeDiff, Nat.reduceSub, Int.reduceLT, Int.reduceLE, Int.reduceAdd, Int.reduceSub, Int.reduceMul, Int.reduceNeg, Int.reduceEq, List.length_map, List.length_append, e_it0, e_it1, e_it2, e_it3, e_it4, e_itt0, e_itt1, e_itt2, e_itt3, e_itt4, eq_self, Int.reduceToNat, false_and, and_false, Int.reducePow, e_pla, e_ple, e_seal, hq.symm, hm.symm, hfa, hhe, hpr, hle, hpc, hpa, hbi]


end DD

set_option maxRecDepth 100000
set_option maxHeartbeats 4000000
namespace DD
open PySem L2
def Flt (ds : List D) : Prop := ∃ k d, ds[k]? = some d ∧ (isPl d = false ∨ (0 < k ∧ ds[k - 1]? = some d))
theorem chk_all : ∀ (ds : List D) (a : Option D), chk a ds = none → ∀ k d, ds[k]? = some d → isPl d = true ∧ (0 < k → ∀ e, ds[k - 1]? = some e → eqT d e = false)
  | [], _, _, k, d, h => by simp at h
  | x :: ds, a, hc, k, d, h => by
    unfold chk at hc
    split at hc
    · cases hc
    rename_i h1
    split at hc
    · cases hc
    have ih := chk_all ds (some x) hc
    cases k with
    | zero =>
      simp at h
      subst h
      exact ⟨by simpa using h1, fun z => absurd z (by decide)⟩
    | succ k =>
      simp only [List.getElem?_cons_succ] at h
      obtain ⟨q1, q2⟩ := ih k d h
      refine ⟨q1, fun _ e he => ?_⟩
      cases k with
      | zero =>
        simp at he
        subst he
        cases ds with
        | nil => simp at h
        | cons y ds =>
          simp at h
          subst h
          unfold chk at hc
          split at hc
          · cases hc
          split at hc
          · cases hc
          rename_i h3
          simpa using h3
      | succ k => exact q2 (by omega) e (by simpa using he)
theorem flt_due {ds : List D} (h : ds = [] ∨ Flt ds) : duE ds ≠ none := by
  unfold duE
  split
  · rename_i hl
    rcases h with rfl | ⟨k, d, h1, h2⟩
    · simp at hl
    · intro hc
      obtain ⟨q1, q2⟩ := chk_all ds none hc k d h1
      rcases h2 with h2 | ⟨h2, h3⟩
      · rw [q1] at h2; cases h2
      · have := q2 h2 d h3
        obtain ⟨s, rfl, _⟩ := pl_nm q1
        rw [eqT_of e_eqs] at this
        simp at this
  · intro z; cases z
theorem okD_setn {ds : List D} {n : Nat} {d : D} (h : ∀ x ∈ ds, okD x) (hd : okD d) : ∀ x ∈ ds.set n d, okD x := fun x hx => by
  rcases List.mem_or_eq_of_mem_set hx with z | z
  · exact h x z
  · rw [z]; exact hd
theorem turn_ok (ns : List Int) (ds : List D) (h : ∀ d ∈ ds, okD d) (x y : Slot) (t : Nat) (ht : t < 2) (px : plS x = true) (py : plS y = true) : ∃ (ds' : List D) (x' y' : Slot), b1_law [.bo (.scr ns), .ow (.lst ds), .sh (.int t), x, y, .un, .un, .un, .un] = .nx [.bo (.scr ns), .ow (.lst ds'), .sh (.int t), x', y', .un, .un, .un, .un] ∧
    ds'.length = ds.length ∧ (∀ d ∈ ds', okD d) ∧ (ds' = [] ∨ Flt ds') ∧ plS x' = true ∧ plS y' = true := by
  unfold b1_law
  by_cases h0 : (0 : Int) < ds.length
  · have c1 := cell_ok ns (2 + (t : Int)) (by omega)
    have c2 := cell_ok ns (62 - (t : Int)) (by omega)
    have c3 := cell_ok ns 1 (by omega)
    generalize hP : cell ns (2 + (t : Int)) % (ds.length : Int) = P
    have p0 : 0 ≤ P := by rw [← hP]; exact Int.emod_nonneg _ (by omega)
    have p1 : P < ds.length := by rw [← hP]; exact Int.emod_lt_of_pos _ h0
    have hix := ixN_in p0 p1
    have hl := lawplace_ok (cell ns (62 - (t : Int)) / 91)
    have hpn := pn_ok (cell ns (62 - (t : Int)) / 91)
    obtain ⟨b, hb, hb1, hb2⟩ := bad_ok (cell ns (62 - (t : Int))) hpn
    have hd1 : (0 : Int) < 3 + t := by omega
    have hd2 : (3 : Int) + t < 1073741824 := by omega
    have hbk := okD_k (k := .dp) hb1
    have pl : ∀ i : Int, plS (.sh (.int i)) = true := fun _ => rfl
    have bad : ∃ (ds' : List D) (x' y' : Slot), setiO 1 (varR 3) (callR g_law_bad (consR (varR 4) (consR (callR g_law_place (consR (opR gDiv (varR 4) (conR (.int 91))) nilR)) nilR))) [.bo (.scr ns), .ow (.lst ds), .sh (.int t), .sh (.int P), .sh (.int (cell ns (62 - (t : Int)))), .un, .un, .un, .un] = .nx [.bo (.scr ns), .ow (.lst ds'), .sh (.int t), x', y', .un, .un, .un, .un] ∧
        ds'.length = ds.length ∧ (∀ d ∈ ds', okD d) ∧ (ds' = [] ∨ Flt ds') ∧ plS x' = true ∧ plS y' = true := by
      refine ⟨ds.set P.toNat b, .sh (.int P), .sh (.int (cell ns (62 - (t : Int)))), ?_, by simp, okD_setn h hb1, .inr ⟨P.toNat, b, ?_, .inl hb2⟩, rfl, rfl⟩
      · simp only [e_var, e_ch3, e_c3o, e_cmt, e_cmf, e_cmo, e_crt, e_crf, e_r3, e_r3o, e_dg2, e_d2o, e_gd2, e_clr, e_cao, e_ext, e_exo, e_idx, e_ixl, e_fld, e_flr, e_flt, e_xtb, e_xta, e_mth, e_rrx, e_mto, e_mkt, e_mko, e_mke, e_mkx, e_mky, e_srt, e_l2, e_l2o, e_frd, e_frt, e_pair, e_pao, e_pab, e_paa, e_put, e_puo, e_puy, e_pue, e_fvs, e_fvi, e_fvb, e_fvn, e_dgt, e_dgs, e_dgi, e_dpt, e_dps, e_sdi, e_sdb, e_sml, e_smr, e_sh, e_bo, e_ow, e_dp, e_an, e_con, e_opt, e_op, e_op2, e_op2e, e_op2f, e_un, e_op1, e_op1e, e_add, e_adds, e_addl, e_sub, e_mul, e_muls, e_mull, e_mulI, e_div, e_mod, e_lt, e_le, e_gt, e_ge, e_neg, e_not, e_isn, e_notn, e_nn, e_ni, e_ns, e_nb, e_nl, e_nt, e_eqs, e_eqi, e_eqb, e_eqn, e_eqni, e_eqin, e_eqns, e_eqsn, e_eqsi, e_eqis, e_eq, e_ne, e_in, e_nin, e_din, e_dnin, e_dget, e_dget1, e_and, e_andt, e_andf, e_ande, e_or, e_orf, e_ort, e_tst, e_ts, e_tse, e_band, e_bat, e_baf, e_bae, e_bor, e_bof, e_bot, e_boe, e_bnot, e_bn, e_bne, e_ife, e_iet, e_ief, e_ch, e_ch2, e_cht, e_chf, e_nil, e_cons, e_cn, e_cne, e_cnf, e_arg1, e_arg2, e_lst, e_lse, e_ls0, e_ls1, e_ls2, e_ls3, e_ls4, e_ls5, e_ls6, e_ls7, e_ls8, e_tup, e_tue, e_tu0, e_tu1, e_tu2, e_tu3, e_tu4, e_dnew, e_cb, e_cbo, e_cbe, e_lens, e_lenl, e_lent, e_lenc, e_list, e_listt, e_inti, e_intb, e_ints, e_max, e_min, e_kst, e_ktp, e_kdp, e_ki, e_ks, e_kb, e_kn, e_ktb, e_kta, e_xst, e_xtp, e_xdp, e_xbw, e_xan, e_xcb, e_xs, e_si, e_ss, e_sb, e_sn, e_slt, e_sls, e_slb, e_sdp, e_sst, e_its, e_itbl, e_ix, e_ixo, e_ixe, e_ixf, e_nop, e_som, e_smo, e_sl, e_slo, e_gsl, e_gss, e_rev, e_dg1, e_d1o, e_d1k, e_m1, e_m1o, e_call, e_cl, e_cle, e_re, e_ree, e_rt, e_rnx, e_rer, e_def0, e_def1, e_def2, e_def3, e_def4, e_def5, e_def6, e_seq, e_sqn, e_sqr, e_sqe, e_sqb, e_sqc, e_set, e_seo, e_see, e_se2, e_if, e_ift, e_iff, e_ifr, e_ret, e_rto, e_rte, e_exp, e_epo, e_epe, e_rai, e_frz, e_fro, e_frc, e_fzo, e_fzd, e_fzs, e_fzb, e_fzu, e_for, e_fos, e_fob, e_foe, e_lii, e_lio, e_tii, e_tio, e_sti, e_sto, e_r1, e_r1o, e_r2, e_r2o, e_comp, e_coo, e_cc, e_yes, e_na0, e_nas, e_nab, e_nao, e_nad, e_nau, e_naa, e_nae, e_ne0, e_nes, e_neb, e_neo, e_ned, e_neu, e_nea, e_nee, e_app, e_apo, e_sei, e_sio, e_si2, e_dput, e_dpi, e_dpb, e_dp2, e_try, e_tyn, e_tyr, e_tye, e_exs, e_exn, e_uns, e_unn, e_ber, e_ben, e_tka, e_tko, e_ise, e_ero, e_unp, e_unt, e_imi, e_ims, e_imb, e_imn, e_imt, e_im0, e_imc, List.map_cons, List.map_nil, List.cons_append, List.nil_append, List.replicate_succ, List.replicate_zero, List.length_cons, List.length_nil, List.getElem?_cons_zero, List.getElem?_cons_succ, List.set_cons_zero, List.set_cons_succ, Option.map_some, Option.map_none, Option.bind_some, Option.isSome_some, Option.isSome_none, if_true, if_false, reduceIte, Bool.and_true, Bool.true_and, Bool.and_false, Bool.false_and, Bool.or_true, Bool.true_or, Bool.or_false, Bool.false_or, Bool.not_true, Bool.not_false, Nat.reduceAdd, Nat.reduceEqDiff, Bool.false_eq_true, decide_true, decide_false, reduceCtorEq, and_self, true_and, and_true, true_or, or_true, false_or, or_false, or_self, Nat.reducePow, Nat.reduceLeDiff, Nat.reduceSub, Int.reduceLT, Int.reduceLE, Int.reduceAdd, Int.reduceSub, Int.reduceMul, Int.reduceNeg, Int.reduceEq, List.length_map, List.length_append, e_it0, e_it1, e_it2, e_it3, e_it4, e_itt0, e_itt1, e_itt2, e_itt3, e_itt4, eq_self, Int.reduceToNat, false_and, and_false, Int.reducePow, e_pla, e_ple, e_seal, hl, hb, hix, hbk]
      · rw [List.getElem?_set_self (by omega)]
    by_cases hP0 : P = 0
    · revert bad
      generalize setiO 1 (varR 3) (callR g_law_bad (consR (varR 4) (consR (callR g_law_place (consR (opR gDiv (varR 4) (conR (.int 91))) nilR)) nilR))) = K
      intro bad
      simp only [e_var, e_ch3, e_c3o, e_cmt, e_cmf, e_cmo, e_crt, e_crf, e_r3, e_r3o, e_dg2, e_d2o, e_gd2, e_clr, e_cao, e_ext, e_exo, e_idx, e_ixl, e_fld, e_flr, e_flt, e_xtb, e_xta, e_mth, e_rrx, e_mto, e_mkt, e_mko, e_mke, e_mkx, e_mky, e_srt, e_l2, e_l2o, e_frd, e_frt, e_pair, e_pao, e_pab, e_paa, e_put, e_puo, e_puy, e_pue, e_fvs, e_fvi, e_fvb, e_fvn, e_dgt, e_dgs, e_dgi, e_dpt, e_dps, e_sdi, e_sdb, e_sml, e_smr, e_sh, e_bo, e_ow, e_dp, e_an, e_con, e_opt, e_op, e_op2, e_op2e, e_op2f, e_un, e_op1, e_op1e, e_add, e_adds, e_addl, e_sub, e_mul, e_muls, e_mull, e_mulI, e_div, e_mod, e_lt, e_le, e_gt, e_ge, e_neg, e_not, e_isn, e_notn, e_nn, e_ni, e_ns, e_nb, e_nl, e_nt, e_eqs, e_eqi, e_eqb, e_eqn, e_eqni, e_eqin, e_eqns, e_eqsn, e_eqsi, e_eqis, e_eq, e_ne, e_in, e_nin, e_din, e_dnin, e_dget, e_dget1, e_and, e_andt, e_andf, e_ande, e_or, e_orf, e_ort, e_tst, e_ts, e_tse, e_band, e_bat, e_baf, e_bae, e_bor, e_bof, e_bot, e_boe, e_bnot, e_bn, e_bne, e_ife, e_iet, e_ief, e_ch, e_ch2, e_cht, e_chf, e_nil, e_cons, e_cn, e_cne, e_cnf, e_arg1, e_arg2, e_lst, e_lse, e_ls0, e_ls1, e_ls2, e_ls3, e_ls4, e_ls5, e_ls6, e_ls7, e_ls8, e_tup, e_tue, e_tu0, e_tu1, e_tu2, e_tu3, e_tu4, e_dnew, e_cb, e_cbo, e_cbe, e_lens, e_lenl, e_lent, e_lenc, e_list, e_listt, e_inti, e_intb, e_ints, e_max, e_min, e_kst, e_ktp, e_kdp, e_ki, e_ks, e_kb, e_kn, e_ktb, e_kta, e_xst, e_xtp, e_xdp, e_xbw, e_xan, e_xcb, e_xs, e_si, e_ss, e_sb, e_sn, e_slt, e_sls, e_slb, e_sdp, e_sst, e_its, e_itbl, e_ix, e_ixo, e_ixe, e_ixf, e_nop, e_som, e_smo, e_sl, e_slo, e_gsl, e_gss, e_rev, e_dg1, e_d1o, e_d1k, e_m1, e_m1o, e_call, e_cl, e_cle, e_re, e_ree, e_rt, e_rnx, e_rer, e_def0, e_def1, e_def2, e_def3, e_def4, e_def5, e_def6, e_seq, e_sqn, e_sqr, e_sqe, e_sqb, e_sqc, e_set, e_seo, e_see, e_se2, e_if, e_ift, e_iff, e_ifr, e_ret, e_rto, e_rte, e_exp, e_epo, e_epe, e_rai, e_frz, e_fro, e_frc, e_fzo, e_fzd, e_fzs, e_fzb, e_fzu, e_for, e_fos, e_fob, e_foe, e_lii, e_lio, e_tii, e_tio, e_sti, e_sto, e_r1, e_r1o, e_r2, e_r2o, e_comp, e_coo, e_cc, e_yes, e_na0, e_nas, e_nab, e_nao, e_nad, e_nau, e_naa, e_nae, e_ne0, e_nes, e_neb, e_neo, e_ned, e_neu, e_nea, e_nee, e_app, e_apo, e_sei, e_sio, e_si2, e_dput, e_dpi, e_dpb, e_dp2, e_try, e_tyn, e_tyr, e_tye, e_exs, e_exn, e_uns, e_unn, e_ber, e_ben, e_tka, e_tko, e_ise, e_ero, e_unp, e_unt, e_imi, e_ims, e_imb, e_imn, e_imt, e_im0, e_imc, List.map_cons, List.map_nil, List.cons_append, List.nil_append, List.replicate_succ, List.replicate_zero, List.length_cons, List.length_nil, List.getElem?_cons_zero, List.getElem?_cons_succ, List.set_cons_zero, List.set_cons_succ, Option.map_some, Option.map_none, Option.bind_some, Option.isSome_some, Option.isSome_none, if_true, if_false, reduceIte, Bool.and_true, Bool.true_and, Bool.and_false, Bool.false_and, Bool.or_true, Bool.true_or, Bool.or_false, Bool.false_or, Bool.not_true, Bool.not_false, Nat.reduceAdd, Nat.reduceEqDiff, Bool.false_eq_true, decide_true, decide_false, reduceCtorEq, and_self, true_and, and_true, true_or, or_true, false_or, or_false, or_self, Nat.reducePow, Nat.reduceLeDiff, Nat.reduceSub, Int.reduceLT, Int.reduceLE, Int.reduceAdd, Int.reduceSub, Int.reduceMul, Int.reduceNeg, Int.reduceEq, List.length_map, List.length_append, e_it0, e_it1, e_it2, e_it3, e_it4, e_itt0, e_itt1, e_itt2, e_itt3, e_itt4, eq_self, Int.reduceToNat, false_and, and_false, Int.reducePow, e_pla, e_ple, e_seal, h0, c1, c2, hP, hP0]
      rw [hP0] at bad
      exact bad
    · by_cases hc : cell ns 1 / (3 + (t : Int)) % 2 = 0
      · revert bad
        generalize setiO 1 (varR 3) (callR g_law_bad (consR (varR 4) (consR (callR g_law_place (consR (opR gDiv (varR 4) (conR (.int 91))) nilR)) nilR))) = K
        intro bad
        simp only [e_var, e_ch3, e_c3o, e_cmt, e_cmf, e_cmo, e_crt, e_crf, e_r3, e_r3o, e_dg2, e_d2o, e_gd2, e_clr, e_cao, e_ext, e_exo, e_idx, e_ixl, e_fld, e_flr, e_flt, e_xtb, e_xta, e_mth, e_rrx, e_mto, e_mkt, e_mko, e_mke, e_mkx, e_mky, e_srt, e_l2, e_l2o, e_frd, e_frt, e_pair, e_pao, e_pab, e_paa, e_put, e_puo, e_puy, e_pue, e_fvs, e_fvi, e_fvb, e_fvn, e_dgt, e_dgs, e_dgi, e_dpt, e_dps, e_sdi, e_sdb, e_sml, e_smr, e_sh, e_bo, e_ow, e_dp, e_an, e_con, e_opt, e_op, e_op2, e_op2e, e_op2f, e_un, e_op1, e_op1e, e_add, e_adds, e_addl, e_sub, e_mul, e_muls, e_mull, e_mulI, e_div, e_mod, e_lt, e_le, e_gt, e_ge, e_neg, e_not, e_isn, e_notn, e_nn, e_ni, e_ns, e_nb, e_nl, e_nt, e_eqs, e_eqi, e_eqb, e_eqn, e_eqni, e_eqin, e_eqns, e_eqsn, e_eqsi, e_eqis, e_eq, e_ne, e_in, e_nin, e_din, e_dnin, e_dget, e_dget1, e_and, e_andt, e_andf, e_ande, e_or, e_orf, e_ort, e_tst, e_ts, e_tse, e_band, e_bat, e_baf, e_bae, e_bor, e_bof, e_bot, e_boe, e_bnot, e_bn, e_bne, e_ife, e_iet, e_ief, e_ch, e_ch2, e_cht, e_chf, e_nil, e_cons, e_cn, e_cne, e_cnf, e_arg1, e_arg2, e_lst, e_lse, e_ls0, e_ls1, e_ls2, e_ls3, e_ls4, e_ls5, e_ls6, e_ls7, e_ls8, e_tup, e_tue, e_tu0, e_tu1, e_tu2, e_tu3, e_tu4, e_dnew, e_cb, e_cbo, e_cbe, e_lens, e_lenl, e_lent, e_lenc, e_list, e_listt, e_inti, e_intb, e_ints, e_max, e_min, e_kst, e_ktp, e_kdp, e_ki, e_ks, e_kb, e_kn, e_ktb, e_kta, e_xst, e_xtp, e_xdp, e_xbw, e_xan, e_xcb, e_xs, e_si, e_ss, e_sb, e_sn, e_slt, e_sls, e_slb, e_sdp, e_sst, e_its, e_itbl, e_ix, e_ixo, e_ixe, e_ixf, e_nop, e_som, e_smo, e_sl, e_slo, e_gsl, e_gss, e_rev, e_dg1, e_d1o, e_d1k, e_m1, e_m1o, e_call, e_cl, e_cle, e_re, e_ree, e_rt, e_rnx, e_rer, e_def0, e_def1, e_def2, e_def3, e_def4, e_def5, e_def6, e_seq, e_sqn, e_sqr, e_sqe, e_sqb, e_sqc, e_set, e_seo, e_see, e_se2, e_if, e_ift, e_iff, e_ifr, e_ret, e_rto, e_rte, e_exp, e_epo, e_epe, e_rai, e_frz, e_fro, e_frc, e_fzo, e_fzd, e_fzs, e_fzb, e_fzu, e_for, e_fos, e_fob, e_foe, e_lii, e_lio, e_tii, e_tio, e_sti, e_sto, e_r1, e_r1o, e_r2, e_r2o, e_comp, e_coo, e_cc, e_yes, e_na0, e_nas, e_nab, e_nao, e_nad, e_nau, e_naa, e_nae, e_ne0, e_nes, e_neb, e_neo, e_ned, e_neu, e_nea, e_nee, e_app, e_apo, e_sei, e_sio, e_si2, e_dput, e_dpi, e_dpb, e_dp2, e_try, e_tyn, e_tyr, e_tye, e_exs, e_exn, e_uns, e_unn, e_ber, e_ben, e_tka, e_tko, e_ise, e_ero, e_unp, e_unt, e_imi, e_ims, e_imb, e_imn, e_imt, e_im0, e_imc, List.map_cons, List.map_nil, List.cons_append, List.nil_append, List.replicate_succ, List.replicate_zero, List.length_cons, List.length_nil, List.getElem?_cons_zero, List.getElem?_cons_succ, List.set_cons_zero, List.set_cons_succ, Option.map_some, Option.map_none, Option.bind_some, Option.isSome_some, Option.isSome_none, if_true, if_false, reduceIte, Bool.and_true, Bool.true_and, Bool.and_false, Bool.false_and, Bool.or_true, Bool.true_or, Bool.or_false, Bool.false_or, Bool.not_true, Bool.not_false, Nat.reduceAdd, Nat.reduceEqDiff, Bool.false_eq_true, decide_true, decide_false, reduceCtorEq, and_self, true_and, and_true, true_or, or_true, false_or, or_false, or_self, Nat.reducePow, Nat.reduceLeDiff, Nat.reduceSub, Int.reduceLT, Int.reduceLE, Int.reduceAdd, Int.reduceSub, Int.reduceMul, Int.reduceNeg, Int.reduceEq, List.length_map, List.length_append, e_it0, e_it1, e_it2, e_it3, e_it4, e_itt0, e_itt1, e_itt2, e_itt3, e_itt4, eq_self, Int.reduceToNat, false_and, and_false, Int.reducePow, e_pla, e_ple, e_seal, h0, c1, c2, hP, hP0, c3, hc, hd1, hd2]
        exact bad
      · obtain ⟨a, ha⟩ : ∃ a, ds[P.toNat - 1]? = some a := ⟨_, List.getElem?_eq_getElem (by omega)⟩
        have ham := h a (List.mem_of_getElem? ha)
        have hia := item_of ha
        rw [show ((P.toNat - 1 : Nat) : Int) = P - 1 by omega] at hia
        have hak : ∀ k, stK a k = true := fun k => okD_k ham
        simp only [e_var, e_ch3, e_c3o, e_cmt, e_cmf, e_cmo, e_crt, e_crf, e_r3, e_r3o, e_dg2, e_d2o, e_gd2, e_clr, e_cao, e_ext, e_exo, e_idx, e_ixl, e_fld, e_flr, e_flt, e_xtb, e_xta, e_mth, e_rrx, e_mto, e_mkt, e_mko, e_mke, e_mkx, e_mky, e_srt, e_l2, e_l2o, e_frd, e_frt, e_pair, e_pao, e_pab, e_paa, e_put, e_puo, e_puy, e_pue, e_fvs, e_fvi, e_fvb, e_fvn, e_dgt, e_dgs, e_dgi, e_dpt, e_dps, e_sdi, e_sdb, e_sml, e_smr, e_sh, e_bo, e_ow, e_dp, e_an, e_con, e_opt, e_op, e_op2, e_op2e, e_op2f, e_un, e_op1, e_op1e, e_add, e_adds, e_addl, e_sub, e_mul, e_muls, e_mull, e_mulI, e_div, e_mod, e_lt, e_le, e_gt, e_ge, e_neg, e_not, e_isn, e_notn, e_nn, e_ni, e_ns, e_nb, e_nl, e_nt, e_eqs, e_eqi, e_eqb, e_eqn, e_eqni, e_eqin, e_eqns, e_eqsn, e_eqsi, e_eqis, e_eq, e_ne, e_in, e_nin, e_din, e_dnin, e_dget, e_dget1, e_and, e_andt, e_andf, e_ande, e_or, e_orf, e_ort, e_tst, e_ts, e_tse, e_band, e_bat, e_baf, e_bae, e_bor, e_bof, e_bot, e_boe, e_bnot, e_bn, e_bne, e_ife, e_iet, e_ief, e_ch, e_ch2, e_cht, e_chf, e_nil, e_cons, e_cn, e_cne, e_cnf, e_arg1, e_arg2, e_lst, e_lse, e_ls0, e_ls1, e_ls2, e_ls3, e_ls4, e_ls5, e_ls6, e_ls7, e_ls8, e_tup, e_tue, e_tu0, e_tu1, e_tu2, e_tu3, e_tu4, e_dnew, e_cb, e_cbo, e_cbe, e_lens, e_lenl, e_lent, e_lenc, e_list, e_listt, e_inti, e_intb, e_ints, e_max, e_min, e_kst, e_ktp, e_kdp, e_ki, e_ks, e_kb, e_kn, e_ktb, e_kta, e_xst, e_xtp, e_xdp, e_xbw, e_xan, e_xcb, e_xs, e_si, e_ss, e_sb, e_sn, e_slt, e_sls, e_slb, e_sdp, e_sst, e_its, e_itbl, e_ix, e_ixo, e_ixe, e_ixf, e_nop, e_som, e_smo, e_sl, e_slo, e_gsl, e_gss, e_rev, e_dg1, e_d1o, e_d1k, e_m1, e_m1o, e_call, e_cl, e_cle, e_re, e_ree, e_rt, e_rnx, e_rer, e_def0, e_def1, e_def2, e_def3, e_def4, e_def5, e_def6, e_seq, e_sqn, e_sqr, e_sqe, e_sqb, e_sqc, e_set, e_seo, e_see, e_se2, e_if, e_ift, e_iff, e_ifr, e_ret, e_rto, e_rte, e_exp, e_epo, e_epe, e_rai, e_frz, e_fro, e_frc, e_fzo, e_fzd, e_fzs, e_fzb, e_fzu, e_for, e_fos, e_fob, e_foe, e_lii, e_lio, e_tii, e_tio, e_sti, e_sto, e_r1, e_r1o, e_r2, e_r2o, e_comp, e_coo, e_cc, e_yes, e_na0, e_nas, e_nab, e_nao, e_nad, e_nau, e_naa, e_nae, e_ne0, e_nes, e_neb, e_neo, e_ned, e_neu, e_nea, e_nee, e_app, e_apo, e_sei, e_sio, e_si2, e_dput, e_dpi, e_dpb, e_dp2, e_try, e_tyn, e_tyr, e_tye, e_exs, e_exn, e_uns, e_unn, e_ber, e_ben, e_tka, e_tko, e_ise, e_ero, e_unp, e_unt, e_imi, e_ims, e_imb, e_imn, e_imt, e_im0, e_imc, List.map_cons, List.map_nil, List.cons_append, List.nil_append, List.replicate_succ, List.replicate_zero, List.length_cons, List.length_nil, List.getElem?_cons_zero, List.getElem?_cons_succ, List.set_cons_zero, List.set_cons_succ, Option.map_some, Option.map_none, Option.bind_some, Option.isSome_some, Option.isSome_none, if_true, if_false, reduceIte, Bool.and_true, Bool.true_and, Bool.and_false, Bool.false_and, Bool.or_true, Bool.true_or, Bool.or_false, Bool.false_or, Bool.not_true, Bool.not_false, Nat.reduceAdd, Nat.reduceEqDiff, Bool.false_eq_true, decide_true, decide_false, reduceCtorEq, and_self, true_and, and_true, true_or, or_true, false_or, or_false, or_self, Nat.reducePow, Nat.reduceLeDiff, Nat.reduceSub, Int.reduceLT, Int.reduceLE, Int.reduceAdd, Int.reduceSub, Int.reduceMul, Int.reduceNeg, Int.reduceEq, List.length_map, List.length_append, e_it0, e_it1, e_it2, e_it3, e_it4, e_itt0, e_itt1, e_itt2, e_itt3, e_itt4, eq_self, Int.reduceToNat, false_and, and_false, Int.reducePow, e_pla, e_ple, e_seal, h0, c1, c2, hP, hP0, c3, hc, hd1, hd2, hia, hix, hak]
        refine ⟨ds.set P.toNat a, .sh (.int P), .sh (.int (cell ns (62 - (t : Int)))), rfl, by simp, okD_setn h ham, .inr ⟨P.toNat, a, by rw [List.getElem?_set_self (by omega)], .inr ⟨by omega, ?_⟩⟩, rfl, rfl⟩
        rw [List.getElem?_set_ne (by omega)]
        exact ha
  · simp only [e_var, e_ch3, e_c3o, e_cmt, e_cmf, e_cmo, e_crt, e_crf, e_r3, e_r3o, e_dg2, e_d2o, e_gd2, e_clr, e_cao, e_ext, e_exo, e_idx, e_ixl, e_fld, e_flr, e_flt, e_xtb, e_xta, e_mth, e_rrx, e_mto, e_mkt, e_mko, e_mke, e_mkx, e_mky, e_srt, e_l2, e_l2o, e_frd, e_frt, e_pair, e_pao, e_pab, e_paa, e_put, e_puo, e_puy, e_pue, e_fvs, e_fvi, e_fvb, e_fvn, e_dgt, e_dgs, e_dgi, e_dpt, e_dps, e_sdi, e_sdb, e_sml, e_smr, e_sh, e_bo, e_ow, e_dp, e_an, e_con, e_opt, e_op, e_op2, e_op2e, e_op2f, e_un, e_op1, e_op1e, e_add, e_adds, e_addl, e_sub, e_mul, e_muls, e_mull, e_mulI, e_div, e_mod, e_lt, e_le, e_gt, e_ge, e_neg, e_not, e_isn, e_notn, e_nn, e_ni, e_ns, e_nb, e_nl, e_nt, e_eqs, e_eqi, e_eqb, e_eqn, e_eqni, e_eqin, e_eqns, e_eqsn, e_eqsi, e_eqis, e_eq, e_ne, e_in, e_nin, e_din, e_dnin, e_dget, e_dget1, e_and, e_andt, e_andf, e_ande, e_or, e_orf, e_ort, e_tst, e_ts, e_tse, e_band, e_bat, e_baf, e_bae, e_bor, e_bof, e_bot, e_boe, e_bnot, e_bn, e_bne, e_ife, e_iet, e_ief, e_ch, e_ch2, e_cht, e_chf, e_nil, e_cons, e_cn, e_cne, e_cnf, e_arg1, e_arg2, e_lst, e_lse, e_ls0, e_ls1, e_ls2, e_ls3, e_ls4, e_ls5, e_ls6, e_ls7, e_ls8, e_tup, e_tue, e_tu0, e_tu1, e_tu2, e_tu3, e_tu4, e_dnew, e_cb, e_cbo, e_cbe, e_lens, e_lenl, e_lent, e_lenc, e_list, e_listt, e_inti, e_intb, e_ints, e_max, e_min, e_kst, e_ktp, e_kdp, e_ki, e_ks, e_kb, e_kn, e_ktb, e_kta, e_xst, e_xtp, e_xdp, e_xbw, e_xan, e_xcb, e_xs, e_si, e_ss, e_sb, e_sn, e_slt, e_sls, e_slb, e_sdp, e_sst, e_its, e_itbl, e_ix, e_ixo, e_ixe, e_ixf, e_nop, e_som, e_smo, e_sl, e_slo, e_gsl, e_gss, e_rev, e_dg1, e_d1o, e_d1k, e_m1, e_m1o, e_call, e_cl, e_cle, e_re, e_ree, e_rt, e_rnx, e_rer, e_def0, e_def1, e_def2, e_def3, e_def4, e_def5, e_def6, e_seq, e_sqn, e_sqr, e_sqe, e_sqb, e_sqc, e_set, e_seo, e_see, e_se2, e_if, e_ift, e_iff, e_ifr, e_ret, e_rto, e_rte, e_exp, e_epo, e_epe, e_rai, e_frz, e_fro, e_frc, e_fzo, e_fzd, e_fzs, e_fzb, e_fzu, e_for, e_fos, e_fob, e_foe, e_lii, e_lio, e_tii, e_tio, e_sti, e_sto, e_r1, e_r1o, e_r2, e_r2o, e_comp, e_coo, e_cc, e_yes, e_na0, e_nas, e_nab, e_nao, e_nad, e_nau, e_naa, e_nae, e_ne0, e_nes, e_neb, e_neo, e_ned, e_neu, e_nea, e_nee, e_app, e_apo, e_sei, e_sio, e_si2, e_dput, e_dpi, e_dpb, e_dp2, e_try, e_tyn, e_tyr, e_tye, e_exs, e_exn, e_uns, e_unn, e_ber, e_ben, e_tka, e_tko, e_ise, e_ero, e_unp, e_unt, e_imi, e_ims, e_imb, e_imn, e_imt, e_im0, e_imc, List.map_cons, List.map_nil, List.cons_append, List.nil_append, List.replicate_succ, List.replicate_zero, List.length_cons, List.length_nil, List.getElem?_cons_zero, List.getElem?_cons_succ, List.set_cons_zero, List.set_cons_succ, Option.map_some, Option.map_none, Option.bind_some, Option.isSome_some, Option.isSome_none, if_true, if_false, reduceIte, Bool.and_true, Bool.true_and, Bool.and_false, Bool.false_and, Bool.or_true, Bool.true_or, Bool.or_false, Bool.false_or, Bool.not_true, Bool.not_false, Nat.reduceAdd, Nat.reduceEqDiff, Bool.false_eq_true, decide_true, decide_false, reduceCtorEq, and_self, true_and, and_true, true_or, or_true, false_or, or_false, or_self, Nat.reducePow, Nat.reduceLeDiff, Nat.reduceSub, Int.reduceLT, Int.reduceLE, Int.reduceAdd, Int.reduceSub, Int.reduceMul, Int.reduceNeg, Int.reduceEq, List.length_map, List.length_append, e_it0, e_it1, e_it2, e_it3, e_it4, e_itt0, e_itt1, e_itt2, e_itt3, e_itt4, eq_self, Int.reduceToNat, false_and, and_false, Int.reducePow, e_pla, e_ple, e_seal, h0]
    refine ⟨ds, x, y, rfl, rfl, h, .inl (List.length_eq_zero_iff.mp (by omega)), px, py⟩
theorem rows_self {R : List Rw} (hR : RowsOk [] R) : eqB (.lst (R.map rowD)) (.lst (R.map rowD)) = some true := eqB_self (okP_mono (okP_rows hR) (by decide : 2 ≤ 64))
theorem tail_ok (ns : List Int) (ds : List D) (h : ∀ d ∈ ds, okD d) (h42 : ds.length ≤ 42) (hf : ds = [] ∨ Flt ds) (t x y : Slot) (pt : plS t = true) (px : plS x = true) (py : plS y = true) : r2_law [.bo (.scr ns), .ow (.lst ds), t, x, y, .un, .un, .un, .un] = .rt (.bl true) := by
  obtain ⟨R, hR, hRl, hT⟩ := lawtariff_ok ds h h42
  have hi := init_ok hR (by omega)
  have him := okD_imms h
  have himr := imms_rows R
  have hsl := e_sld himr
  have hc := cell_ok ns 60 (by omega)
  obtain ⟨hd, hd2⟩ := due_ok ds h h42
  have hs := okD_eq h
  have hrs := rows_self hR
  have hto := told_ok R
  obtain ⟨c, hcx⟩ : ∃ c, duE ds = some c := by
    cases e : duE ds with
    | none => exact absurd e (flt_due hf)
    | some c => exact ⟨c, rfl⟩
  have hde := deed_er (cell ns 60) R ds h h42 hcx
  rw [hcx] at hd hd2
  have hcc : c = .place ∨ c = .journey := by simpa using hd2
  have hn : ∀ c', noEx [.bo (.scr ns), .ow (.lst ds), t, x, y, .ow (.lst (R.map rowD)), .dp (.tar R), .ow (.lst ds), c'] = noEx [c'] := by
    have one : ∀ {s : Slot} {δ : Dl}, plS s = true → noEx (s :: δ) = noEx δ := fun {s δ} h => by
      cases s <;> first | rfl | cases h
    intro c'
    simp only [e_var, e_ch3, e_c3o, e_cmt, e_cmf, e_cmo, e_crt, e_crf, e_r3, e_r3o, e_dg2, e_d2o, e_gd2, e_clr, e_cao, e_ext, e_exo, e_idx, e_ixl, e_fld, e_flr, e_flt, e_xtb, e_xta, e_mth, e_rrx, e_mto, e_mkt, e_mko, e_mke, e_mkx, e_mky, e_srt, e_l2, e_l2o, e_frd, e_frt, e_pair, e_pao, e_pab, e_paa, e_put, e_puo, e_puy, e_pue, e_fvs, e_fvi, e_fvb, e_fvn, e_dgt, e_dgs, e_dgi, e_dpt, e_dps, e_sdi, e_sdb, e_sml, e_smr, e_sh, e_bo, e_ow, e_dp, e_an, e_con, e_opt, e_op, e_op2, e_op2e, e_op2f, e_un, e_op1, e_op1e, e_add, e_adds, e_addl, e_sub, e_mul, e_muls, e_mull, e_mulI, e_div, e_mod, e_lt, e_le, e_gt, e_ge, e_neg, e_not, e_isn, e_notn, e_nn, e_ni, e_ns, e_nb, e_nl, e_nt, e_eqs, e_eqi, e_eqb, e_eqn, e_eqni, e_eqin, e_eqns, e_eqsn, e_eqsi, e_eqis, e_eq, e_ne, e_in, e_nin, e_din, e_dnin, e_dget, e_dget1, e_and, e_andt, e_andf, e_ande, e_or, e_orf, e_ort, e_tst, e_ts, e_tse, e_band, e_bat, e_baf, e_bae, e_bor, e_bof, e_bot, e_boe, e_bnot, e_bn, e_bne, e_ife, e_iet, e_ief, e_ch, e_ch2, e_cht, e_chf, e_nil, e_cons, e_cn, e_cne, e_cnf, e_arg1, e_arg2, e_lst, e_lse, e_ls0, e_ls1, e_ls2, e_ls3, e_ls4, e_ls5, e_ls6, e_ls7, e_ls8, e_tup, e_tue, e_tu0, e_tu1, e_tu2, e_tu3, e_tu4, e_dnew, e_cb, e_cbo, e_cbe, e_lens, e_lenl, e_lent, e_lenc, e_list, e_listt, e_inti, e_intb, e_ints, e_max, e_min, e_kst, e_ktp, e_kdp, e_ki, e_ks, e_kb, e_kn, e_ktb, e_kta, e_xst, e_xtp, e_xdp, e_xbw, e_xan, e_xcb, e_xs, e_si, e_ss, e_sb, e_sn, e_slt, e_sls, e_slb, e_sdp, e_sst, e_its, e_itbl, e_ix, e_ixo, e_ixe, e_ixf, e_nop, e_som, e_smo, e_sl, e_slo, e_gsl, e_gss, e_rev, e_dg1, e_d1o, e_d1k, e_m1, e_m1o, e_call, e_cl, e_cle, e_re, e_ree, e_rt, e_rnx, e_rer, e_def0, e_def1, e_def2, e_def3, e_def4, e_def5, e_def6, e_seq, e_sqn, e_sqr, e_sqe, e_sqb, e_sqc, e_set, e_seo, e_see, e_se2, e_if, e_ift, e_iff, e_ifr, e_ret, e_rto, e_rte, e_exp, e_epo, e_epe, e_rai, e_frz, e_fro, e_frc, e_fzo, e_fzd, e_fzs, e_fzb, e_fzu, e_for, e_fos, e_fob, e_foe, e_lii, e_lio, e_tii, e_tio, e_sti, e_sto, e_r1, e_r1o, e_r2, e_r2o, e_comp, e_coo, e_cc, e_yes, e_na0, e_nas, e_nab, e_nao, e_nad, e_nau, e_naa, e_nae, e_ne0, e_nes, e_neb, e_neo, e_ned, e_neu, e_nea, e_nee, e_app, e_apo, e_sei, e_sio, e_si2, e_dput, e_dpi, e_dpb, e_dp2, e_try, e_tyn, e_tyr, e_tye, e_exs, e_exn, e_uns, e_unn, e_ber, e_ben, e_tka, e_tko, e_ise, e_ero, e_unp, e_unt, e_imi, e_ims, e_imb, e_imn, e_imt, e_im0, e_imc, List.map_cons, List.map_nil, List.cons_append, List.nil_append, List.replicate_succ, List.replicate_zero, List.length_cons, List.length_nil, List.getElem?_cons_zero, List.getElem?_cons_succ, List.set_cons_zero, List.set_cons_succ, Option.map_some, Option.map_none, Option.bind_some, Option.isSome_some, Option.isSome_none, if_true, if_false, reduceIte, Bool.and_true, Bool.true_and, Bool.and_false, Bool.false_and, Bool.or_true, Bool.true_or, Bool.or_false, Bool.false_or, Bool.not_true, Bool.not_false, Nat.reduceAdd, Nat.reduceEqDiff, Bool.false_eq_true, decide_true, decide_false, reduceCtorEq, and_self, true_and, and_true, true_or, or_true, false_or, or_false, or_self, Nat.reducePow, Nat.reduceLeDiff, Nat.reduceSub, Int.reduceLT, Int.reduceLE, Int.reduceAdd, Int.reduceSub, Int.reduceMul, Int.reduceNeg, Int.reduceEq, List.length_map, List.length_append, e_it0, e_it1, e_it2, e_it3, e_it4, e_itt0, e_itt1, e_itt2, e_itt3, e_itt4, eq_self, Int.reduceToNat, false_and, and_false, Int.reducePow, e_pla, e_ple, e_seal, one pt, one px, one py]
  unfold r2_law r3_law r4_law r5_law r6_law y1_law h1_law
  rcases hcc with rfl | rfl
  · simp only [e_var, e_ch3, e_c3o, e_cmt, e_cmf, e_cmo, e_crt, e_crf, e_r3, e_r3o, e_dg2, e_d2o, e_gd2, e_clr, e_cao, e_ext, e_exo, e_idx, e_ixl, e_fld, e_flr, e_flt, e_xtb, e_xta, e_mth, e_rrx, e_mto, e_mkt, e_mko, e_mke, e_mkx, e_mky, e_srt, e_l2, e_l2o, e_frd, e_frt, e_pair, e_pao, e_pab, e_paa, e_put, e_puo, e_puy, e_pue, e_fvs, e_fvi, e_fvb, e_fvn, e_dgt, e_dgs, e_dgi, e_dpt, e_dps, e_sdi, e_sdb, e_sml, e_smr, e_sh, e_bo, e_ow, e_dp, e_an, e_con, e_opt, e_op, e_op2, e_op2e, e_op2f, e_un, e_op1, e_op1e, e_add, e_adds, e_addl, e_sub, e_mul, e_muls, e_mull, e_mulI, e_div, e_mod, e_lt, e_le, e_gt, e_ge, e_neg, e_not, e_isn, e_notn, e_nn, e_ni, e_ns, e_nb, e_nl, e_nt, e_eqs, e_eqi, e_eqb, e_eqn, e_eqni, e_eqin, e_eqns, e_eqsn, e_eqsi, e_eqis, e_eq, e_ne, e_in, e_nin, e_din, e_dnin, e_dget, e_dget1, e_and, e_andt, e_andf, e_ande, e_or, e_orf, e_ort, e_tst, e_ts, e_tse, e_band, e_bat, e_baf, e_bae, e_bor, e_bof, e_bot, e_boe, e_bnot, e_bn, e_bne, e_ife, e_iet, e_ief, e_ch, e_ch2, e_cht, e_chf, e_nil, e_cons, e_cn, e_cne, e_cnf, e_arg1, e_arg2, e_lst, e_lse, e_ls0, e_ls1, e_ls2, e_ls3, e_ls4, e_ls5, e_ls6, e_ls7, e_ls8, e_tup, e_tue, e_tu0, e_tu1, e_tu2, e_tu3, e_tu4, e_dnew, e_cb, e_cbo, e_cbe, e_lens, e_lenl, e_lent, e_lenc, e_list, e_listt, e_inti, e_intb, e_ints, e_max, e_min, e_kst, e_ktp, e_kdp, e_ki, e_ks, e_kb, e_kn, e_ktb, e_kta, e_xst, e_xtp, e_xdp, e_xbw, e_xan, e_xcb, e_xs, e_si, e_ss, e_sb, e_sn, e_slt, e_sls, e_slb, e_sdp, e_sst, e_its, e_itbl, e_ix, e_ixo, e_ixe, e_ixf, e_nop, e_som, e_smo, e_sl, e_slo, e_gsl, e_gss, e_rev, e_dg1, e_d1o, e_d1k, e_m1, e_m1o, e_call, e_cl, e_cle, e_re, e_ree, e_rt, e_rnx, e_rer, e_def0, e_def1, e_def2, e_def3, e_def4, e_def5, e_def6, e_seq, e_sqn, e_sqr, e_sqe, e_sqb, e_sqc, e_set, e_seo, e_see, e_se2, e_if, e_ift, e_iff, e_ifr, e_ret, e_rto, e_rte, e_exp, e_epo, e_epe, e_rai, e_frz, e_fro, e_frc, e_fzo, e_fzd, e_fzs, e_fzb, e_fzu, e_for, e_fos, e_fob, e_foe, e_lii, e_lio, e_tii, e_tio, e_sti, e_sto, e_r1, e_r1o, e_r2, e_r2o, e_comp, e_coo, e_cc, e_yes, e_na0, e_nas, e_nab, e_nao, e_nad, e_nau, e_naa, e_nae, e_ne0, e_nes, e_neb, e_neo, e_ned, e_neu, e_nea, e_nee, e_app, e_apo, e_sei, e_sio, e_si2, e_dput, e_dpi, e_dpb, e_dp2, e_try, e_tyn, e_tyr, e_tye, e_exs, e_exn, e_uns, e_unn, e_ber, e_ben, e_tka, e_tko, e_ise, e_ero, e_unp, e_unt, e_imi, e_ims, e_imb, e_imn, e_imt, e_im0, e_imc, List.map_cons, List.map_nil, List.cons_append, List.nil_append, List.replicate_succ, List.replicate_zero, List.length_cons, List.length_nil, List.getElem?_cons_zero, List.getElem?_cons_succ, List.set_cons_zero, List.set_cons_succ, Option.map_some, Option.map_none, Option.bind_some, Option.isSome_some, Option.isSome_none, if_true, if_false, reduceIte, Bool.and_true, Bool.true_and, Bool.and_false, Bool.false_and, Bool.or_true, Bool.true_or, Bool.or_false, Bool.false_or, Bool.not_true, Bool.not_false, Nat.reduceAdd, Nat.reduceEqDiff, Bool.false_eq_true, decide_true, decide_false, reduceCtorEq, and_self, true_and, and_true, true_or, or_true, false_or, or_false, or_self, Nat.reducePow, Nat.reduceLeDiff, Nat.reduceSub, Int.reduceLT, Int.reduceLE, Int.reduceAdd, Int.reduceSub, Int.reduceMul, Int.reduceNeg, Int.reduceEq, List.length_map, List.length_append, e_it0, e_it1, e_it2, e_it3, e_it4, e_itt0, e_itt1, e_itt2, e_itt3, e_itt4, eq_self, Int.reduceToNat, false_and, and_false, Int.reducePow, e_pla, e_ple, e_seal, hT, himr, hsl, hi, him, hc, hde, hn, hs, hrs, hto, hd, exS]
  · simp only [e_var, e_ch3, e_c3o, e_cmt, e_cmf, e_cmo, e_crt, e_crf, e_r3, e_r3o, e_dg2, e_d2o, e_gd2, e_clr, e_cao, e_ext, e_exo, e_idx, e_ixl, e_fld, e_flr, e_flt, e_xtb, e_xta, e_mth, e_rrx, e_mto, e_mkt, e_mko, e_mke, e_mkx, e_mky, e_srt, e_l2, e_l2o, e_frd, e_frt, e_pair, e_pao, e_pab, e_paa, e_put, e_puo, e_puy, e_pue, e_fvs, e_fvi, e_fvb, e_fvn, e_dgt, e_dgs, e_dgi, e_dpt, e_dps, e_sdi, e_sdb, e_sml, e_smr, e_sh, e_bo, e_ow, e_dp, e_an, e_con, e_opt, e_op, e_op2, e_op2e, e_op2f, e_un, e_op1, e_op1e, e_add, e_adds, e_addl, e_sub, e_mul, e_muls, e_mull, e_mulI, e_div, e_mod, e_lt, e_le, e_gt, e_ge, e_neg, e_not, e_isn, e_notn, e_nn, e_ni, e_ns, e_nb, e_nl, e_nt, e_eqs, e_eqi, e_eqb, e_eqn, e_eqni, e_eqin, e_eqns, e_eqsn, e_eqsi, e_eqis, e_eq, e_ne, e_in, e_nin, e_din, e_dnin, e_dget, e_dget1, e_and, e_andt, e_andf, e_ande, e_or, e_orf, e_ort, e_tst, e_ts, e_tse, e_band, e_bat, e_baf, e_bae, e_bor, e_bof, e_bot, e_boe, e_bnot, e_bn, e_bne, e_ife, e_iet, e_ief, e_ch, e_ch2, e_cht, e_chf, e_nil, e_cons, e_cn, e_cne, e_cnf, e_arg1, e_arg2, e_lst, e_lse, e_ls0, e_ls1, e_ls2, e_ls3, e_ls4, e_ls5, e_ls6, e_ls7, e_ls8, e_tup, e_tue, e_tu0, e_tu1, e_tu2, e_tu3, e_tu4, e_dnew, e_cb, e_cbo, e_cbe, e_lens, e_lenl, e_lent, e_lenc, e_list, e_listt, e_inti, e_intb, e_ints, e_max, e_min, e_kst, e_ktp, e_kdp, e_ki, e_ks, e_kb, e_kn, e_ktb, e_kta, e_xst, e_xtp, e_xdp, e_xbw, e_xan, e_xcb, e_xs, e_si, e_ss, e_sb, e_sn, e_slt, e_sls, e_slb, e_sdp, e_sst, e_its, e_itbl, e_ix, e_ixo, e_ixe, e_ixf, e_nop, e_som, e_smo, e_sl, e_slo, e_gsl, e_gss, e_rev, e_dg1, e_d1o, e_d1k, e_m1, e_m1o, e_call, e_cl, e_cle, e_re, e_ree, e_rt, e_rnx, e_rer, e_def0, e_def1, e_def2, e_def3, e_def4, e_def5, e_def6, e_seq, e_sqn, e_sqr, e_sqe, e_sqb, e_sqc, e_set, e_seo, e_see, e_se2, e_if, e_ift, e_iff, e_ifr, e_ret, e_rto, e_rte, e_exp, e_epo, e_epe, e_rai, e_frz, e_fro, e_frc, e_fzo, e_fzd, e_fzs, e_fzb, e_fzu, e_for, e_fos, e_fob, e_foe, e_lii, e_lio, e_tii, e_tio, e_sti, e_sto, e_r1, e_r1o, e_r2, e_r2o, e_comp, e_coo, e_cc, e_yes, e_na0, e_nas, e_nab, e_nao, e_nad, e_nau, e_naa, e_nae, e_ne0, e_nes, e_neb, e_neo, e_ned, e_neu, e_nea, e_nee, e_app, e_apo, e_sei, e_sio, e_si2, e_dput, e_dpi, e_dpb, e_dp2, e_try, e_tyn, e_tyr, e_tye, e_exs, e_exn, e_uns, e_unn, e_ber, e_ben, e_tka, e_tko, e_ise, e_ero, e_unp, e_unt, e_imi, e_ims, e_imb, e_imn, e_imt, e_im0, e_imc, List.map_cons, List.map_nil, List.cons_append, List.nil_append, List.replicate_succ, List.replicate_zero, List.length_cons, List.length_nil, List.getElem?_cons_zero, List.getElem?_cons_succ, List.set_cons_zero, List.set_cons_succ, Option.map_some, Option.map_none, Option.bind_some, Option.isSome_some, Option.isSome_none, if_true, if_false, reduceIte, Bool.and_true, Bool.true_and, Bool.and_false, Bool.false_and, Bool.or_true, Bool.true_or, Bool.or_false, Bool.false_or, Bool.not_true, Bool.not_false, Nat.reduceAdd, Nat.reduceEqDiff, Bool.false_eq_true, decide_true, decide_false, reduceCtorEq, and_self, true_and, and_true, true_or, or_true, false_or, or_false, or_self, Nat.reducePow, Nat.reduceLeDiff, Nat.reduceSub, Int.reduceLT, Int.reduceLE, Int.reduceAdd, Int.reduceSub, Int.reduceMul, Int.reduceNeg, Int.reduceEq, List.length_map, List.length_append, e_it0, e_it1, e_it2, e_it3, e_it4, e_itt0, e_itt1, e_itt2, e_itt3, e_itt4, eq_self, Int.reduceToNat, false_and, and_false, Int.reducePow, e_pla, e_ple, e_seal, hT, himr, hsl, hi, him, hc, hde, hn, hs, hrs, hto, hd, exS]


end DD

set_option maxRecDepth 100000
set_option maxHeartbeats 4000000
namespace DD
open PySem L2
theorem law_true (ns : List Int) (hl : ns.length ≤ 63) : g_law [.scr ns] = .ok (.bl true) := by
  obtain ⟨L, l42, hN, hrow⟩ := row_ok ns
  have c1 := cell_ok ns 1 (by omega)
  have him := imms_str L
  have hsl := e_sld him
  have hsr := e_smr (i := 1 + cell ns 1 % 2) (by omega) (by omega)
  have key := forL_inv (i := 2) (k := .st) (body := b1_law)
    (fun n δ => ∃ (ds : List D) (t x y : Slot), δ = [.bo (.scr ns), .ow (.lst ds), t, x, y, .un, .un, .un, .un] ∧ ds.length ≤ 42 ∧ (∀ d ∈ ds, okD d) ∧ (0 < n → ds = [] ∨ Flt ds) ∧ plS t = true ∧ plS x = true ∧ plS y = true) (fun o => False)
    (rng 0 1 (1 + cell ns 1 % 2).toNat) 0 [.bo (.scr ns), .ow (.lst (L.map D.str)), .un, .un, .un, .un, .un, .un, .un] ⟨_, _, _, _, rfl, by simpa using l42, fun d hd => by
      obtain ⟨s, hs, rfl⟩ := List.mem_map.mp hd
      exact (hN s hs).ok, fun z => absurd z (by decide), rfl, rfl, rfl⟩ (by
      rintro k d δ hd ⟨ds, t, x, y, rfl, hds, hok, hf, pt, px, py⟩
      obtain ⟨hk, rfl⟩ := get_rng1 hd
      rw [Nat.zero_add] at hf ⊢
      refine ⟨_, e_its, ?_⟩
      obtain ⟨ds', x', y', q, q1, q2, q3, q4, q5⟩ := turn_ok ns ds hok x y k (by omega) px py
      simp only [List.set_cons_succ, List.set_cons_zero]
      rw [q]
      exact ⟨ds', _, x', y', rfl, by omega, q2, fun _ => q3, rfl, q4, q5⟩)
  rcases key with ⟨δ', k1, ds, t, x, y, rfl, hds, hok, hf, pt, px, py⟩ | h
  · rw [rng_len, Nat.zero_add] at hf
    have ht := tail_ok ns ds hok hds (hf (by omega)) t x y pt px py
    obtain ⟨K, hK⟩ : ∃ K, K = r2_law := ⟨_, rfl⟩
    unfold g_law d_law r1_law
    rw [← hK] at ht ⊢
    simp only [e_var, e_ch3, e_c3o, e_cmt, e_cmf, e_cmo, e_crt, e_crf, e_r3, e_r3o, e_dg2, e_d2o, e_gd2, e_clr, e_cao, e_ext, e_exo, e_idx, e_ixl, e_fld, e_flr, e_flt, e_xtb, e_xta, e_mth, e_rrx, e_mto, e_mkt, e_mko, e_mke, e_mkx, e_mky, e_srt, e_l2, e_l2o, e_frd, e_frt, e_pair, e_pao, e_pab, e_paa, e_put, e_puo, e_puy, e_pue, e_fvs, e_fvi, e_fvb, e_fvn, e_dgt, e_dgs, e_dgi, e_dpt, e_dps, e_sdi, e_sdb, e_sml, e_smr, e_sh, e_bo, e_ow, e_dp, e_an, e_con, e_opt, e_op, e_op2, e_op2e, e_op2f, e_un, e_op1, e_op1e, e_add, e_adds, e_addl, e_sub, e_mul, e_muls, e_mull, e_mulI, e_div, e_mod, e_lt, e_le, e_gt, e_ge, e_neg, e_not, e_isn, e_notn, e_nn, e_ni, e_ns, e_nb, e_nl, e_nt, e_eqs, e_eqi, e_eqb, e_eqn, e_eqni, e_eqin, e_eqns, e_eqsn, e_eqsi, e_eqis, e_eq, e_ne, e_in, e_nin, e_din, e_dnin, e_dget, e_dget1, e_and, e_andt, e_andf, e_ande, e_or, e_orf, e_ort, e_tst, e_ts, e_tse, e_band, e_bat, e_baf, e_bae, e_bor, e_bof, e_bot, e_boe, e_bnot, e_bn, e_bne, e_ife, e_iet, e_ief, e_ch, e_ch2, e_cht, e_chf, e_nil, e_cons, e_cn, e_cne, e_cnf, e_arg1, e_arg2, e_lst, e_lse, e_ls0, e_ls1, e_ls2, e_ls3, e_ls4, e_ls5, e_ls6, e_ls7, e_ls8, e_tup, e_tue, e_tu0, e_tu1, e_tu2, e_tu3, e_tu4, e_dnew, e_cb, e_cbo, e_cbe, e_lens, e_lenl, e_lent, e_lenc, e_list, e_listt, e_inti, e_intb, e_ints, e_max, e_min, e_kst, e_ktp, e_kdp, e_ki, e_ks, e_kb, e_kn, e_ktb, e_kta, e_xst, e_xtp, e_xdp, e_xbw, e_xan, e_xcb, e_xs, e_si, e_ss, e_sb, e_sn, e_slt, e_sls, e_slb, e_sdp, e_sst, e_its, e_itbl, e_ix, e_ixo, e_ixe, e_ixf, e_nop, e_som, e_smo, e_sl, e_slo, e_gsl, e_gss, e_rev, e_dg1, e_d1o, e_d1k, e_m1, e_m1o, e_call, e_cl, e_cle, e_re, e_ree, e_rt, e_rnx, e_rer, e_def0, e_def1, e_def2, e_def3, e_def4, e_def5, e_def6, e_seq, e_sqn, e_sqr, e_sqe, e_sqb, e_sqc, e_set, e_seo, e_see, e_se2, e_if, e_ift, e_iff, e_ifr, e_ret, e_rto, e_rte, e_exp, e_epo, e_epe, e_rai, e_frz, e_fro, e_frc, e_fzo, e_fzd, e_fzs, e_fzb, e_fzu, e_for, e_fos, e_fob, e_foe, e_lii, e_lio, e_tii, e_tio, e_sti, e_sto, e_r1, e_r1o, e_r2, e_r2o, e_comp, e_coo, e_cc, e_yes, e_na0, e_nas, e_nab, e_nao, e_nad, e_nau, e_naa, e_nae, e_ne0, e_nes, e_neb, e_neo, e_ned, e_neu, e_nea, e_nee, e_app, e_apo, e_sei, e_sio, e_si2, e_dput, e_dpi, e_dpb, e_dp2, e_try, e_tyn, e_tyr, e_tye, e_exs, e_exn, e_uns, e_unn, e_ber, e_ben, e_tka, e_tko, e_ise, e_ero, e_unp, e_unt, e_imi, e_ims, e_imb, e_imn, e_imt, e_im0, e_imc, List.map_cons, List.map_nil, List.cons_append, List.nil_append, List.replicate_succ, List.replicate_zero, List.length_cons, List.length_nil, List.getElem?_cons_zero, List.getElem?_cons_succ, List.set_cons_zero, List.set_cons_succ, Option.map_some, Option.map_none, Option.bind_some, Option.isSome_some, Option.isSome_none, if_true, if_false, reduceIte, Bool.and_true, Bool.true_and, Bool.and_false, Bool.false_and, Bool.or_true, Bool.true_or, Bool.or_false, Bool.false_or, Bool.not_true, Bool.not_false, Nat.reduceAdd, Nat.reduceEqDiff, Bool.false_eq_true, decide_true, decide_false, reduceCtorEq, and_self, true_and, and_true, true_or, or_true, false_or, or_false, or_self, Nat.reducePow, Nat.reduceLeDiff, Nat.reduceSub, Int.reduceLT, Int.reduceLE, Int.reduceAdd, Int.reduceSub, Int.reduceMul, Int.reduceNeg, Int.reduceEq, List.length_map, List.length_append, e_it0, e_it1, e_it2, e_it3, e_it4, e_itt0, e_itt1, e_itt2, e_itt3, e_itt4, eq_self, Int.reduceToNat, false_and, and_false, Int.reducePow, e_pla, e_ple, e_seal, hrow, hsl, c1, hsr, k1, ht]
  · exact h.elim


end DD

set_option maxRecDepth 100000
set_option maxHeartbeats 4000000
namespace DD
open PySem L2N
open L2 hiding XE Takes CX takes_of passes_call MkP PMk ps_raise mk_of ps_try_as pmk_own passAt HdsOk ps_try_many ps_try_only takes0
open L2H (HotC Hot1 RoomH roomH_of)
def top (i : Nat) : Stmt := PySem.Challenge.pw_farebreak_k13_no_journeys.main.body.getD i (.Pass ⟨0, 0, 0, 0⟩)
abbrev s_is_place : Stmt := top 15
abbrev nm_is_place : List Str := ["thing", "sign"]
theorem sc_is_place : FnScope nm_is_place ["thing"] (defScope s_is_place) := ⟨rfl, rfl, rfl, by decide +kernel, rfl, by decide +kernel, by decide +kernel⟩
abbrev s_is_price : Stmt := top 16
abbrev nm_is_price : List Str := ["thing"]
theorem sc_is_price : FnScope nm_is_price ["thing"] (defScope s_is_price) := ⟨rfl, rfl, rfl, by decide +kernel, rfl, by decide +kernel, by decide +kernel⟩
abbrev s_put : Stmt := inClass (top 17) 1
abbrev nm_put : List Str := ["self", "here", "there", "price"]
theorem sc_put : FnScope nm_put ["self", "here", "there", "price"] (defScope s_put) := ⟨rfl, rfl, rfl, by decide +kernel, rfl, by decide +kernel, by decide +kernel⟩
abbrev s___init__ : Stmt := inClass (top 17) 0
abbrev nm___init__ : List Str := ["self", "rows", "row"]
theorem sc___init__ : FnScope nm___init__ ["self", "rows"] (defScope s___init__) := ⟨rfl, rfl, rfl, by decide +kernel, rfl, by decide +kernel, by decide +kernel⟩
abbrev s_price : Stmt := inClass (top 17) 2
abbrev nm_price : List Str := ["self", "here", "there"]
theorem sc_price : FnScope nm_price ["self", "here", "there"] (defScope s_price) := ⟨rfl, rfl, rfl, by decide +kernel, rfl, by decide +kernel, by decide +kernel⟩
abbrev s_told : Stmt := inClass (top 17) 3
abbrev nm_told : List Str := ["self"]
theorem sc_told : FnScope nm_told ["self"] (defScope s_told) := ⟨rfl, rfl, rfl, by decide +kernel, rfl, by decide +kernel, by decide +kernel⟩
abbrev s_need_journey : Stmt := top 20
abbrev nm_need_journey : List Str := ["places", "ahead", "place"]
theorem sc_need_journey : FnScope nm_need_journey ["places"] (defScope s_need_journey) := ⟨rfl, rfl, rfl, by decide +kernel, rfl, by decide +kernel, by decide +kernel⟩
abbrev s_fault : Stmt := top 22
abbrev nm_fault : List Str := ["tariff", "journey", "at", "to", "places", "price", "k", "m", "found"]
theorem sc_fault : FnScope nm_fault ["tariff", "journey", "at", "to"] (defScope s_fault) := ⟨rfl, rfl, rfl, by decide +kernel, rfl, by decide +kernel, by decide +kernel⟩
abbrev s_ends_from : Stmt := top 23
abbrev nm_ends_from : List Str := ["tariff", "places", "at", "greatest", "ends", "row", "seen", "to", "price", "within"]
theorem sc_ends_from : FnScope nm_ends_from ["tariff", "places", "at", "greatest"] (defScope s_ends_from) := ⟨rfl, rfl, rfl, by decide +kernel, rfl, by decide +kernel, by decide +kernel⟩
abbrev s_held : Stmt := top 24
abbrev nm_held : List Str := ["tariff", "journey", "places", "place", "found", "greatest", "at", "ends"]
theorem sc_held : FnScope nm_held ["tariff", "journey"] (defScope s_held) := ⟨rfl, rfl, rfl, by decide +kernel, rfl, by decide +kernel, by decide +kernel⟩
abbrev s_price_of : Stmt := top 26
abbrev nm_price_of : List Str := ["tariff", "journey", "cuts", "places", "k", "total"]
theorem sc_price_of : FnScope nm_price_of ["tariff", "journey", "cuts"] (defScope s_price_of) := ⟨rfl, rfl, rfl, by decide +kernel, rfl, by decide +kernel, by decide +kernel⟩
abbrev s_walked_back : Stmt := top 27
abbrev nm_walked_back : List Str := ["tariff", "places", "ends", "last", "place", "best", "at", "to", "price", "many"]
theorem sc_walked_back : FnScope nm_walked_back ["tariff", "places"] (defScope s_walked_back) := ⟨rfl, rfl, rfl, by decide +kernel, rfl, by decide +kernel, by decide +kernel⟩
abbrev s_left : Stmt := top 28
abbrev nm_left : List Str := ["tariff", "journey", "found", "one"]
theorem sc_left : FnScope nm_left ["tariff", "journey"] (defScope s_left) := ⟨rfl, rfl, rfl, by decide +kernel, rfl, by decide +kernel, by decide +kernel⟩
abbrev s_priced : Stmt := top 29
abbrev nm_priced : List Str := ["tariff", "journey", "best", "cuts"]
theorem sc_priced : FnScope nm_priced ["tariff", "journey"] (defScope s_priced) := ⟨rfl, rfl, rfl, by decide +kernel, rfl, by decide +kernel, by decide +kernel⟩
abbrev s_parted : Stmt := top 30
abbrev nm_parted : List Str := ["tariff", "journey"]
theorem sc_parted : FnScope nm_parted ["tariff", "journey"] (defScope s_parted) := ⟨rfl, rfl, rfl, by decide +kernel, rfl, by decide +kernel, by decide +kernel⟩
abbrev s_line_of : Stmt := top 32
abbrev nm_line_of : List Str := ["here", "there", "price"]
theorem sc_line_of : FnScope nm_line_of ["here", "there", "price"] (defScope s_line_of) := ⟨rfl, rfl, rfl, by decide +kernel, rfl, by decide +kernel, by decide +kernel⟩
abbrev s_bill : Stmt := top 33
abbrev nm_bill : List Str := ["tariff", "journey", "places", "total", "cuts", "lines", "k", "here", "there"]
theorem sc_bill : FnScope nm_bill ["tariff", "journey"] (defScope s_bill) := ⟨rfl, rfl, rfl, by decide +kernel, rfl, by decide +kernel, by decide +kernel⟩
abbrev s__law_cell_at : Stmt := top 35
abbrev nm__law_cell_at : List Str := ["_law_script", "_law_k"]
theorem sc__law_cell_at : FnScope nm__law_cell_at ["_law_script", "_law_k"] (defScope s__law_cell_at) := ⟨rfl, rfl, rfl, by decide +kernel, rfl, by decide +kernel, by decide +kernel⟩
abbrev s__law_place : Stmt := top 36
abbrev nm__law_place : List Str := ["_law_cell", "_law_letters", "_law_k"]
theorem sc__law_place : FnScope nm__law_place ["_law_cell"] (defScope s__law_place) := ⟨rfl, rfl, rfl, by decide +kernel, rfl, by decide +kernel, by decide +kernel⟩
abbrev s__law_row : Stmt := top 37
abbrev nm__law_row : List Str := ["_law_script", "_law_size", "_law_row_here", "_law_k", "_law_name"]
theorem sc__law_row : FnScope nm__law_row ["_law_script"] (defScope s__law_row) := ⟨rfl, rfl, rfl, by decide +kernel, rfl, by decide +kernel, by decide +kernel⟩
abbrev s__law_bad : Stmt := top 38
abbrev nm__law_bad : List Str := ["_law_cell", "_law_name", "_law_at", "_law_odd"]
theorem sc__law_bad : FnScope nm__law_bad ["_law_cell", "_law_name"] (defScope s__law_bad) := ⟨rfl, rfl, rfl, by decide +kernel, rfl, by decide +kernel, by decide +kernel⟩
abbrev s__law_is_place : Stmt := top 39
abbrev nm__law_is_place : List Str := ["_law_thing", "_law_sign"]
theorem sc__law_is_place : FnScope nm__law_is_place ["_law_thing"] (defScope s__law_is_place) := ⟨rfl, rfl, rfl, by decide +kernel, rfl, by decide +kernel, by decide +kernel⟩
abbrev s__law_due : Stmt := top 40
abbrev nm__law_due : List Str := ["_law_row_here", "_law_k"]
theorem sc__law_due : FnScope nm__law_due ["_law_row_here"] (defScope s__law_due) := ⟨rfl, rfl, rfl, by decide +kernel, rfl, by decide +kernel, by decide +kernel⟩
abbrev s__law_tariff : Stmt := top 41
abbrev nm__law_tariff : List Str := ["_law_row_here", "_law_rows", "_law_k", "_law_one"]
theorem sc__law_tariff : FnScope nm__law_tariff ["_law_row_here"] (defScope s__law_tariff) := ⟨rfl, rfl, rfl, by decide +kernel, rfl, by decide +kernel, by decide +kernel⟩
abbrev s__law_deed : Stmt := top 42
abbrev nm__law_deed : List Str := ["_law_pick", "_law_tariff_here", "_law_row_here", "_law_more"]
theorem sc__law_deed : FnScope nm__law_deed ["_law_pick", "_law_tariff_here", "_law_row_here"] (defScope s__law_deed) := ⟨rfl, rfl, rfl, by decide +kernel, rfl, by decide +kernel, by decide +kernel⟩
abbrev s_law : Stmt := top 43
abbrev nm_law : List Str := ["_law_script", "_law_row_here", "_law_turn", "_law_at", "_law_cell", "_law_rows", "_law_tariff_here", "_law_handed", "error"]
theorem sc_law : FnScope nm_law ["_law_script"] (defScope s_law) := ⟨rfl, rfl, rfl, by decide +kernel, rfl, by decide +kernel, by decide +kernel⟩
theorem ok_is_place {P : Program} {w : World} {mg : Str → Option Value} {base : Heap} {T : Par} {f : Addr} {fd : FuncData} {t_LETTERS t_MOST_SIGNS : Tok} (F : Fun T.K "is_place" "is_place" s_is_place f fd) (hm : mg "is_place" = some (.ref f)) (b_isinstance : mg "isinstance" = none) (b_len : mg "len" = none) (b_str : mg "str" = none) (k_LETTERS : mg "LETTERS" = some (.str "abcdefghijklmnopqrstuvwxyz" t_LETTERS)) (k_MOST_SIGNS : mg "MOST_SIGNS" = some (.int 12 t_MOST_SIGNS)) :
    DefAt P w T.K mg base T "is_place" 1 ["thing"] g_is_place := by
  rw [show g_is_place = defR 1 1 d_is_place from e_seal _]
  refine ⟨f, fd, hm, F.kp, F.binds (ps := ["thing"]) (fun _ _ _ _ _ _ us hl => match us, hl with | [_], _ => rfl), fn_def (k := 0) F sc_is_place rfl rfl (fun cdv A outer s H E hr => ?_)⟩
  unfold d_is_place
  exact (sd_seq (sd_if (pt_w (wd_or (td_not (pt_v (pd_isi (n := "str") (pd_var 0) b_isinstance b_str (by decide +kernel)))) (wd_or1 (td_not (td_chain op_le os_le op_le os_le pd_int (pd_len (pd_var 0) b_len) (pd_globI k_MOST_SIGNS)))))) (sd_one (sd_ret pd_bl)) sd_nil)
  (sd_seq (sd_for 1 (passes_of rfl) sc_is_place.nd (id_str (pd_var 0)) (sd_one (sd_if (td_notIn (pd_var 1) (pd_globS k_LETTERS)) (sd_one (sd_ret pd_bl)) sd_nil)))
  (sd_one (sd_ret pd_bl))))

theorem ok_is_price {P : Program} {w : World} {mg : Str → Option Value} {base : Heap} {T : Par} {f : Addr} {fd : FuncData} {t_MOST_PRICE : Tok} (F : Fun T.K "is_price" "is_price" s_is_price f fd) (hm : mg "is_price" = some (.ref f)) (b_bool : mg "bool" = none) (b_int : mg "int" = none) (b_isinstance : mg "isinstance" = none) (k_MOST_PRICE : mg "MOST_PRICE" = some (.int 1000000000000 t_MOST_PRICE)) :
    DefAt P w T.K mg base T "is_price" 1 ["thing"] g_is_price := by
  rw [show g_is_price = defR 1 0 d_is_price from e_seal _]
  refine ⟨f, fd, hm, F.kp, F.binds (ps := ["thing"]) (fun _ _ _ _ _ _ us hl => match us, hl with | [_], _ => rfl), fn_def (k := 0) F sc_is_price rfl rfl (fun cdv A outer s H E hr => ?_)⟩
  unfold d_is_price
  exact (sd_one (sd_ret (pd_and (pd_isi (n := "int") (pd_var 0) b_isinstance b_int (by decide +kernel)) (pd_and (pd_not (pd_isi (n := "bool") (pd_var 0) b_isinstance b_bool (by decide +kernel))) (pd_one (pd_chain op_le os_le op_le os_le pd_int (pd_var 0) (pd_globI k_MOST_PRICE)))))))

theorem ok_put {P : Program} {w : World} {mg : Str → Option Value} {base : Heap} {T : Par} {f : Addr} {fd : FuncData} {t_MOST_ROWS : Tok} (F : Fun T.K "put" "Tariff.put" s_put f fd) (hm : Meth T.K T.C "put" f) (b_len : mg "len" = none) (k_MOST_ROWS : mg "MOST_ROWS" = some (.int 160 t_MOST_ROWS)) (x_BadPlace : ExcAt T.K mg T "BadPlace" .place) (x_BadPrice : ExcAt T.K mg T "BadPrice" .price) (x_TooMany : ExcAt T.K mg T "TooMany" .many) (x_TwiceTold : ExcAt T.K mg T "TwiceTold" .twice) (tar : TarC T.K mg T.C) (G_is_place : DefAt P w T.K mg base T "is_place" 1 ["thing"] g_is_place) (G_is_price : DefAt P w T.K mg base T "is_price" 1 ["thing"] g_is_price) :
    MethAt P w T.K mg base T "put" 2 ["self", "here", "there", "price"] (spPut T g_put) := by
  refine ⟨f, fd, hm, F.binds (ps := ["self", "here", "there", "price"]) (fun _ _ _ _ _ _ us hl => match us, hl with | [_, _, _, _], _ => rfl), put_def (k := 1) tar F sc_put (by unfold p_put; exact (kp_seq kp_if (kp_seq kp_if (kp_seq kp_if (kp_seq kp_if (kp_seq kp_if kp_nx)))))) (fun cdv A outer s H E hr => ?_)⟩
  unfold p_put
  exact (tl_cons (sd_if (pt_w (wd_or (td_not (pt_v (pd_callD G_is_place hr (by decide) (takes_of rfl rfl rfl rfl) (ad_cons (pd_var 1) ad_nil)))) (wd_or1 (td_not (pt_v (pd_callD G_is_place hr (by decide) (takes_of rfl rfl rfl rfl) (ad_cons (pd_var 2) ad_nil))))))) (sd_one (sd_raiseD x_BadPlace (takes_of rfl rfl rfl rfl))) sd_nil)
  (tl_cons (sd_if (td_eq hr.units (pd_var 1) (pd_var 2)) (sd_one (sd_raiseD x_BadPlace (takes_of rfl rfl rfl rfl))) sd_nil)
  (tl_cons (sd_if (td_not (pt_v (pd_callD G_is_price hr (by decide) (takes_of rfl rfl rfl rfl) (ad_cons (pd_var 3) ad_nil)))) (sd_one (sd_raiseD x_BadPrice (takes_of rfl rfl rfl rfl))) sd_nil)
  (tl_cons (sd_if (td_din (hu_of hr) (pd_tup (ad_cons (pd_var 1) (ad_cons (pd_var 2) ad_nil))) (pd_table tar (pd_var 0))) (sd_one (sd_raiseD x_TwiceTold (takes_of rfl rfl rfl rfl))) sd_nil)
  (tl_cons (sd_if (td_ge (pd_len (pd_rows tar (pd_var 0)) b_len) (pd_globI k_MOST_ROWS)) (sd_one (sd_raiseD x_TooMany (takes_of rfl rfl rfl rfl))) sd_nil)
  (tl_end (pss_cons (ps_expr (pe_bm PySem.F.plainAttrs_list PySem.F.slot_list_append PySem.F.type_list_append mt_append (pe_fld (pe_var (i := 0) rfl (by first | exact Or.inl rfl | exact Or.inr (Or.inl rfl) | exact Or.inr (Or.inr rfl))) rfl) (pa_cons (pe_tup (pa_cons (pe_var (i := 1) rfl (by first | exact Or.inl rfl | exact Or.inr (Or.inl rfl) | exact Or.inr (Or.inr rfl))) (pa_cons (pe_var (i := 2) rfl (by first | exact Or.inl rfl | exact Or.inr (Or.inl rfl) | exact Or.inr (Or.inr rfl))) (pa_cons (pe_var (i := 3) rfl (by first | exact Or.inl rfl | exact Or.inr (Or.inl rfl) | exact Or.inr (Or.inr rfl))) pa_nil)))) pa_nil))) (pss_one (ps_dput (hu_of hr) (pe_fld (pe_var (i := 0) rfl (by first | exact Or.inl rfl | exact Or.inr (Or.inl rfl) | exact Or.inr (Or.inr rfl))) rfl) (pe_tup (pa_cons (pe_var (i := 1) rfl (by first | exact Or.inl rfl | exact Or.inr (Or.inl rfl) | exact Or.inr (Or.inr rfl))) (pa_cons (pe_var (i := 2) rfl (by first | exact Or.inl rfl | exact Or.inr (Or.inl rfl) | exact Or.inr (Or.inr rfl))) pa_nil))) (pe_var (i := 3) rfl (by first | exact Or.inl rfl | exact Or.inr (Or.inl rfl) | exact Or.inr (Or.inr rfl))) rfl)))))))))

theorem ok___init__ {P : Program} {w : World} {mg : Str → Option Value} {base : Heap} {T : Par} {f : Addr} {fd : FuncData} (F : Fun T.K "__init__" "Tariff.__init__" s___init__ f fd) (hm : Mk T.K T.C f) (tar : TarC T.K mg T.C) (G_put : MethAt P w T.K mg base T "put" 2 ["self", "here", "there", "price"] (spPut T g_put)) :
    MakeAt P w T.K mg base T 3 g_init := by
  obtain ⟨f2, fd2, m2, b2, G2⟩ := G_put.ex
  refine ⟨f, fd, hm, F.binds (ps := ["self", "rows"]) (fun _ _ _ _ _ _ us hl => match us, hl with | [_, _], _ => rfl), okXN F sc___init__ (fun vs H Q E h => ?_) fun cdv A outer s H vs Q E hr h => ?_⟩
  · obtain ⟨p, dx, v, d, rfl, _⟩ := h
    rfl
  · refine ⟨_, pss_cons (ps_fld (pe_var (i := 0) rfl (by first | exact Or.inl rfl | exact Or.inr (Or.inl rfl) | exact Or.inr (Or.inr rfl))) (pe_lst pa_nil) rfl) (pss_cons (ps_fld (pe_var (i := 0) rfl (by first | exact Or.inl rfl | exact Or.inr (Or.inl rfl) | exact Or.inr (Or.inr rfl))) pe_dnewT rfl) (pss_one (ps_for (passes_of rfl) rfl (pi_list (pe_var (i := 1) rfl (by first | exact Or.inl rfl | exact Or.inr (Or.inl rfl) | exact Or.inr (Or.inr rfl)))) (pg_name (i := 2) sc___init__.nd rfl (Or.inl rfl)) (pss_one (ps_expr (pe_methW (pe_var (i := 0) rfl (by first | exact Or.inl rfl | exact Or.inr (Or.inl rfl) | exact Or.inr (Or.inr rfl))) tar.cl m2 G2 hr b2 (fun σ => passAt (takes_of rfl rfl rfl rfl) σ) (pa_cons (pe_ix ix_seq (pe_var (i := 2) rfl (by first | exact Or.inl rfl | exact Or.inr (Or.inl rfl) | exact Or.inr (Or.inr rfl))) pe_int (fun _ _ => rfl)) (pa_cons (pe_ix ix_seq (pe_var (i := 2) rfl (by first | exact Or.inl rfl | exact Or.inr (Or.inl rfl) | exact Or.inr (Or.inr rfl))) pe_int (fun _ _ => rfl)) (pa_cons (pe_ix ix_seq (pe_var (i := 2) rfl (by first | exact Or.inl rfl | exact Or.inr (Or.inl rfl) | exact Or.inr (Or.inr rfl))) pe_int (fun _ _ => rfl)) pa_nil))))))))), ?_⟩
    exact init_read tar (fun σ H2 q => q) h

theorem ok_price {P : Program} {w : World} {mg : Str → Option Value} {base : Heap} {T : Par} {f : Addr} {fd : FuncData} (F : Fun T.K "price" "Tariff.price" s_price f fd) (hm : Meth T.K T.C "price" f) (tar : TarC T.K mg T.C) :
    MethAt P w T.K mg base T "price" 1 ["self", "here", "there"] (spOf T g_price) := by
  rw [show g_price = defR 3 0 d_price from e_seal _]
  refine ⟨f, fd, hm, F.binds (ps := ["self", "here", "there"]) (fun _ _ _ _ _ _ us hl => match us, hl with | [_, _, _], _ => rfl), fn_def (k := 0) F sc_price rfl rfl (fun cdv A outer s H E hr => ?_)⟩
  unfold d_price
  exact (sd_one (sd_ret (pd_dget1 (hu_of hr) (pd_table tar (pd_var 0)) (pd_tup (ad_cons (pd_var 1) (ad_cons (pd_var 2) ad_nil))) ⟨rfl, rfl, rfl, rfl⟩)))

theorem ok_told {P : Program} {w : World} {mg : Str → Option Value} {base : Heap} {T : Par} {f : Addr} {fd : FuncData} (F : Fun T.K "told" "Tariff.told" s_told f fd) (hm : Meth T.K T.C "told" f) (b_list : mg "list" = none) (tar : TarC T.K mg T.C) :
    MethAt P w T.K mg base T "told" 1 ["self"] (spOf T g_told) := by
  rw [show g_told = defR 1 0 d_told from e_seal _]
  refine ⟨f, fd, hm, F.binds (ps := ["self"]) (fun _ _ _ _ _ _ us hl => match us, hl with | [_], _ => rfl), fn_def (k := 0) F sc_told rfl rfl (fun cdv A outer s H E hr => ?_)⟩
  unfold d_told
  exact (sd_one (sd_ret (pd_list (pd_rows tar (pd_var 0)) b_list)))
theorem okh_told {P : Program} {w : World} {mg : Str → Option Value} {base : Heap} {T : Par} {f : Addr} {fd : FuncData} (F : Fun T.K "told" "Tariff.told" s_told f fd) (hm : Meth T.K T.C "told" f) (b_list : mg "list" = none) (tar : TarC T.K mg T.C) :
    MethAtH P w T.K mg base T "told" 1 ["self"] (spOf T g_told) := by
  rw [show g_told = defR 1 0 d_told from e_seal _]
  refine ⟨f, fd, hm, F.binds (ps := ["self"]) (fun _ _ _ _ _ _ us hl => match us, hl with | [_], _ => rfl), fn_defH (k := 0) F sc_told rfl rfl (fun cdv A outer s H E p hot hr => ?_)⟩
  unfold d_told
  exact (sd_one (sd_ret (pd_list (pd_rows tar (pd_var 0)) b_list)))

theorem ok_need_journey {P : Program} {w : World} {mg : Str → Option Value} {base : Heap} {T : Par} {f : Addr} {fd : FuncData} {t_MOST_PLACES : Tok} (F : Fun T.K "need_journey" "need_journey" s_need_journey f fd) (hm : mg "need_journey" = some (.ref f)) (b_len : mg "len" = none) (b_list : mg "list" = none) (k_MOST_PLACES : mg "MOST_PLACES" = some (.int 40 t_MOST_PLACES)) (x_BadJourney : ExcAt T.K mg T "BadJourney" .journey) (x_BadPlace : ExcAt T.K mg T "BadPlace" .place) (G_is_place : DefAt P w T.K mg base T "is_place" 1 ["thing"] g_is_place) :
    DefAt P w T.K mg base T "need_journey" 2 ["places"] g_need_journey := by
  rw [show g_need_journey = defR 1 2 d_need_journey from e_seal _]
  refine ⟨f, fd, hm, F.kp, F.binds (ps := ["places"]) (fun _ _ _ _ _ _ us hl => match us, hl with | [_], _ => rfl), fn_def (k := 1) F sc_need_journey rfl rfl (fun cdv A outer s H E hr => ?_)⟩
  unfold d_need_journey
  exact (sd_seq (sd_if (td_not (td_chain op_le os_le op_le os_le pd_int (pd_len (pd_var 0) b_len) (pd_globI k_MOST_PLACES))) (sd_one (sd_raiseD x_BadJourney (takes_of rfl rfl rfl rfl))) sd_nil)
  (sd_seq (sd_set 1 pd_non sc_need_journey.nd)
  (sd_seq (sd_for 2 (passes_of rfl) sc_need_journey.nd (id_list (pd_var 0)) (sd_seq (sd_if (td_not (pt_v (pd_callD G_is_place hr (by decide) (takes_of rfl rfl rfl rfl) (ad_cons (pd_var 2) ad_nil)))) (sd_one (sd_raiseD x_BadPlace (takes_of rfl rfl rfl rfl))) sd_nil)
  (sd_seq (sd_if (td_eq hr.units (pd_var 2) (pd_var 1)) (sd_one (sd_raiseD x_BadJourney (takes_of rfl rfl rfl rfl))) sd_nil)
  (sd_one (sd_set 1 (pd_var 2) sc_need_journey.nd)))))
  (sd_one (sd_ret (pd_list (pd_var 0) b_list))))))

theorem ok_fault {P : Program} {w : World} {mg : Str → Option Value} {base : Heap} {T : Par} {f : Addr} {fd : FuncData} (F : Fun T.K "fault" "fault" s_fault f fd) (hm : mg "fault" = some (.ref f)) (b_len : mg "len" = none) (b_range : mg "range" = none) (x_BadCuts : ExcAt T.K mg T "BadCuts" .cuts) (tar : TarC T.K mg T.C) (G_need_journey : DefAt P w T.K mg base T "need_journey" 2 ["places"] g_need_journey) (G_price : MethAt P w T.K mg base T "price" 1 ["self", "here", "there"] (spOf T g_price)) :
    DefAt P w T.K mg base T "fault" 3 ["tariff", "journey", "at", "to"] g_fault := by
  rw [show g_fault = defR 4 5 d_fault from e_seal _]
  refine ⟨f, fd, hm, F.kp, F.binds (ps := ["tariff", "journey", "at", "to"]) (fun _ _ _ _ _ _ us hl => match us, hl with | [_, _, _, _], _ => rfl), fn_def (k := 2) F sc_fault rfl rfl (fun cdv A outer s H E hr => ?_)⟩
  unfold d_fault
  exact (sd_seq (sd_set 4 (pd_callD G_need_journey hr (by decide) (takes_of rfl rfl rfl rfl) (ad_cons (pd_var 1) ad_nil)) sc_fault.nd)
  (sd_seq (sd_if (td_not (td_chain3 op_le os_le op_lt os_lt op_lt os_lt pd_int (pd_var 2) (pd_var 3) (pd_len (pd_var 4) b_len))) (sd_one (sd_raiseD x_BadCuts (takes_of rfl rfl rfl rfl))) sd_nil)
  (sd_seq (sd_set 5 (pd_methD tar G_price hr (by decide) (takes_of rfl rfl rfl rfl) (pd_var 0) (ad_cons (pd_ix (pd_var 4) (pd_var 2)) (ad_cons (pd_ix (pd_var 4) (pd_var 3)) ad_nil))) sc_fault.nd)
  (sd_seq (sd_if (td_isN (pd_var 5)) (sd_one (sd_ret (pd_tup (ad_cons pd_str ad_nil)))) sd_nil)
  (sd_seq (sd_for 6 (passes_of rfl) sc_fault.nd (id_range2 (pd_add (pd_var 2) pd_int) (pd_add (pd_var 3) pd_int) b_range) (sd_one (sd_if (td_in (pd_ix (pd_var 4) (pd_var 6)) (pd_slice (pd_var 4) (od_some (pd_var 2)) (od_some (pd_var 6)))) (sd_one (sd_frzF [6] (sd_ret (pd_tup (ad_cons pd_str (ad_cons (pd_var 6) ad_nil)))))) sd_nil)))
  (sd_seq (sd_for 6 (passes_of rfl) sc_fault.nd (id_range2 (pd_var 2) (pd_var 3) b_range) (sd_one (sd_for 7 (passes_of rfl) sc_fault.nd (id_range2 (pd_add (pd_var 6) pd_int) (pd_add (pd_var 3) pd_int) b_range) (sd_seq (sd_set 8 (pd_methD tar G_price hr (by decide) (takes_of rfl rfl rfl rfl) (pd_var 0) (ad_cons (pd_ix (pd_var 4) (pd_var 6)) (ad_cons (pd_ix (pd_var 4) (pd_var 7)) ad_nil))) sc_fault.nd)
  (sd_one (sd_if (pt_w (wd_and (td_notN (pd_var 8)) (wd_and1 (td_gt (pd_var 8) (pd_var 5))))) (sd_one (sd_frzF [6, 7] (sd_ret (pd_tup (ad_cons pd_str (ad_cons (pd_var 6) (ad_cons (pd_var 7) ad_nil))))))) sd_nil))))))
  (sd_one (sd_ret pd_non))))))))

theorem ok_ends_from {P : Program} {w : World} {mg : Str → Option Value} {base : Heap} {T : Par} {f : Addr} {fd : FuncData} (F : Fun T.K "ends_from" "ends_from" s_ends_from f fd) (hm : mg "ends_from" = some (.ref f)) (b_len : mg "len" = none) (b_max : mg "max" = none) (b_range : mg "range" = none) (tar : TarC T.K mg T.C) (G_price : MethAt P w T.K mg base T "price" 1 ["self", "here", "there"] (spOf T g_price)) :
    DefAt P w T.K mg base T "ends_from" 2 ["tariff", "places", "at", "greatest"] g_ends_from := by
  rw [show g_ends_from = defR 4 6 d_ends_from from e_seal _]
  refine ⟨f, fd, hm, F.kp, F.binds (ps := ["tariff", "places", "at", "greatest"]) (fun _ _ _ _ _ _ us hl => match us, hl with | [_, _, _, _], _ => rfl), fn_def (k := 1) F sc_ends_from rfl rfl (fun cdv A outer s H E hr => ?_)⟩
  unfold d_ends_from
  exact (sd_seq (sd_set 4 (pd_lst ad_nil) sc_ends_from.nd)
  (sd_seq (sd_set 5 (pd_mulA (pd_lst (ad_cons (pd_neg pd_int) ad_nil)) (pd_len (pd_var 1) b_len)) sc_ends_from.nd)
  (sd_seq (sd_set 6 (pd_disp1 (pd_ix (pd_var 1) (pd_var 2)) pd_bl) sc_ends_from.nd)
  (sd_seq (sd_for 7 (passes_of rfl) sc_ends_from.nd (id_range2 (pd_add (pd_var 2) pd_int) (pd_len (pd_var 1) b_len) b_range) (sd_seq (sd_if (td_din (hu_of hr) (pd_ix (pd_var 1) (pd_var 7)) (pd_var 6)) (sd_one sd_break) sd_nil)
  (sd_seq (sd_dput 6 (hu_of hr) pd_bl (pd_ix (pd_var 1) (pd_var 7)))
  (sd_seq (sd_set 8 (pd_methD tar G_price hr (by decide) (takes_of rfl rfl rfl rfl) (pd_var 0) (ad_cons (pd_ix (pd_var 1) (pd_var 2)) (ad_cons (pd_ix (pd_var 1) (pd_var 7)) ad_nil))) sc_ends_from.nd)
  (sd_seq (sd_set 9 (pd_max2 (pd_ix (pd_var 3) (pd_var 7)) (pd_ix (pd_var 5) (pd_sub (pd_var 7) pd_int)) b_max) sc_ends_from.nd)
  (sd_seq (sd_if (pt_w (wd_and (td_notN (pd_var 8)) (wd_and1 (td_ge (pd_var 8) (pd_var 9))))) (sd_seq (sd_append 4 (pd_var 7))
  (sd_one (sd_set 9 (pd_var 8) sc_ends_from.nd))) sd_nil)
  (sd_one (sd_seti 5 (pd_ifExp (td_isN (pd_var 8)) (pd_var 9) (pd_max2 (pd_var 9) (pd_var 8) b_max)) (pd_var 7)))))))))
  (sd_one (sd_frzF [4, 5] (sd_ret (pd_tup (ad_cons (pd_var 4) (ad_cons (pd_var 5) ad_nil))))))))))

theorem ok_held {P : Program} {w : World} {mg : Str → Option Value} {base : Heap} {T : Par} {f : Addr} {fd : FuncData} (F : Fun T.K "held" "held" s_held f fd) (hm : mg "held" = some (.ref f)) (b_len : mg "len" = none) (b_range : mg "range" = none) (G_ends_from : DefAt P w T.K mg base T "ends_from" 2 ["tariff", "places", "at", "greatest"] g_ends_from) (G_need_journey : DefAt P w T.K mg base T "need_journey" 2 ["places"] g_need_journey) :
    DefAt P w T.K mg base T "held" 3 ["tariff", "journey"] g_held := by
  rw [show g_held = defR 2 6 d_held from e_seal _]
  refine ⟨f, fd, hm, F.kp, F.binds (ps := ["tariff", "journey"]) (fun _ _ _ _ _ _ us hl => match us, hl with | [_, _], _ => rfl), fn_def (k := 2) F sc_held rfl rfl (fun cdv A outer s H E hr => ?_)⟩
  unfold d_held
  exact (sd_seq (sd_set 2 (pd_callD G_need_journey hr (by decide) (takes_of rfl rfl rfl rfl) (ad_cons (pd_var 1) ad_nil)) sc_held.nd)
  (sd_seq (sd_setLc 4 3 sc_held.nd (sw_true rfl rfl rfl (by decide +kernel)) (id_list (pd_var 2)) (blkOk_by (own := [("place", 3)]) (N := nm_held) (sc := defScope s_held) (by decide +kernel)) (fun _ => pg_name (i := 3) sc_held.nd rfl (Or.inl rfl)) (fun b => td_nil) (fun b => (pd_lst ad_nil)))
  (sd_seq (sd_set 5 (pd_mulA (pd_lst (ad_cons (pd_neg pd_int) ad_nil)) (pd_len (pd_var 2) b_len)) sc_held.nd)
  (sd_seq (sd_for 6 (passes_of rfl) sc_held.nd (id_range3 (pd_sub (pd_len (pd_var 2) b_len) pd_int) (pd_neg pd_int) (pd_neg pd_int) b_range) (sd_seq (sd_unp 7 5 sc_held.nd (pd_callD G_ends_from hr (by decide) (takes_of rfl rfl rfl rfl) (ad_cons (pd_var 0) (ad_cons (pd_var 2) (ad_cons (pd_var 6) (ad_cons (pd_var 5) ad_nil))))))
  (sd_one (sd_seti 4 (pd_var 7) (pd_var 6)))))
  (sd_one (sd_frzF [4] (sd_ret (pd_var 4))))))))

theorem ok_price_of {P : Program} {w : World} {mg : Str → Option Value} {base : Heap} {T : Par} {f : Addr} {fd : FuncData} (F : Fun T.K "price_of" "price_of" s_price_of f fd) (hm : mg "price_of" = some (.ref f)) (b_len : mg "len" = none) (b_range : mg "range" = none) (x_BadCuts : ExcAt T.K mg T "BadCuts" .cuts) (x_NotHeld : ExcAt T.K mg T "NotHeld" .held) (tar : TarC T.K mg T.C) (G_fault : DefAt P w T.K mg base T "fault" 3 ["tariff", "journey", "at", "to"] g_fault) (G_need_journey : DefAt P w T.K mg base T "need_journey" 2 ["places"] g_need_journey) (G_price : MethAt P w T.K mg base T "price" 1 ["self", "here", "there"] (spOf T g_price)) :
    DefAt P w T.K mg base T "price_of" 4 ["tariff", "journey", "cuts"] g_price_of := by
  rw [show g_price_of = defR 3 3 d_price_of from e_seal _]
  refine ⟨f, fd, hm, F.kp, F.binds (ps := ["tariff", "journey", "cuts"]) (fun _ _ _ _ _ _ us hl => match us, hl with | [_, _, _], _ => rfl), fn_def (k := 3) F sc_price_of rfl rfl (fun cdv A outer s H E hr => ?_)⟩
  unfold d_price_of
  exact (sd_seq (sd_set 3 (pd_callD G_need_journey hr (by decide) (takes_of rfl rfl rfl rfl) (ad_cons (pd_var 1) ad_nil)) sc_price_of.nd)
  (sd_seq (sd_if (pt_w (wd_or (td_lt (pd_len (pd_var 2) b_len) pd_int) (wd_or (td_ne hr.units (pd_ix (pd_var 2) pd_int) pd_int) (wd_or1 (td_ne hr.units (pd_ix (pd_var 2) (pd_neg pd_int)) (pd_sub (pd_len (pd_var 3) b_len) pd_int)))))) (sd_one (sd_raiseD x_BadCuts (takes_of rfl rfl rfl rfl))) sd_nil)
  (sd_seq (sd_for 4 (passes_of rfl) sc_price_of.nd (id_range2 pd_int (pd_len (pd_var 2) b_len) b_range) (sd_one (sd_if (td_le (pd_ix (pd_var 2) (pd_var 4)) (pd_ix (pd_var 2) (pd_sub (pd_var 4) pd_int))) (sd_one (sd_raiseD x_BadCuts (takes_of rfl rfl rfl rfl))) sd_nil)))
  (sd_seq (sd_set 5 pd_int sc_price_of.nd)
  (sd_seq (sd_for 4 (passes_of rfl) sc_price_of.nd (id_range2 pd_int (pd_len (pd_var 2) b_len) b_range) (sd_seq (sd_if (td_notN (pd_callD G_fault hr (by decide) (takes_of rfl rfl rfl rfl) (ad_cons (pd_var 0) (ad_cons (pd_var 3) (ad_cons (pd_ix (pd_var 2) (pd_sub (pd_var 4) pd_int)) (ad_cons (pd_ix (pd_var 2) (pd_var 4)) ad_nil)))))) (sd_one (sd_raiseD x_NotHeld (takes_of rfl rfl rfl rfl))) sd_nil)
  (sd_one (sd_set 5 (pd_add (pd_var 5) (pd_methD tar G_price hr (by decide) (takes_of rfl rfl rfl rfl) (pd_var 0) (ad_cons (pd_ix (pd_var 3) (pd_ix (pd_var 2) (pd_sub (pd_var 4) pd_int))) (ad_cons (pd_ix (pd_var 3) (pd_ix (pd_var 2) (pd_var 4))) ad_nil)))) sc_price_of.nd))))
  (sd_one (sd_frzF [5] (sd_ret (pd_var 5)))))))))

theorem ok_walked_back {P : Program} {w : World} {mg : Str → Option Value} {base : Heap} {T : Par} {f : Addr} {fd : FuncData} (F : Fun T.K "walked_back" "walked_back" s_walked_back f fd) (hm : mg "walked_back" = some (.ref f)) (b_len : mg "len" = none) (b_range : mg "range" = none) (tar : TarC T.K mg T.C) (G_held : DefAt P w T.K mg base T "held" 3 ["tariff", "journey"] g_held) (G_price : MethAt P w T.K mg base T "price" 1 ["self", "here", "there"] (spOf T g_price)) :
    DefAt P w T.K mg base T "walked_back" 4 ["tariff", "places"] g_walked_back := by
  rw [show g_walked_back = defR 2 8 d_walked_back from e_seal _]
  refine ⟨f, fd, hm, F.kp, F.binds (ps := ["tariff", "places"]) (fun _ _ _ _ _ _ us hl => match us, hl with | [_, _], _ => rfl), fn_def (k := 3) F sc_walked_back rfl rfl (fun cdv A outer s H E hr => ?_)⟩
  unfold d_walked_back
  exact (sd_seq (sd_set 2 (pd_callD G_held hr (by decide) (takes_of rfl rfl rfl rfl) (ad_cons (pd_var 0) (ad_cons (pd_var 1) ad_nil))) sc_walked_back.nd)
  (sd_seq (sd_set 3 (pd_sub (pd_len (pd_var 1) b_len) pd_int) sc_walked_back.nd)
  (sd_seq (sd_setLc 5 4 sc_walked_back.nd (sw_true rfl rfl rfl (by decide +kernel)) (id_list (pd_var 1)) (blkOk_by (own := [("place", 4)]) (N := nm_walked_back) (sc := defScope s_walked_back) (by decide +kernel)) (fun _ => pg_name (i := 4) sc_walked_back.nd rfl (Or.inl rfl)) (fun b => td_nil) (fun b => pd_non))
  (sd_seq (sd_seti 5 (pd_tup (ad_cons pd_int (ad_cons pd_int (ad_cons (pd_var 3) ad_nil)))) (pd_var 3))
  (sd_seq (sd_frzF [2] (sd_for 6 (passes_of rfl) sc_walked_back.nd (id_range3 (pd_sub (pd_var 3) pd_int) (pd_neg pd_int) (pd_neg pd_int) b_range) (sd_one (sd_for 7 (passes_of rfl) sc_walked_back.nd (id_list (pd_ix (pd_var 2) (pd_var 6))) (sd_one (sd_if (td_notN (pd_ix (pd_var 5) (pd_var 7))) (sd_seq (sd_set 8 (pd_add (pd_methD tar G_price hr (by decide) (takes_of rfl rfl rfl rfl) (pd_var 0) (ad_cons (pd_ix (pd_var 1) (pd_var 6)) (ad_cons (pd_ix (pd_var 1) (pd_var 7)) ad_nil))) (pd_ix (pd_ix (pd_var 5) (pd_var 7)) pd_int)) sc_walked_back.nd)
  (sd_seq (sd_set 9 (pd_add (pd_ix (pd_ix (pd_var 5) (pd_var 7)) pd_int) pd_int) sc_walked_back.nd)
  (sd_one (sd_if (pt_w (wd_or (td_isN (pd_ix (pd_var 5) (pd_var 6))) (wd_or1 (td_leT (hu_of hr) (pd_tup (ad_cons (pd_var 8) (ad_cons (pd_var 9) ad_nil))) (pd_tup (ad_cons (pd_ix (pd_ix (pd_var 5) (pd_var 6)) pd_int) (ad_cons (pd_ix (pd_ix (pd_var 5) (pd_var 6)) pd_int) ad_nil))))))) (sd_one (sd_seti 5 (pd_tup (ad_cons (pd_var 8) (ad_cons (pd_var 9) (ad_cons (pd_var 7) ad_nil)))) (pd_var 6))) sd_nil)))) sd_nil))))))
  (sd_one (sd_frzF [5] (sd_ret (pd_var 5)))))))))

theorem ok_left {P : Program} {w : World} {mg : Str → Option Value} {base : Heap} {T : Par} {f : Addr} {fd : FuncData} (F : Fun T.K "left" "left" s_left f fd) (hm : mg "left" = some (.ref f)) (G_need_journey : DefAt P w T.K mg base T "need_journey" 2 ["places"] g_need_journey) (G_walked_back : DefAt P w T.K mg base T "walked_back" 4 ["tariff", "places"] g_walked_back) :
    DefAt P w T.K mg base T "left" 5 ["tariff", "journey"] g_left := by
  rw [show g_left = defR 2 2 d_left from e_seal _]
  refine ⟨f, fd, hm, F.kp, F.binds (ps := ["tariff", "journey"]) (fun _ _ _ _ _ _ us hl => match us, hl with | [_, _], _ => rfl), fn_def (k := 4) F sc_left rfl rfl (fun cdv A outer s H E hr => ?_)⟩
  unfold d_left
  exact (sd_seq (sd_set 2 (pd_lst ad_nil) sc_left.nd)
  (sd_seq (sd_for 3 (passes_of rfl) sc_left.nd (id_list (pd_callD G_walked_back hr (by decide) (takes_of rfl rfl rfl rfl) (ad_cons (pd_var 0) (ad_cons (pd_callD G_need_journey hr (by decide) (takes_of rfl rfl rfl rfl) (ad_cons (pd_var 1) ad_nil)) ad_nil)))) (sd_one (sd_if (td_isN (pd_var 3)) (sd_one (sd_append 2 pd_non)) (sd_one (sd_append 2 (pd_ix (pd_var 3) pd_int))))))
  (sd_one (sd_frzF [2] (sd_ret (pd_var 2))))))

theorem ok_priced {P : Program} {w : World} {mg : Str → Option Value} {base : Heap} {T : Par} {f : Addr} {fd : FuncData} (F : Fun T.K "priced" "priced" s_priced f fd) (hm : mg "priced" = some (.ref f)) (b_len : mg "len" = none) (x_NoParting : ExcAt T.K mg T "NoParting" .parting) (G_need_journey : DefAt P w T.K mg base T "need_journey" 2 ["places"] g_need_journey) (G_walked_back : DefAt P w T.K mg base T "walked_back" 4 ["tariff", "places"] g_walked_back) :
    DefAt P w T.K mg base T "priced" 5 ["tariff", "journey"] g_priced := by
  rw [show g_priced = defR 2 2 d_priced from e_seal _]
  refine ⟨f, fd, hm, F.kp, F.binds (ps := ["tariff", "journey"]) (fun _ _ _ _ _ _ us hl => match us, hl with | [_, _], _ => rfl), fn_def (k := 4) F sc_priced rfl rfl (fun cdv A outer s H E hr => ?_)⟩
  unfold d_priced
  exact (sd_seq (sd_set 2 (pd_callD G_walked_back hr (by decide) (takes_of rfl rfl rfl rfl) (ad_cons (pd_var 0) (ad_cons (pd_callD G_need_journey hr (by decide) (takes_of rfl rfl rfl rfl) (ad_cons (pd_var 1) ad_nil)) ad_nil))) sc_priced.nd)
  (sd_seq (sd_if (td_isN (pd_ix (pd_var 2) pd_int)) (sd_one (sd_raiseD x_NoParting (takes_of rfl rfl rfl rfl))) sd_nil)
  (sd_seq (sd_set 3 (pd_lst (ad_cons pd_int ad_nil)) sc_priced.nd)
  (sd_seq (sd_while 64 (passes_of rfl) (td_lt (pd_ix (pd_var 3) (pd_neg pd_int)) (pd_sub (pd_len (pd_var 2) b_len) pd_int)) (sd_one (sd_append 3 (pd_ix (pd_ix (pd_var 2) (pd_ix (pd_var 3) (pd_neg pd_int))) pd_int))))
  (sd_one (sd_frzF [3] (sd_ret (pd_tup (ad_cons (pd_ix (pd_ix (pd_var 2) pd_int) pd_int) (ad_cons (pd_var 3) ad_nil))))))))))

theorem ok_parted {P : Program} {w : World} {mg : Str → Option Value} {base : Heap} {T : Par} {f : Addr} {fd : FuncData} (F : Fun T.K "parted" "parted" s_parted f fd) (hm : mg "parted" = some (.ref f)) (G_priced : DefAt P w T.K mg base T "priced" 5 ["tariff", "journey"] g_priced) :
    DefAt P w T.K mg base T "parted" 6 ["tariff", "journey"] g_parted := by
  rw [show g_parted = defR 2 0 d_parted from e_seal _]
  refine ⟨f, fd, hm, F.kp, F.binds (ps := ["tariff", "journey"]) (fun _ _ _ _ _ _ us hl => match us, hl with | [_, _], _ => rfl), fn_def (k := 5) F sc_parted rfl rfl (fun cdv A outer s H E hr => ?_)⟩
  unfold d_parted
  exact (sd_one (sd_ret (pd_ix (pd_callD G_priced hr (by decide) (takes_of rfl rfl rfl rfl) (ad_cons (pd_var 0) (ad_cons (pd_var 1) ad_nil))) pd_int)))

theorem ok_line_of {P : Program} {w : World} {mg : Str → Option Value} {base : Heap} {T : Par} {f : Addr} {fd : FuncData} (F : Fun T.K "line_of" "line_of" s_line_of f fd) (hm : mg "line_of" = some (.ref f)) (b_str : mg "str" = none) :
    DefAt P w T.K mg base T "line_of" 1 ["here", "there", "price"] g_line_of := by
  rw [show g_line_of = defR 3 0 d_line_of from e_seal _]
  refine ⟨f, fd, hm, F.kp, F.binds (ps := ["here", "there", "price"]) (fun _ _ _ _ _ _ us hl => match us, hl with | [_, _, _], _ => rfl), fn_def (k := 0) F sc_line_of rfl rfl (fun cdv A outer s H E hr => ?_)⟩
  unfold d_line_of
  exact (sd_one (sd_ret (pd_add (pd_add (pd_add (pd_add (pd_var 0) pd_str) (pd_var 1)) pd_str) (pd_strI (pd_var 2) b_str))))

theorem ok_bill {P : Program} {w : World} {mg : Str → Option Value} {base : Heap} {T : Par} {f : Addr} {fd : FuncData} (F : Fun T.K "bill" "bill" s_bill f fd) (hm : mg "bill" = some (.ref f)) (b_len : mg "len" = none) (b_range : mg "range" = none) (b_str : mg "str" = none) (tar : TarC T.K mg T.C) (G_line_of : DefAt P w T.K mg base T "line_of" 1 ["here", "there", "price"] g_line_of) (G_need_journey : DefAt P w T.K mg base T "need_journey" 2 ["places"] g_need_journey) (G_price : MethAt P w T.K mg base T "price" 1 ["self", "here", "there"] (spOf T g_price)) (G_priced : DefAt P w T.K mg base T "priced" 5 ["tariff", "journey"] g_priced) :
    DefAt P w T.K mg base T "bill" 6 ["tariff", "journey"] g_bill := by
  rw [show g_bill = defR 2 7 d_bill from e_seal _]
  refine ⟨f, fd, hm, F.kp, F.binds (ps := ["tariff", "journey"]) (fun _ _ _ _ _ _ us hl => match us, hl with | [_, _], _ => rfl), fn_def (k := 5) F sc_bill rfl rfl (fun cdv A outer s H E hr => ?_)⟩
  unfold d_bill
  exact (sd_seq (sd_set 2 (pd_callD G_need_journey hr (by decide) (takes_of rfl rfl rfl rfl) (ad_cons (pd_var 1) ad_nil)) sc_bill.nd)
  (sd_seq (sd_unp 3 4 sc_bill.nd (pd_callD G_priced hr (by decide) (takes_of rfl rfl rfl rfl) (ad_cons (pd_var 0) (ad_cons (pd_var 2) ad_nil))))
  (sd_seq (sd_set 5 (pd_lst ad_nil) sc_bill.nd)
  (sd_seq (sd_for 6 (passes_of rfl) sc_bill.nd (id_range2 pd_int (pd_len (pd_var 4) b_len) b_range) (sd_seq (sd_set 7 (pd_ix (pd_var 2) (pd_ix (pd_var 4) (pd_sub (pd_var 6) pd_int))) sc_bill.nd)
  (sd_seq (sd_set 8 (pd_ix (pd_var 2) (pd_ix (pd_var 4) (pd_var 6))) sc_bill.nd)
  (sd_one (sd_append 5 (pd_callD G_line_of hr (by decide) (takes_of rfl rfl rfl rfl) (ad_cons (pd_var 7) (ad_cons (pd_var 8) (ad_cons (pd_methD tar G_price hr (by decide) (takes_of rfl rfl rfl rfl) (pd_var 0) (ad_cons (pd_var 7) (ad_cons (pd_var 8) ad_nil))) ad_nil)))))))))
  (sd_seq (sd_append 5 (pd_add pd_str (pd_strI (pd_var 3) b_str)))
  (sd_one (sd_frzF [5] (sd_ret (pd_var 5)))))))))

theorem ok__law_cell_at {P : Program} {w : World} {mg : Str → Option Value} {base : Heap} {T : Par} {f : Addr} {fd : FuncData} (F : Fun T.K "_law_cell_at" "_law_cell_at" s__law_cell_at f fd) (hm : mg "_law_cell_at" = some (.ref f)) (b_len : mg "len" = none) :
    DefAt P w T.K mg base T "_law_cell_at" 1 ["_law_script", "_law_k"] g_law_cell_at := by
  rw [show g_law_cell_at = defR 2 0 d_law_cell_at from e_seal _]
  refine ⟨f, fd, hm, F.kp, F.binds (ps := ["_law_script", "_law_k"]) (fun _ _ _ _ _ _ us hl => match us, hl with | [_, _], _ => rfl), fn_def (k := 0) F sc__law_cell_at rfl rfl (fun cdv A outer s H E hr => ?_)⟩
  unfold d_law_cell_at
  exact (sd_seq (sd_if (td_lt (pd_var 1) (pd_len (pd_var 0) b_len)) (sd_one (sd_ret (pd_ix (pd_var 0) (pd_var 1)))) sd_nil)
  (sd_one (sd_ret pd_int)))

theorem ok__law_place {P : Program} {w : World} {mg : Str → Option Value} {base : Heap} {T : Par} {f : Addr} {fd : FuncData} (F : Fun T.K "_law_place" "_law_place" s__law_place f fd) (hm : mg "_law_place" = some (.ref f)) (b_range : mg "range" = none) :
    DefAt P w T.K mg base T "_law_place" 1 ["_law_cell"] g_law_place := by
  rw [show g_law_place = defR 1 2 d_law_place from e_seal _]
  refine ⟨f, fd, hm, F.kp, F.binds (ps := ["_law_cell"]) (fun _ _ _ _ _ _ us hl => match us, hl with | [_], _ => rfl), fn_def (k := 0) F sc__law_place rfl rfl (fun cdv A outer s H E hr => ?_)⟩
  unfold d_law_place
  exact (sd_seq (sd_set 1 pd_str sc__law_place.nd)
  (sd_one (sd_ret (pd_join pd_str (pd_lc 2 sc__law_place.nd (id_range1 (pd_add pd_int (pd_mod (pd_var 0) pd_int)) b_range) (blkOk_by (own := [("_law_k", 2)]) (N := nm__law_place) (sc := defScope s__law_place) (by decide +kernel)) (fun _ => pg_name (i := 2) sc__law_place.nd rfl (Or.inl rfl)) (fun b => td_nil) (fun b => (pd_ix (pd_var 1) (pd_mod (pd_add (pd_div (pd_var 0) pd_int) (pd_mulA (pd_var 2) (pd_mod (pd_div (pd_var 0) pd_int) pd_int))) pd_int))))))))

theorem ok__law_row {P : Program} {w : World} {mg : Str → Option Value} {base : Heap} {T : Par} {f : Addr} {fd : FuncData} (F : Fun T.K "_law_row" "_law_row" s__law_row f fd) (hm : mg "_law_row" = some (.ref f)) (b_int : mg "int" = none) (b_range : mg "range" = none) (G__law_cell_at : DefAt P w T.K mg base T "_law_cell_at" 1 ["_law_script", "_law_k"] g_law_cell_at) (G__law_place : DefAt P w T.K mg base T "_law_place" 1 ["_law_cell"] g_law_place) :
    DefAt P w T.K mg base T "_law_row" 2 ["_law_script"] g_law_row := by
  rw [show g_law_row = defR 1 4 d_law_row from e_seal _]
  refine ⟨f, fd, hm, F.kp, F.binds (ps := ["_law_script"]) (fun _ _ _ _ _ _ us hl => match us, hl with | [_], _ => rfl), fn_def (k := 1) F sc__law_row rfl rfl (fun cdv A outer s H E hr => ?_)⟩
  unfold d_law_row
  exact (sd_seq (sd_set 1 (pd_mod (pd_callD G__law_cell_at hr (by decide) (takes_of rfl rfl rfl rfl) (ad_cons (pd_var 0) (ad_cons pd_int ad_nil))) pd_int) sc__law_row.nd)
  (sd_seq (sd_if (td_eq hr.units (pd_mod (pd_div (pd_callD G__law_cell_at hr (by decide) (takes_of rfl rfl rfl rfl) (ad_cons (pd_var 0) (ad_cons pd_int ad_nil))) pd_int) pd_int) pd_int) (sd_one (sd_set 1 (pd_ix (pd_lst (ad_cons pd_int (ad_cons pd_int (ad_cons pd_int (ad_cons pd_int (ad_cons pd_int (ad_cons pd_int ad_nil))))))) (pd_mod (pd_div (pd_callD G__law_cell_at hr (by decide) (takes_of rfl rfl rfl rfl) (ad_cons (pd_var 0) (ad_cons pd_int ad_nil))) pd_int) pd_int)) sc__law_row.nd)) sd_nil)
  (sd_seq (sd_set 2 (pd_lst ad_nil) sc__law_row.nd)
  (sd_seq (sd_for 3 (passes_of rfl) sc__law_row.nd (id_range1 (pd_var 1) b_range) (sd_seq (sd_set 4 (pd_callD G__law_place hr (by decide) (takes_of rfl rfl rfl rfl) (ad_cons (pd_add (pd_callD G__law_cell_at hr (by decide) (takes_of rfl rfl rfl rfl) (ad_cons (pd_var 0) (ad_cons (pd_add pd_int (pd_mod (pd_var 3) pd_int)) ad_nil))) (pd_mulA pd_int (pd_div (pd_var 3) pd_int))) ad_nil)) sc__law_row.nd)
  (sd_seq (sd_if (pt_w (wd_and (td_gt (pd_var 3) pd_int) (wd_and1 (td_eq hr.units (pd_var 4) (pd_ix (pd_var 2) (pd_sub (pd_var 3) pd_int)))))) (sd_one (sd_set 4 (pd_ix (pd_lst (ad_cons pd_str (ad_cons pd_str ad_nil))) (pd_intc (pd_eq hr.units (pd_var 4) pd_str) b_int)) sc__law_row.nd)) sd_nil)
  (sd_one (sd_append 2 (pd_var 4))))))
  (sd_one (sd_frzF [2] (sd_ret (pd_var 2))))))))

theorem ok__law_bad {P : Program} {w : World} {mg : Str → Option Value} {base : Heap} {T : Par} {f : Addr} {fd : FuncData} (F : Fun T.K "_law_bad" "_law_bad" s__law_bad f fd) (hm : mg "_law_bad" = some (.ref f)) :
    DefAt P w T.K mg base T "_law_bad" 1 ["_law_cell", "_law_name"] g_law_bad := by
  rw [show g_law_bad = defR 2 2 d_law_bad from e_seal _]
  refine ⟨f, fd, hm, F.kp, F.binds (ps := ["_law_cell", "_law_name"]) (fun _ _ _ _ _ _ us hl => match us, hl with | [_, _], _ => rfl), fn_def (k := 0) F sc__law_bad rfl rfl (fun cdv A outer s H E hr => ?_)⟩
  unfold d_law_bad
  exact (sd_seq (sd_set 2 (pd_mod (pd_div (pd_var 0) pd_int) pd_int) sc__law_bad.nd)
  (sd_seq (sd_set 3 (pd_add (pd_slice (pd_var 1) od_none (od_some (pd_var 2))) (pd_ix pd_str (pd_mod (pd_div (pd_var 0) pd_int) pd_int))) sc__law_bad.nd)
  (sd_seq (sd_set 3 (pd_add (pd_var 3) (pd_slice (pd_slice (pd_var 1) (od_some (pd_var 2)) od_none) od_none (od_some pd_int))) sc__law_bad.nd)
  (sd_one (sd_ret (pd_ix (pd_lst (ad_cons pd_str (ad_cons (pd_mulA (pd_slice (pd_var 1) od_none (od_some pd_int)) pd_int) (ad_cons (pd_slice (pd_var 3) od_none (od_some pd_int)) (ad_cons pd_non (ad_cons pd_int (ad_cons (pd_mulA (pd_slice (pd_var 1) od_none (od_some pd_int)) pd_int) (ad_cons (pd_slice (pd_var 3) od_none (od_some pd_int)) ad_nil)))))))) (pd_mod (pd_var 0) pd_int)))))))

theorem ok__law_is_place {P : Program} {w : World} {mg : Str → Option Value} {base : Heap} {T : Par} {f : Addr} {fd : FuncData} (F : Fun T.K "_law_is_place" "_law_is_place" s__law_is_place f fd) (hm : mg "_law_is_place" = some (.ref f)) (b_isinstance : mg "isinstance" = none) (b_len : mg "len" = none) (b_str : mg "str" = none) :
    DefAt P w T.K mg base T "_law_is_place" 1 ["_law_thing"] g_law_is_place := by
  rw [show g_law_is_place = defR 1 1 d_law_is_place from e_seal _]
  refine ⟨f, fd, hm, F.kp, F.binds (ps := ["_law_thing"]) (fun _ _ _ _ _ _ us hl => match us, hl with | [_], _ => rfl), fn_def (k := 0) F sc__law_is_place rfl rfl (fun cdv A outer s H E hr => ?_)⟩
  unfold d_law_is_place
  exact (sd_seq (sd_if (pt_w (wd_or (td_not (pt_v (pd_isi (n := "str") (pd_var 0) b_isinstance b_str (by decide +kernel)))) (wd_or1 (td_not (td_chain op_le os_le op_le os_le pd_int (pd_len (pd_var 0) b_len) pd_int))))) (sd_one (sd_ret pd_bl)) sd_nil)
  (sd_one (sd_ret (pd_eq hr.units (pd_lc 1 sc__law_is_place.nd (id_str (pd_var 0)) (blkOk_by (own := [("_law_sign", 1)]) (N := nm__law_is_place) (sc := defScope s__law_is_place) (by decide +kernel)) (fun _ => pg_name (i := 1) sc__law_is_place.nd rfl (Or.inl rfl)) (fun b => (td_one (td_notIn (pd_var 1) pd_str))) (fun b => (pd_var 1))) (pd_lst ad_nil)))))
theorem okh__law_is_place {P : Program} {w : World} {mg : Str → Option Value} {base : Heap} {T : Par} {f : Addr} {fd : FuncData} (F : Fun T.K "_law_is_place" "_law_is_place" s__law_is_place f fd) (hm : mg "_law_is_place" = some (.ref f)) (b_isinstance : mg "isinstance" = none) (b_len : mg "len" = none) (b_str : mg "str" = none) :
    DefAtH P w T.K mg base T "_law_is_place" 1 ["_law_thing"] g_law_is_place := by
  rw [show g_law_is_place = defR 1 1 d_law_is_place from e_seal _]
  refine ⟨f, fd, hm, F.kp, F.binds (ps := ["_law_thing"]) (fun _ _ _ _ _ _ us hl => match us, hl with | [_], _ => rfl), fn_defH (k := 0) F sc__law_is_place rfl rfl (fun cdv A outer s H E p hot hr => ?_)⟩
  unfold d_law_is_place
  exact (sd_seq (sd_if (pt_w (wd_or (td_not (pt_v (pd_isi (n := "str") (pd_var 0) b_isinstance b_str (by decide +kernel)))) (wd_or1 (td_not (td_chain op_le os_le op_le os_le pd_int (pd_len (pd_var 0) b_len) pd_int))))) (sd_one (sd_ret pd_bl)) sd_nil)
  (sd_one (sd_ret (pd_eq (RoomH_units hr) (pd_lcH 1 sc__law_is_place.nd (hot_def hot) (id_strH (pd_var 0)) (blkOk_by (own := [("_law_sign", 1)]) (N := nm__law_is_place) (sc := defScope s__law_is_place) (by decide +kernel)) (fun _ => pg_name (i := 1) sc__law_is_place.nd rfl (Or.inl rfl)) (fun b => (td_one (td_notIn (pd_var 1) pd_str))) (fun b => (pd_var 1))) (pd_lst ad_nil)))))

theorem ok__law_due {P : Program} {w : World} {mg : Str → Option Value} {base : Heap} {T : Par} {f : Addr} {fd : FuncData} (F : Fun T.K "_law_due" "_law_due" s__law_due f fd) (hm : mg "_law_due" = some (.ref f)) (b_len : mg "len" = none) (b_range : mg "range" = none) (G__law_is_place : DefAt P w T.K mg base T "_law_is_place" 1 ["_law_thing"] g_law_is_place) :
    DefAt P w T.K mg base T "_law_due" 2 ["_law_row_here"] g_law_due := by
  rw [show g_law_due = defR 1 1 d_law_due from e_seal _]
  refine ⟨f, fd, hm, F.kp, F.binds (ps := ["_law_row_here"]) (fun _ _ _ _ _ _ us hl => match us, hl with | [_], _ => rfl), fn_def (k := 1) F sc__law_due rfl rfl (fun cdv A outer s H E hr => ?_)⟩
  unfold d_law_due
  exact (sd_seq (sd_if (td_not (td_chain op_le os_le op_le os_le pd_int (pd_len (pd_var 0) b_len) pd_int)) (sd_one (sd_ret pd_str)) sd_nil)
  (sd_seq (sd_for 1 (passes_of rfl) sc__law_due.nd (id_range1 (pd_len (pd_var 0) b_len) b_range) (sd_seq (sd_if (td_not (pt_v (pd_callD G__law_is_place hr (by decide) (takes_of rfl rfl rfl rfl) (ad_cons (pd_ix (pd_var 0) (pd_var 1)) ad_nil)))) (sd_one (sd_ret pd_str)) sd_nil)
  (sd_one (sd_if (pt_w (wd_and (td_gt (pd_var 1) pd_int) (wd_and1 (td_eq hr.units (pd_ix (pd_var 0) (pd_var 1)) (pd_ix (pd_var 0) (pd_sub (pd_var 1) pd_int)))))) (sd_one (sd_ret pd_str)) sd_nil))))
  (sd_one (sd_ret pd_str))))
theorem okh__law_due {P : Program} {w : World} {mg : Str → Option Value} {base : Heap} {T : Par} {f : Addr} {fd : FuncData} (F : Fun T.K "_law_due" "_law_due" s__law_due f fd) (hm : mg "_law_due" = some (.ref f)) (b_len : mg "len" = none) (b_range : mg "range" = none) (H__law_is_place : DefAtH P w T.K mg base T "_law_is_place" 1 ["_law_thing"] g_law_is_place) :
    DefAtH P w T.K mg base T "_law_due" 2 ["_law_row_here"] g_law_due := by
  rw [show g_law_due = defR 1 1 d_law_due from e_seal _]
  refine ⟨f, fd, hm, F.kp, F.binds (ps := ["_law_row_here"]) (fun _ _ _ _ _ _ us hl => match us, hl with | [_], _ => rfl), fn_defH (k := 1) F sc__law_due rfl rfl (fun cdv A outer s H E p hot hr => ?_)⟩
  unfold d_law_due
  exact (sd_seq (sd_if (td_not (td_chain op_le os_le op_le os_le pd_int (pd_len (pd_var 0) b_len) pd_int)) (sd_one (sd_ret pd_str)) sd_nil)
  (sd_seq (sd_forH 1 (passes_of rfl) sc__law_due.nd (hot_def hot) (id_range1H (pd_len (pd_var 0) b_len) b_range) (sd_seq (sd_if (td_not (pt_v (pd_callDH H__law_is_place (hot_def hot) hr (by decide) (takes_of rfl rfl rfl rfl) (ad_cons (pd_ix (pd_var 0) (pd_var 1)) ad_nil)))) (sd_one (sd_ret pd_str)) sd_nil)
  (sd_one (sd_if (pt_w (wd_and (td_gt (pd_var 1) pd_int) (wd_and1 (td_eq (RoomH_units hr) (pd_ix (pd_var 0) (pd_var 1)) (pd_ix (pd_var 0) (pd_sub (pd_var 1) pd_int)))))) (sd_one (sd_ret pd_str)) sd_nil))))
  (sd_one (sd_ret pd_str))))

theorem ok__law_tariff {P : Program} {w : World} {mg : Str → Option Value} {base : Heap} {T : Par} {f : Addr} {fd : FuncData} (F : Fun T.K "_law_tariff" "_law_tariff" s__law_tariff f fd) (hm : mg "_law_tariff" = some (.ref f)) (b_len : mg "len" = none) (b_range : mg "range" = none) (G__law_is_place : DefAt P w T.K mg base T "_law_is_place" 1 ["_law_thing"] g_law_is_place) :
    DefAt P w T.K mg base T "_law_tariff" 2 ["_law_row_here"] g_law_tariff := by
  rw [show g_law_tariff = defR 1 3 d_law_tariff from e_seal _]
  refine ⟨f, fd, hm, F.kp, F.binds (ps := ["_law_row_here"]) (fun _ _ _ _ _ _ us hl => match us, hl with | [_], _ => rfl), fn_def (k := 1) F sc__law_tariff rfl rfl (fun cdv A outer s H E hr => ?_)⟩
  unfold d_law_tariff
  exact (sd_seq (sd_set 1 (pd_lst ad_nil) sc__law_tariff.nd)
  (sd_seq (sd_for 2 (passes_of rfl) sc__law_tariff.nd (id_range2 pd_int (pd_len (pd_var 0) b_len) b_range) (sd_one (sd_if (pt_w (wd_and (pt_v (pd_callD G__law_is_place hr (by decide) (takes_of rfl rfl rfl rfl) (ad_cons (pd_ix (pd_var 0) (pd_var 2)) ad_nil))) (wd_and (pt_v (pd_callD G__law_is_place hr (by decide) (takes_of rfl rfl rfl rfl) (ad_cons (pd_ix (pd_var 0) (pd_sub (pd_var 2) pd_int)) ad_nil))) (wd_and1 (td_ne hr.units (pd_ix (pd_var 0) (pd_var 2)) (pd_ix (pd_var 0) (pd_sub (pd_var 2) pd_int))))))) (sd_one (sd_if (td_eq hr.units (pd_lc 3 sc__law_tariff.nd (id_list (pd_var 1)) (blkOk_by (own := [("_law_one", 3)]) (N := nm__law_tariff) (sc := defScope s__law_tariff) (by decide +kernel)) (fun _ => pg_name (i := 3) sc__law_tariff.nd rfl (Or.inl rfl)) (fun b => (td_one (pt_w (wd_and (td_eq hr.units (pd_ix (pd_var 3) pd_int) (pd_ix (pd_var 0) (pd_sub (pd_var 2) pd_int))) (wd_and1 (td_eq hr.units (pd_ix (pd_var 3) pd_int) (pd_ix (pd_var 0) (pd_var 2)))))))) (fun b => pd_int)) (pd_lst ad_nil)) (sd_one (sd_append 1 (pd_tup (ad_cons (pd_ix (pd_var 0) (pd_sub (pd_var 2) pd_int)) (ad_cons (pd_ix (pd_var 0) (pd_var 2)) (ad_cons (pd_mulA pd_int (pd_var 2)) ad_nil)))))) sd_nil)) sd_nil)))
  (sd_one (sd_frzF [1] (sd_ret (pd_var 1))))))

theorem ok__law_deed {P : Program} {w : World} {mg : Str → Option Value} {base : Heap} {T : Par} {f : Addr} {fd : FuncData} (F : Fun T.K "_law_deed" "_law_deed" s__law_deed f fd) (hm : mg "_law_deed" = some (.ref f)) (b_len : mg "len" = none) (G_bill : DefAt P w T.K mg base T "bill" 6 ["tariff", "journey"] g_bill) (G_fault : DefAt P w T.K mg base T "fault" 3 ["tariff", "journey", "at", "to"] g_fault) (G_held : DefAt P w T.K mg base T "held" 3 ["tariff", "journey"] g_held) (G_left : DefAt P w T.K mg base T "left" 5 ["tariff", "journey"] g_left) (G_parted : DefAt P w T.K mg base T "parted" 6 ["tariff", "journey"] g_parted) (G_price_of : DefAt P w T.K mg base T "price_of" 4 ["tariff", "journey", "cuts"] g_price_of) (G_priced : DefAt P w T.K mg base T "priced" 5 ["tariff", "journey"] g_priced) :
    DefAt P w T.K mg base T "_law_deed" 7 ["_law_pick", "_law_tariff_here", "_law_row_here"] g_law_deed := by
  rw [show g_law_deed = defR 3 1 d_law_deed from e_seal _]
  refine ⟨f, fd, hm, F.kp, F.binds (ps := ["_law_pick", "_law_tariff_here", "_law_row_here"]) (fun _ _ _ _ _ _ us hl => match us, hl with | [_, _, _], _ => rfl), fn_def (k := 6) F sc__law_deed rfl rfl (fun cdv A outer s H E hr => ?_)⟩
  unfold d_law_deed
  exact (sd_seq (sd_set 3 (pd_mod (pd_div (pd_var 0) pd_int) pd_int) sc__law_deed.nd)
  (sd_seq (sd_if (td_eq hr.units (pd_mod (pd_var 0) pd_int) pd_int) (sd_one (sd_ret (pd_callD G_fault hr (by decide) (takes_of rfl rfl rfl rfl) (ad_cons (pd_var 1) (ad_cons (pd_var 2) (ad_cons (pd_ix (pd_lst (ad_cons pd_int (ad_cons pd_int (ad_cons (pd_neg pd_int) ad_nil)))) (pd_var 3)) (ad_cons (pd_ix (pd_lst (ad_cons pd_int (ad_cons pd_int (ad_cons pd_int ad_nil)))) (pd_var 3)) ad_nil))))))) sd_nil)
  (sd_seq (sd_if (td_eq hr.units (pd_mod (pd_var 0) pd_int) pd_int) (sd_one (sd_ret (pd_callD G_held hr (by decide) (takes_of rfl rfl rfl rfl) (ad_cons (pd_var 1) (ad_cons (pd_var 2) ad_nil))))) sd_nil)
  (sd_seq (sd_if (td_eq hr.units (pd_mod (pd_var 0) pd_int) pd_int) (sd_one (sd_ret (pd_callD G_price_of hr (by decide) (takes_of rfl rfl rfl rfl) (ad_cons (pd_var 1) (ad_cons (pd_var 2) (ad_cons (pd_ix (pd_lst (ad_cons (pd_lst (ad_cons pd_int (ad_cons (pd_sub (pd_len (pd_var 2) b_len) pd_int) ad_nil))) (ad_cons (pd_lst ad_nil) (ad_cons (pd_lst (ad_cons pd_int (ad_cons pd_int ad_nil))) ad_nil)))) (pd_var 3)) ad_nil)))))) sd_nil)
  (sd_seq (sd_if (td_eq hr.units (pd_mod (pd_var 0) pd_int) pd_int) (sd_one (sd_ret (pd_callD G_left hr (by decide) (takes_of rfl rfl rfl rfl) (ad_cons (pd_var 1) (ad_cons (pd_var 2) ad_nil))))) sd_nil)
  (sd_seq (sd_if (td_eq hr.units (pd_mod (pd_var 0) pd_int) pd_int) (sd_one (sd_ret (pd_callD G_parted hr (by decide) (takes_of rfl rfl rfl rfl) (ad_cons (pd_var 1) (ad_cons (pd_var 2) ad_nil))))) sd_nil)
  (sd_seq (sd_if (td_eq hr.units (pd_mod (pd_var 0) pd_int) pd_int) (sd_one (sd_ret (pd_callD G_priced hr (by decide) (takes_of rfl rfl rfl rfl) (ad_cons (pd_var 1) (ad_cons (pd_var 2) ad_nil))))) sd_nil)
  (sd_one (sd_ret (pd_callD G_bill hr (by decide) (takes_of rfl rfl rfl rfl) (ad_cons (pd_var 1) (ad_cons (pd_var 2) ad_nil))))))))))))

theorem ok_law {P : Program} {w : World} {mg : Str → Option Value} {base : Heap} {T : Par} {f : Addr} {fd : FuncData} (F : Fun T.K "law" "law" s_law f fd) (b_int : mg "int" = none) (b_isinstance : mg "isinstance" = none) (b_len : mg "len" = none) (b_list : mg "list" = none) (b_range : mg "range" = none) (c_BadJourney : ClsAt T.K mg T "BadJourney" (takeOnly .journey)) (c_BadPlace : ClsAt T.K mg T "BadPlace" (takeOnly .place)) (c_FareError : ClsAt T.K mg T "FareError" takeAll) (excC : ∀ c, ExcC T.K (T.cx c)) (excV : ∀ c, PySem.W.kitOne T.K (.ref (T.cx c)) (.type "ValueError") = some true) (tar : TarC T.K mg T.C) (G_init : MakeAt P w T.K mg base T 3 g_init) (G__law_bad : DefAt P w T.K mg base T "_law_bad" 1 ["_law_cell", "_law_name"] g_law_bad) (G__law_cell_at : DefAt P w T.K mg base T "_law_cell_at" 1 ["_law_script", "_law_k"] g_law_cell_at) (G__law_deed : DefAt P w T.K mg base T "_law_deed" 7 ["_law_pick", "_law_tariff_here", "_law_row_here"] g_law_deed) (G__law_place : DefAt P w T.K mg base T "_law_place" 1 ["_law_cell"] g_law_place) (G__law_row : DefAt P w T.K mg base T "_law_row" 2 ["_law_script"] g_law_row) (G__law_tariff : DefAt P w T.K mg base T "_law_tariff" 2 ["_law_row_here"] g_law_tariff) (H__law_due : DefAtH P w T.K mg base T "_law_due" 2 ["_law_row_here"] g_law_due) (H_told : MethAtH P w T.K mg base T "told" 1 ["self"] (spOf T g_told)) :
    FnOk P w T.K mg base (L2N.CX P w) 8 f fd ["_law_script"] (spOf T g_law) := by
  rw [show g_law = defR 1 8 d_law from e_seal _]
  refine fn_def (k := 7) F sc_law rfl rfl (fun cdv A outer s H E hr => ?_)
  unfold d_law
  exact (sd_seq (sd_set 1 (pd_callD G__law_row hr (by decide) (takes_of rfl rfl rfl rfl) (ad_cons (pd_var 0) ad_nil)) sc_law.nd)
  (sd_seq (sd_for 2 (passes_of rfl) sc_law.nd (id_range1 (pd_add pd_int (pd_mod (pd_callD G__law_cell_at hr (by decide) (takes_of rfl rfl rfl rfl) (ad_cons (pd_var 0) (ad_cons pd_int ad_nil))) pd_int)) b_range) (sd_one (sd_if (td_gt (pd_len (pd_var 1) b_len) pd_int) (sd_seq (sd_set 3 (pd_mod (pd_callD G__law_cell_at hr (by decide) (takes_of rfl rfl rfl rfl) (ad_cons (pd_var 0) (ad_cons (pd_add pd_int (pd_var 2)) ad_nil))) (pd_len (pd_var 1) b_len)) sc_law.nd)
  (sd_seq (sd_set 4 (pd_callD G__law_cell_at hr (by decide) (takes_of rfl rfl rfl rfl) (ad_cons (pd_var 0) (ad_cons (pd_sub pd_int (pd_var 2)) ad_nil))) sc_law.nd)
  (sd_one (sd_if (pt_w (wd_or (td_eq hr.units (pd_var 3) pd_int) (wd_or1 (td_eq hr.units (pd_mod (pd_div (pd_callD G__law_cell_at hr (by decide) (takes_of rfl rfl rfl rfl) (ad_cons (pd_var 0) (ad_cons pd_int ad_nil))) (pd_add pd_int (pd_var 2))) pd_int) pd_int)))) (sd_one (sd_seti 1 (pd_callD G__law_bad hr (by decide) (takes_of rfl rfl rfl rfl) (ad_cons (pd_var 4) (ad_cons (pd_callD G__law_place hr (by decide) (takes_of rfl rfl rfl rfl) (ad_cons (pd_div (pd_var 4) pd_int) ad_nil)) ad_nil))) (pd_var 3))) (sd_one (sd_seti 1 (pd_ix (pd_var 1) (pd_sub (pd_var 3) pd_int)) (pd_var 3))))))) sd_nil)))
  (sd_seq (sd_set 5 (pd_callD G__law_tariff hr (by decide) (takes_of rfl rfl rfl rfl) (ad_cons (pd_var 1) ad_nil)) sc_law.nd)
  (sd_seq (sd_set 6 (pd_mkD tar G_init hr (by decide) (takes_of rfl rfl rfl rfl) (ad_cons (pd_var 5) ad_nil)) sc_law.nd)
  (sd_seq (sd_set 7 (pd_list (pd_var 1) b_list) sc_law.nd)
  (sd_seq (sd_tryA 8 sc_law.nd c_FareError (takes_of rfl rfl rfl rfl) (fun W2 pn xe tk hp => (sd_one (sd_expr (pd_callD G__law_deed hr (by decide) tk (ad_cons (pd_callD G__law_cell_at hr (by decide) tk (ad_cons (pd_var 0) (ad_cons pd_int ad_nil))) (ad_cons (pd_var 6) (ad_cons (pd_var 7) ad_nil))))))) (fun a oe cls d pn hz hf => (sd_seq (sd_if (pt_w (wd_or (td_ne hr.units (pd_var 7) (pd_var 1)) (wd_or (td_ne hr.units (pd_methDH0 tar H_told (hot_suite hz hf) (roomH_mark (roomH_of hr)) (by decide) takes0 (pd_var 6)) (pd_var 5)) (wd_or1 (td_eq hr.units (pd_isEO 8 hz hf excC c_BadPlace b_isinstance) (pd_isEO 8 hz hf excC c_BadJourney b_isinstance)))))) (sd_one (sd_ret pd_bl)) sd_nil)
  (sd_one (sd_ret (pd_eq hr.units (pd_ix (pd_lst (ad_cons pd_str (ad_cons pd_str ad_nil))) (pd_intc (pd_isEO 8 hz hf excC c_BadJourney b_isinstance) b_int)) (pd_callDH H__law_due (hot_suite hz hf) (roomH_mark (roomH_of hr)) (by decide) takes0 (ad_cons (pd_var 1) ad_nil))))))))
  (sd_one (sd_ret pd_bl))))))))

end DD

set_option maxRecDepth 100000
set_option maxHeartbeats 4000000
namespace DD
open PySem L2N
open L2 hiding XE Takes CX takes_of passes_call MkP PMk ps_raise mk_of ps_try_as pmk_own passAt HdsOk ps_try_many ps_try_only takes0
open L2H (HotC Hot1 RoomH roomH_of)
theorem all_mk {l : PySem.W.OpenLaw} {w : World} {K : PySem.W.Frag} {h : Heap} {mg : Str → Option Value} {fa : Addr} (X : K.In h) (G : h.Ns mainGlobals mg) (hfa : mg "law" = some (.ref fa))
    {a_FareError : Addr}
    {a_BadPlace : Addr}
    {a_BadPrice : Addr}
    {a_TwiceTold : Addr}
    {a_TooMany : Addr}
    {a_BadJourney : Addr}
    {a_BadCuts : Addr}
    {a_NotHeld : Addr}
    {a_NoParting : Addr}
    {a_Tariff : Addr}
    {t_LETTERS : Tok}
    {t_MOST_PLACES : Tok}
    {t_MOST_PRICE : Tok}
    {t_MOST_ROWS : Tok}
    {t_MOST_SIGNS : Tok}
    {f_is_place : Addr} {oc_is_place kV_is_place dc_is_place pm_is_place cd_is_place ct_is_place : Value} {od_is_place an_is_place : Option Addr} {sl_is_place : Array (Option Value)}
    {f_is_price : Addr} {oc_is_price kV_is_price dc_is_price pm_is_price cd_is_price ct_is_price : Value} {od_is_price an_is_price : Option Addr} {sl_is_price : Array (Option Value)}
    {f_put : Addr} {oc_put kV_put dc_put pm_put cd_put ct_put : Value} {od_put an_put : Option Addr} {sl_put : Array (Option Value)}
    {f___init__ : Addr} {oc___init__ kV___init__ dc___init__ pm___init__ cd___init__ ct___init__ : Value} {od___init__ an___init__ : Option Addr} {sl___init__ : Array (Option Value)}
    {f_price : Addr} {oc_price kV_price dc_price pm_price cd_price ct_price : Value} {od_price an_price : Option Addr} {sl_price : Array (Option Value)}
    {f_told : Addr} {oc_told kV_told dc_told pm_told cd_told ct_told : Value} {od_told an_told : Option Addr} {sl_told : Array (Option Value)}
    {f_need_journey : Addr} {oc_need_journey kV_need_journey dc_need_journey pm_need_journey cd_need_journey ct_need_journey : Value} {od_need_journey an_need_journey : Option Addr} {sl_need_journey : Array (Option Value)}
    {f_fault : Addr} {oc_fault kV_fault dc_fault pm_fault cd_fault ct_fault : Value} {od_fault an_fault : Option Addr} {sl_fault : Array (Option Value)}
    {f_ends_from : Addr} {oc_ends_from kV_ends_from dc_ends_from pm_ends_from cd_ends_from ct_ends_from : Value} {od_ends_from an_ends_from : Option Addr} {sl_ends_from : Array (Option Value)}
    {f_held : Addr} {oc_held kV_held dc_held pm_held cd_held ct_held : Value} {od_held an_held : Option Addr} {sl_held : Array (Option Value)}
    {f_price_of : Addr} {oc_price_of kV_price_of dc_price_of pm_price_of cd_price_of ct_price_of : Value} {od_price_of an_price_of : Option Addr} {sl_price_of : Array (Option Value)}
    {f_walked_back : Addr} {oc_walked_back kV_walked_back dc_walked_back pm_walked_back cd_walked_back ct_walked_back : Value} {od_walked_back an_walked_back : Option Addr} {sl_walked_back : Array (Option Value)}
    {f_left : Addr} {oc_left kV_left dc_left pm_left cd_left ct_left : Value} {od_left an_left : Option Addr} {sl_left : Array (Option Value)}
    {f_priced : Addr} {oc_priced kV_priced dc_priced pm_priced cd_priced ct_priced : Value} {od_priced an_priced : Option Addr} {sl_priced : Array (Option Value)}
    {f_parted : Addr} {oc_parted kV_parted dc_parted pm_parted cd_parted ct_parted : Value} {od_parted an_parted : Option Addr} {sl_parted : Array (Option Value)}
    {f_line_of : Addr} {oc_line_of kV_line_of dc_line_of pm_line_of cd_line_of ct_line_of : Value} {od_line_of an_line_of : Option Addr} {sl_line_of : Array (Option Value)}
    {f_bill : Addr} {oc_bill kV_bill dc_bill pm_bill cd_bill ct_bill : Value} {od_bill an_bill : Option Addr} {sl_bill : Array (Option Value)}
    {f__law_cell_at : Addr} {oc__law_cell_at kV__law_cell_at dc__law_cell_at pm__law_cell_at cd__law_cell_at ct__law_cell_at : Value} {od__law_cell_at an__law_cell_at : Option Addr} {sl__law_cell_at : Array (Option Value)}
    {f__law_place : Addr} {oc__law_place kV__law_place dc__law_place pm__law_place cd__law_place ct__law_place : Value} {od__law_place an__law_place : Option Addr} {sl__law_place : Array (Option Value)}
    {f__law_row : Addr} {oc__law_row kV__law_row dc__law_row pm__law_row cd__law_row ct__law_row : Value} {od__law_row an__law_row : Option Addr} {sl__law_row : Array (Option Value)}
    {f__law_bad : Addr} {oc__law_bad kV__law_bad dc__law_bad pm__law_bad cd__law_bad ct__law_bad : Value} {od__law_bad an__law_bad : Option Addr} {sl__law_bad : Array (Option Value)}
    {f__law_is_place : Addr} {oc__law_is_place kV__law_is_place dc__law_is_place pm__law_is_place cd__law_is_place ct__law_is_place : Value} {od__law_is_place an__law_is_place : Option Addr} {sl__law_is_place : Array (Option Value)}
    {f__law_due : Addr} {oc__law_due kV__law_due dc__law_due pm__law_due cd__law_due ct__law_due : Value} {od__law_due an__law_due : Option Addr} {sl__law_due : Array (Option Value)}
    {f__law_tariff : Addr} {oc__law_tariff kV__law_tariff dc__law_tariff pm__law_tariff cd__law_tariff ct__law_tariff : Value} {od__law_tariff an__law_tariff : Option Addr} {sl__law_tariff : Array (Option Value)}
    {f__law_deed : Addr} {oc__law_deed kV__law_deed dc__law_deed pm__law_deed cd__law_deed ct__law_deed : Value} {od__law_deed an__law_deed : Option Addr} {sl__law_deed : Array (Option Value)}
    {f_law : Addr} {oc_law kV_law dc_law pm_law cd_law ct_law : Value} {od_law an_law : Option Addr} {sl_law : Array (Option Value)}
    (na_FareError : PySem.W.nsIn K mainGlobals "FareError" = some (some (.ref a_FareError)))
    (xx_FareError : PySem.W.excIn K a_FareError [.type "ValueError", .type "Exception", .type "BaseException", .type "object"] "ValueError.__new__" = true)
    (xk_FareError : PySem.W.keepIn K (.ref a_FareError) = true)
    (xb_FareError : PySem.W.subIn K (.ref a_FareError) (.type "BaseException") = some true)
    (xt_FareError : PySem.W.typeIn K (.ref a_FareError) = some (.type "type"))
    (xd_FareError : PySem.W.hasDictIn K a_FareError = true)
    (xg_FareError : PySem.W.findIn K (.ref a_FareError) "__getattribute__" = some (some (.builtin "BaseException.__getattribute__")))
    (xa_FareError : PySem.W.findIn K (.ref a_FareError) "__getattr__" = some none)
    (xc_FareError : PySem.W.findIn K (.ref a_FareError) "__class__" = some (some (.builtin "object.__class__")))
    (xm_FareError : PySem.W.mroIn K a_FareError (.type "object") = some true)
    (xv_FareError : PySem.W.subIn K (.ref a_FareError) (.type "ValueError") = some true)
    (na_BadPlace : PySem.W.nsIn K mainGlobals "BadPlace" = some (some (.ref a_BadPlace)))
    (xx_BadPlace : PySem.W.excIn K a_BadPlace [.type "ValueError", .type "Exception", .type "BaseException", .type "object"] "ValueError.__new__" = true)
    (xk_BadPlace : PySem.W.keepIn K (.ref a_BadPlace) = true)
    (xb_BadPlace : PySem.W.subIn K (.ref a_BadPlace) (.type "BaseException") = some true)
    (xt_BadPlace : PySem.W.typeIn K (.ref a_BadPlace) = some (.type "type"))
    (xd_BadPlace : PySem.W.hasDictIn K a_BadPlace = true)
    (xg_BadPlace : PySem.W.findIn K (.ref a_BadPlace) "__getattribute__" = some (some (.builtin "BaseException.__getattribute__")))
    (xa_BadPlace : PySem.W.findIn K (.ref a_BadPlace) "__getattr__" = some none)
    (xc_BadPlace : PySem.W.findIn K (.ref a_BadPlace) "__class__" = some (some (.builtin "object.__class__")))
    (xm_BadPlace : PySem.W.mroIn K a_BadPlace (.type "object") = some true)
    (xv_BadPlace : PySem.W.subIn K (.ref a_BadPlace) (.type "ValueError") = some true)
    (na_BadPrice : PySem.W.nsIn K mainGlobals "BadPrice" = some (some (.ref a_BadPrice)))
    (xx_BadPrice : PySem.W.excIn K a_BadPrice [.type "ValueError", .type "Exception", .type "BaseException", .type "object"] "ValueError.__new__" = true)
    (xk_BadPrice : PySem.W.keepIn K (.ref a_BadPrice) = true)
    (xb_BadPrice : PySem.W.subIn K (.ref a_BadPrice) (.type "BaseException") = some true)
    (xt_BadPrice : PySem.W.typeIn K (.ref a_BadPrice) = some (.type "type"))
    (xd_BadPrice : PySem.W.hasDictIn K a_BadPrice = true)
    (xg_BadPrice : PySem.W.findIn K (.ref a_BadPrice) "__getattribute__" = some (some (.builtin "BaseException.__getattribute__")))
    (xa_BadPrice : PySem.W.findIn K (.ref a_BadPrice) "__getattr__" = some none)
    (xc_BadPrice : PySem.W.findIn K (.ref a_BadPrice) "__class__" = some (some (.builtin "object.__class__")))
    (xm_BadPrice : PySem.W.mroIn K a_BadPrice (.type "object") = some true)
    (xv_BadPrice : PySem.W.subIn K (.ref a_BadPrice) (.type "ValueError") = some true)
    (na_TwiceTold : PySem.W.nsIn K mainGlobals "TwiceTold" = some (some (.ref a_TwiceTold)))
    (xx_TwiceTold : PySem.W.excIn K a_TwiceTold [.type "ValueError", .type "Exception", .type "BaseException", .type "object"] "ValueError.__new__" = true)
    (xk_TwiceTold : PySem.W.keepIn K (.ref a_TwiceTold) = true)
    (xb_TwiceTold : PySem.W.subIn K (.ref a_TwiceTold) (.type "BaseException") = some true)
    (xt_TwiceTold : PySem.W.typeIn K (.ref a_TwiceTold) = some (.type "type"))
    (xd_TwiceTold : PySem.W.hasDictIn K a_TwiceTold = true)
    (xg_TwiceTold : PySem.W.findIn K (.ref a_TwiceTold) "__getattribute__" = some (some (.builtin "BaseException.__getattribute__")))
    (xa_TwiceTold : PySem.W.findIn K (.ref a_TwiceTold) "__getattr__" = some none)
    (xc_TwiceTold : PySem.W.findIn K (.ref a_TwiceTold) "__class__" = some (some (.builtin "object.__class__")))
    (xm_TwiceTold : PySem.W.mroIn K a_TwiceTold (.type "object") = some true)
    (xv_TwiceTold : PySem.W.subIn K (.ref a_TwiceTold) (.type "ValueError") = some true)
    (na_TooMany : PySem.W.nsIn K mainGlobals "TooMany" = some (some (.ref a_TooMany)))
    (xx_TooMany : PySem.W.excIn K a_TooMany [.type "ValueError", .type "Exception", .type "BaseException", .type "object"] "ValueError.__new__" = true)
    (xk_TooMany : PySem.W.keepIn K (.ref a_TooMany) = true)
    (xb_TooMany : PySem.W.subIn K (.ref a_TooMany) (.type "BaseException") = some true)
    (xt_TooMany : PySem.W.typeIn K (.ref a_TooMany) = some (.type "type"))
    (xd_TooMany : PySem.W.hasDictIn K a_TooMany = true)
    (xg_TooMany : PySem.W.findIn K (.ref a_TooMany) "__getattribute__" = some (some (.builtin "BaseException.__getattribute__")))
    (xa_TooMany : PySem.W.findIn K (.ref a_TooMany) "__getattr__" = some none)
    (xc_TooMany : PySem.W.findIn K (.ref a_TooMany) "__class__" = some (some (.builtin "object.__class__")))
    (xm_TooMany : PySem.W.mroIn K a_TooMany (.type "object") = some true)
    (xv_TooMany : PySem.W.subIn K (.ref a_TooMany) (.type "ValueError") = some true)
    (na_BadJourney : PySem.W.nsIn K mainGlobals "BadJourney" = some (some (.ref a_BadJourney)))
    (xx_BadJourney : PySem.W.excIn K a_BadJourney [.type "ValueError", .type "Exception", .type "BaseException", .type "object"] "ValueError.__new__" = true)
    (xk_BadJourney : PySem.W.keepIn K (.ref a_BadJourney) = true)
    (xb_BadJourney : PySem.W.subIn K (.ref a_BadJourney) (.type "BaseException") = some true)
    (xt_BadJourney : PySem.W.typeIn K (.ref a_BadJourney) = some (.type "type"))
    (xd_BadJourney : PySem.W.hasDictIn K a_BadJourney = true)
    (xg_BadJourney : PySem.W.findIn K (.ref a_BadJourney) "__getattribute__" = some (some (.builtin "BaseException.__getattribute__")))
    (xa_BadJourney : PySem.W.findIn K (.ref a_BadJourney) "__getattr__" = some none)
    (xc_BadJourney : PySem.W.findIn K (.ref a_BadJourney) "__class__" = some (some (.builtin "object.__class__")))
    (xm_BadJourney : PySem.W.mroIn K a_BadJourney (.type "object") = some true)
    (xv_BadJourney : PySem.W.subIn K (.ref a_BadJourney) (.type "ValueError") = some true)
    (na_BadCuts : PySem.W.nsIn K mainGlobals "BadCuts" = some (some (.ref a_BadCuts)))
    (xx_BadCuts : PySem.W.excIn K a_BadCuts [.type "ValueError", .type "Exception", .type "BaseException", .type "object"] "ValueError.__new__" = true)
    (xk_BadCuts : PySem.W.keepIn K (.ref a_BadCuts) = true)
    (xb_BadCuts : PySem.W.subIn K (.ref a_BadCuts) (.type "BaseException") = some true)
    (xt_BadCuts : PySem.W.typeIn K (.ref a_BadCuts) = some (.type "type"))
    (xd_BadCuts : PySem.W.hasDictIn K a_BadCuts = true)
    (xg_BadCuts : PySem.W.findIn K (.ref a_BadCuts) "__getattribute__" = some (some (.builtin "BaseException.__getattribute__")))
    (xa_BadCuts : PySem.W.findIn K (.ref a_BadCuts) "__getattr__" = some none)
    (xc_BadCuts : PySem.W.findIn K (.ref a_BadCuts) "__class__" = some (some (.builtin "object.__class__")))
    (xm_BadCuts : PySem.W.mroIn K a_BadCuts (.type "object") = some true)
    (xv_BadCuts : PySem.W.subIn K (.ref a_BadCuts) (.type "ValueError") = some true)
    (na_NotHeld : PySem.W.nsIn K mainGlobals "NotHeld" = some (some (.ref a_NotHeld)))
    (xx_NotHeld : PySem.W.excIn K a_NotHeld [.type "ValueError", .type "Exception", .type "BaseException", .type "object"] "ValueError.__new__" = true)
    (xk_NotHeld : PySem.W.keepIn K (.ref a_NotHeld) = true)
    (xb_NotHeld : PySem.W.subIn K (.ref a_NotHeld) (.type "BaseException") = some true)
    (xt_NotHeld : PySem.W.typeIn K (.ref a_NotHeld) = some (.type "type"))
    (xd_NotHeld : PySem.W.hasDictIn K a_NotHeld = true)
    (xg_NotHeld : PySem.W.findIn K (.ref a_NotHeld) "__getattribute__" = some (some (.builtin "BaseException.__getattribute__")))
    (xa_NotHeld : PySem.W.findIn K (.ref a_NotHeld) "__getattr__" = some none)
    (xc_NotHeld : PySem.W.findIn K (.ref a_NotHeld) "__class__" = some (some (.builtin "object.__class__")))
    (xm_NotHeld : PySem.W.mroIn K a_NotHeld (.type "object") = some true)
    (xv_NotHeld : PySem.W.subIn K (.ref a_NotHeld) (.type "ValueError") = some true)
    (na_NoParting : PySem.W.nsIn K mainGlobals "NoParting" = some (some (.ref a_NoParting)))
    (xx_NoParting : PySem.W.excIn K a_NoParting [.type "ValueError", .type "Exception", .type "BaseException", .type "object"] "ValueError.__new__" = true)
    (xk_NoParting : PySem.W.keepIn K (.ref a_NoParting) = true)
    (xb_NoParting : PySem.W.subIn K (.ref a_NoParting) (.type "BaseException") = some true)
    (xt_NoParting : PySem.W.typeIn K (.ref a_NoParting) = some (.type "type"))
    (xd_NoParting : PySem.W.hasDictIn K a_NoParting = true)
    (xg_NoParting : PySem.W.findIn K (.ref a_NoParting) "__getattribute__" = some (some (.builtin "BaseException.__getattribute__")))
    (xa_NoParting : PySem.W.findIn K (.ref a_NoParting) "__getattr__" = some none)
    (xc_NoParting : PySem.W.findIn K (.ref a_NoParting) "__class__" = some (some (.builtin "object.__class__")))
    (xm_NoParting : PySem.W.mroIn K a_NoParting (.type "object") = some true)
    (xv_NoParting : PySem.W.subIn K (.ref a_NoParting) (.type "ValueError") = some true)
    (xn : PySem.W.specialIn K (.builtin "object.__class__") "__get__" = some (some (.builtin "getset_descriptor.__get__")))
    (xh : PySem.W.takesIn K (.builtin "object.__class__") = some true)
    (se_FareError_BadJourney : PySem.W.subIn K (.ref a_FareError) (.ref a_BadJourney) = some false)
    (se_BadPlace_BadJourney : PySem.W.subIn K (.ref a_BadPlace) (.ref a_BadJourney) = some false)
    (se_BadPrice_BadJourney : PySem.W.subIn K (.ref a_BadPrice) (.ref a_BadJourney) = some false)
    (se_TwiceTold_BadJourney : PySem.W.subIn K (.ref a_TwiceTold) (.ref a_BadJourney) = some false)
    (se_TooMany_BadJourney : PySem.W.subIn K (.ref a_TooMany) (.ref a_BadJourney) = some false)
    (se_BadJourney_BadJourney : PySem.W.subIn K (.ref a_BadJourney) (.ref a_BadJourney) = some true)
    (se_BadCuts_BadJourney : PySem.W.subIn K (.ref a_BadCuts) (.ref a_BadJourney) = some false)
    (se_NotHeld_BadJourney : PySem.W.subIn K (.ref a_NotHeld) (.ref a_BadJourney) = some false)
    (se_NoParting_BadJourney : PySem.W.subIn K (.ref a_NoParting) (.ref a_BadJourney) = some false)
    (se_FareError_BadPlace : PySem.W.subIn K (.ref a_FareError) (.ref a_BadPlace) = some false)
    (se_BadPlace_BadPlace : PySem.W.subIn K (.ref a_BadPlace) (.ref a_BadPlace) = some true)
    (se_BadPrice_BadPlace : PySem.W.subIn K (.ref a_BadPrice) (.ref a_BadPlace) = some false)
    (se_TwiceTold_BadPlace : PySem.W.subIn K (.ref a_TwiceTold) (.ref a_BadPlace) = some false)
    (se_TooMany_BadPlace : PySem.W.subIn K (.ref a_TooMany) (.ref a_BadPlace) = some false)
    (se_BadJourney_BadPlace : PySem.W.subIn K (.ref a_BadJourney) (.ref a_BadPlace) = some false)
    (se_BadCuts_BadPlace : PySem.W.subIn K (.ref a_BadCuts) (.ref a_BadPlace) = some false)
    (se_NotHeld_BadPlace : PySem.W.subIn K (.ref a_NotHeld) (.ref a_BadPlace) = some false)
    (se_NoParting_BadPlace : PySem.W.subIn K (.ref a_NoParting) (.ref a_BadPlace) = some false)
    (se_FareError_FareError : PySem.W.subIn K (.ref a_FareError) (.ref a_FareError) = some true)
    (se_BadPlace_FareError : PySem.W.subIn K (.ref a_BadPlace) (.ref a_FareError) = some true)
    (se_BadPrice_FareError : PySem.W.subIn K (.ref a_BadPrice) (.ref a_FareError) = some true)
    (se_TwiceTold_FareError : PySem.W.subIn K (.ref a_TwiceTold) (.ref a_FareError) = some true)
    (se_TooMany_FareError : PySem.W.subIn K (.ref a_TooMany) (.ref a_FareError) = some true)
    (se_BadJourney_FareError : PySem.W.subIn K (.ref a_BadJourney) (.ref a_FareError) = some true)
    (se_BadCuts_FareError : PySem.W.subIn K (.ref a_BadCuts) (.ref a_FareError) = some true)
    (se_NotHeld_FareError : PySem.W.subIn K (.ref a_NotHeld) (.ref a_FareError) = some true)
    (se_NoParting_FareError : PySem.W.subIn K (.ref a_NoParting) (.ref a_FareError) = some true)
    (na_Tariff : PySem.W.nsIn K mainGlobals "Tariff" = some (some (.ref a_Tariff)))
    (tc_pg : PySem.W.plainGet K a_Tariff Str.empty = true)
    (tc_hd : PySem.W.hasDictIn K a_Tariff = true)
    (tc_po : PySem.W.plainOver K a_Tariff = true)
    (tc_sa : PySem.W.findIn K (.ref a_Tariff) "__setattr__" = some (some (.builtin "object.__setattr__")))
    (tc_mk : PySem.W.makesIn K a_Tariff = true)
    (tc_kc : PySem.W.keepIn K (.ref a_Tariff) = true)
    (tc_nr : PySem.W.findIn K (.ref a_Tariff) "rows" = some none)
    (tc_nt : PySem.W.findIn K (.ref a_Tariff) "table" = some none)
    (zb_bool : PySem.W.nsIn K mainGlobals "bool" = some none)
    (zb_int : PySem.W.nsIn K mainGlobals "int" = some none)
    (zb_isinstance : PySem.W.nsIn K mainGlobals "isinstance" = some none)
    (zb_len : PySem.W.nsIn K mainGlobals "len" = some none)
    (zb_list : PySem.W.nsIn K mainGlobals "list" = some none)
    (zb_max : PySem.W.nsIn K mainGlobals "max" = some none)
    (zb_range : PySem.W.nsIn K mainGlobals "range" = some none)
    (zb_str : PySem.W.nsIn K mainGlobals "str" = some none)
    (zk_LETTERS : PySem.W.nsIn K mainGlobals "LETTERS" = some (some (.str "abcdefghijklmnopqrstuvwxyz" t_LETTERS)))
    (zk_MOST_PLACES : PySem.W.nsIn K mainGlobals "MOST_PLACES" = some (some (.int 40 t_MOST_PLACES)))
    (zk_MOST_PRICE : PySem.W.nsIn K mainGlobals "MOST_PRICE" = some (some (.int 1000000000000 t_MOST_PRICE)))
    (zk_MOST_ROWS : PySem.W.nsIn K mainGlobals "MOST_ROWS" = some (some (.int 160 t_MOST_ROWS)))
    (zk_MOST_SIGNS : PySem.W.nsIn K mainGlobals "MOST_SIGNS" = some (some (.int 12 t_MOST_SIGNS)))
    (nf_is_place : PySem.W.nsIn K mainGlobals "is_place" = some (some (.ref f_is_place)))
    (lf_is_place : K.lookup f_is_place = some ⟨oc_is_place, od_is_place, .func (PySem.W.fnOf "is_place" "is_place" (defArgs s_is_place) (defBody s_is_place) (defScope s_is_place) .none kV_is_place dc_is_place pm_is_place an_is_place cd_is_place ct_is_place), sl_is_place⟩)
    (cf_is_place : PySem.W.codeIn K cd_is_place "is_place" = true)
    (kf_is_place : PySem.W.keepIn K (.ref f_is_place) = true)
    (nf_is_price : PySem.W.nsIn K mainGlobals "is_price" = some (some (.ref f_is_price)))
    (lf_is_price : K.lookup f_is_price = some ⟨oc_is_price, od_is_price, .func (PySem.W.fnOf "is_price" "is_price" (defArgs s_is_price) (defBody s_is_price) (defScope s_is_price) .none kV_is_price dc_is_price pm_is_price an_is_price cd_is_price ct_is_price), sl_is_price⟩)
    (cf_is_price : PySem.W.codeIn K cd_is_price "is_price" = true)
    (kf_is_price : PySem.W.keepIn K (.ref f_is_price) = true)
    (nf_put : PySem.W.findIn K (.ref a_Tariff) "put" = some (some (.ref f_put)))
    (if_put : PySem.W.isFn K (.ref f_put) = true)
    (lf_put : K.lookup f_put = some ⟨oc_put, od_put, .func (PySem.W.fnOf "put" "Tariff.put" (defArgs s_put) (defBody s_put) (defScope s_put) .none kV_put dc_put pm_put an_put cd_put ct_put), sl_put⟩)
    (cf_put : PySem.W.codeIn K cd_put "Tariff.put" = true)
    (kf_put : PySem.W.keepIn K (.ref f_put) = true)
    (nf___init__ : PySem.W.findIn K (.ref a_Tariff) "__init__" = some (some (.ref f___init__)))
    (if___init__ : PySem.W.isFn K (.ref f___init__) = true)
    (lf___init__ : K.lookup f___init__ = some ⟨oc___init__, od___init__, .func (PySem.W.fnOf "__init__" "Tariff.__init__" (defArgs s___init__) (defBody s___init__) (defScope s___init__) .none kV___init__ dc___init__ pm___init__ an___init__ cd___init__ ct___init__), sl___init__⟩)
    (cf___init__ : PySem.W.codeIn K cd___init__ "Tariff.__init__" = true)
    (kf___init__ : PySem.W.keepIn K (.ref f___init__) = true)
    (nf_price : PySem.W.findIn K (.ref a_Tariff) "price" = some (some (.ref f_price)))
    (if_price : PySem.W.isFn K (.ref f_price) = true)
    (lf_price : K.lookup f_price = some ⟨oc_price, od_price, .func (PySem.W.fnOf "price" "Tariff.price" (defArgs s_price) (defBody s_price) (defScope s_price) .none kV_price dc_price pm_price an_price cd_price ct_price), sl_price⟩)
    (cf_price : PySem.W.codeIn K cd_price "Tariff.price" = true)
    (kf_price : PySem.W.keepIn K (.ref f_price) = true)
    (nf_told : PySem.W.findIn K (.ref a_Tariff) "told" = some (some (.ref f_told)))
    (if_told : PySem.W.isFn K (.ref f_told) = true)
    (lf_told : K.lookup f_told = some ⟨oc_told, od_told, .func (PySem.W.fnOf "told" "Tariff.told" (defArgs s_told) (defBody s_told) (defScope s_told) .none kV_told dc_told pm_told an_told cd_told ct_told), sl_told⟩)
    (cf_told : PySem.W.codeIn K cd_told "Tariff.told" = true)
    (kf_told : PySem.W.keepIn K (.ref f_told) = true)
    (nf_need_journey : PySem.W.nsIn K mainGlobals "need_journey" = some (some (.ref f_need_journey)))
    (lf_need_journey : K.lookup f_need_journey = some ⟨oc_need_journey, od_need_journey, .func (PySem.W.fnOf "need_journey" "need_journey" (defArgs s_need_journey) (defBody s_need_journey) (defScope s_need_journey) .none kV_need_journey dc_need_journey pm_need_journey an_need_journey cd_need_journey ct_need_journey), sl_need_journey⟩)
    (cf_need_journey : PySem.W.codeIn K cd_need_journey "need_journey" = true)
    (kf_need_journey : PySem.W.keepIn K (.ref f_need_journey) = true)
    (nf_fault : PySem.W.nsIn K mainGlobals "fault" = some (some (.ref f_fault)))
    (lf_fault : K.lookup f_fault = some ⟨oc_fault, od_fault, .func (PySem.W.fnOf "fault" "fault" (defArgs s_fault) (defBody s_fault) (defScope s_fault) .none kV_fault dc_fault pm_fault an_fault cd_fault ct_fault), sl_fault⟩)
    (cf_fault : PySem.W.codeIn K cd_fault "fault" = true)
    (kf_fault : PySem.W.keepIn K (.ref f_fault) = true)
    (nf_ends_from : PySem.W.nsIn K mainGlobals "ends_from" = some (some (.ref f_ends_from)))
    (lf_ends_from : K.lookup f_ends_from = some ⟨oc_ends_from, od_ends_from, .func (PySem.W.fnOf "ends_from" "ends_from" (defArgs s_ends_from) (defBody s_ends_from) (defScope s_ends_from) .none kV_ends_from dc_ends_from pm_ends_from an_ends_from cd_ends_from ct_ends_from), sl_ends_from⟩)
    (cf_ends_from : PySem.W.codeIn K cd_ends_from "ends_from" = true)
    (kf_ends_from : PySem.W.keepIn K (.ref f_ends_from) = true)
    (nf_held : PySem.W.nsIn K mainGlobals "held" = some (some (.ref f_held)))
    (lf_held : K.lookup f_held = some ⟨oc_held, od_held, .func (PySem.W.fnOf "held" "held" (defArgs s_held) (defBody s_held) (defScope s_held) .none kV_held dc_held pm_held an_held cd_held ct_held), sl_held⟩)
    (cf_held : PySem.W.codeIn K cd_held "held" = true)
    (kf_held : PySem.W.keepIn K (.ref f_held) = true)
    (nf_price_of : PySem.W.nsIn K mainGlobals "price_of" = some (some (.ref f_price_of)))
    (lf_price_of : K.lookup f_price_of = some ⟨oc_price_of, od_price_of, .func (PySem.W.fnOf "price_of" "price_of" (defArgs s_price_of) (defBody s_price_of) (defScope s_price_of) .none kV_price_of dc_price_of pm_price_of an_price_of cd_price_of ct_price_of), sl_price_of⟩)
    (cf_price_of : PySem.W.codeIn K cd_price_of "price_of" = true)
    (kf_price_of : PySem.W.keepIn K (.ref f_price_of) = true)
    (nf_walked_back : PySem.W.nsIn K mainGlobals "walked_back" = some (some (.ref f_walked_back)))
    (lf_walked_back : K.lookup f_walked_back = some ⟨oc_walked_back, od_walked_back, .func (PySem.W.fnOf "walked_back" "walked_back" (defArgs s_walked_back) (defBody s_walked_back) (defScope s_walked_back) .none kV_walked_back dc_walked_back pm_walked_back an_walked_back cd_walked_back ct_walked_back), sl_walked_back⟩)
    (cf_walked_back : PySem.W.codeIn K cd_walked_back "walked_back" = true)
    (kf_walked_back : PySem.W.keepIn K (.ref f_walked_back) = true)
    (nf_left : PySem.W.nsIn K mainGlobals "left" = some (some (.ref f_left)))
    (lf_left : K.lookup f_left = some ⟨oc_left, od_left, .func (PySem.W.fnOf "left" "left" (defArgs s_left) (defBody s_left) (defScope s_left) .none kV_left dc_left pm_left an_left cd_left ct_left), sl_left⟩)
    (cf_left : PySem.W.codeIn K cd_left "left" = true)
    (kf_left : PySem.W.keepIn K (.ref f_left) = true)
    (nf_priced : PySem.W.nsIn K mainGlobals "priced" = some (some (.ref f_priced)))
    (lf_priced : K.lookup f_priced = some ⟨oc_priced, od_priced, .func (PySem.W.fnOf "priced" "priced" (defArgs s_priced) (defBody s_priced) (defScope s_priced) .none kV_priced dc_priced pm_priced an_priced cd_priced ct_priced), sl_priced⟩)
    (cf_priced : PySem.W.codeIn K cd_priced "priced" = true)
    (kf_priced : PySem.W.keepIn K (.ref f_priced) = true)
    (nf_parted : PySem.W.nsIn K mainGlobals "parted" = some (some (.ref f_parted)))
    (lf_parted : K.lookup f_parted = some ⟨oc_parted, od_parted, .func (PySem.W.fnOf "parted" "parted" (defArgs s_parted) (defBody s_parted) (defScope s_parted) .none kV_parted dc_parted pm_parted an_parted cd_parted ct_parted), sl_parted⟩)
    (cf_parted : PySem.W.codeIn K cd_parted "parted" = true)
    (kf_parted : PySem.W.keepIn K (.ref f_parted) = true)
    (nf_line_of : PySem.W.nsIn K mainGlobals "line_of" = some (some (.ref f_line_of)))
    (lf_line_of : K.lookup f_line_of = some ⟨oc_line_of, od_line_of, .func (PySem.W.fnOf "line_of" "line_of" (defArgs s_line_of) (defBody s_line_of) (defScope s_line_of) .none kV_line_of dc_line_of pm_line_of an_line_of cd_line_of ct_line_of), sl_line_of⟩)
    (cf_line_of : PySem.W.codeIn K cd_line_of "line_of" = true)
    (kf_line_of : PySem.W.keepIn K (.ref f_line_of) = true)
    (nf_bill : PySem.W.nsIn K mainGlobals "bill" = some (some (.ref f_bill)))
    (lf_bill : K.lookup f_bill = some ⟨oc_bill, od_bill, .func (PySem.W.fnOf "bill" "bill" (defArgs s_bill) (defBody s_bill) (defScope s_bill) .none kV_bill dc_bill pm_bill an_bill cd_bill ct_bill), sl_bill⟩)
    (cf_bill : PySem.W.codeIn K cd_bill "bill" = true)
    (kf_bill : PySem.W.keepIn K (.ref f_bill) = true)
    (nf__law_cell_at : PySem.W.nsIn K mainGlobals "_law_cell_at" = some (some (.ref f__law_cell_at)))
    (lf__law_cell_at : K.lookup f__law_cell_at = some ⟨oc__law_cell_at, od__law_cell_at, .func (PySem.W.fnOf "_law_cell_at" "_law_cell_at" (defArgs s__law_cell_at) (defBody s__law_cell_at) (defScope s__law_cell_at) .none kV__law_cell_at dc__law_cell_at pm__law_cell_at an__law_cell_at cd__law_cell_at ct__law_cell_at), sl__law_cell_at⟩)
    (cf__law_cell_at : PySem.W.codeIn K cd__law_cell_at "_law_cell_at" = true)
    (kf__law_cell_at : PySem.W.keepIn K (.ref f__law_cell_at) = true)
    (nf__law_place : PySem.W.nsIn K mainGlobals "_law_place" = some (some (.ref f__law_place)))
    (lf__law_place : K.lookup f__law_place = some ⟨oc__law_place, od__law_place, .func (PySem.W.fnOf "_law_place" "_law_place" (defArgs s__law_place) (defBody s__law_place) (defScope s__law_place) .none kV__law_place dc__law_place pm__law_place an__law_place cd__law_place ct__law_place), sl__law_place⟩)
    (cf__law_place : PySem.W.codeIn K cd__law_place "_law_place" = true)
    (kf__law_place : PySem.W.keepIn K (.ref f__law_place) = true)
    (nf__law_row : PySem.W.nsIn K mainGlobals "_law_row" = some (some (.ref f__law_row)))
    (lf__law_row : K.lookup f__law_row = some ⟨oc__law_row, od__law_row, .func (PySem.W.fnOf "_law_row" "_law_row" (defArgs s__law_row) (defBody s__law_row) (defScope s__law_row) .none kV__law_row dc__law_row pm__law_row an__law_row cd__law_row ct__law_row), sl__law_row⟩)
    (cf__law_row : PySem.W.codeIn K cd__law_row "_law_row" = true)
    (kf__law_row : PySem.W.keepIn K (.ref f__law_row) = true)
    (nf__law_bad : PySem.W.nsIn K mainGlobals "_law_bad" = some (some (.ref f__law_bad)))
    (lf__law_bad : K.lookup f__law_bad = some ⟨oc__law_bad, od__law_bad, .func (PySem.W.fnOf "_law_bad" "_law_bad" (defArgs s__law_bad) (defBody s__law_bad) (defScope s__law_bad) .none kV__law_bad dc__law_bad pm__law_bad an__law_bad cd__law_bad ct__law_bad), sl__law_bad⟩)
    (cf__law_bad : PySem.W.codeIn K cd__law_bad "_law_bad" = true)
    (kf__law_bad : PySem.W.keepIn K (.ref f__law_bad) = true)
    (nf__law_is_place : PySem.W.nsIn K mainGlobals "_law_is_place" = some (some (.ref f__law_is_place)))
    (lf__law_is_place : K.lookup f__law_is_place = some ⟨oc__law_is_place, od__law_is_place, .func (PySem.W.fnOf "_law_is_place" "_law_is_place" (defArgs s__law_is_place) (defBody s__law_is_place) (defScope s__law_is_place) .none kV__law_is_place dc__law_is_place pm__law_is_place an__law_is_place cd__law_is_place ct__law_is_place), sl__law_is_place⟩)
    (cf__law_is_place : PySem.W.codeIn K cd__law_is_place "_law_is_place" = true)
    (kf__law_is_place : PySem.W.keepIn K (.ref f__law_is_place) = true)
    (nf__law_due : PySem.W.nsIn K mainGlobals "_law_due" = some (some (.ref f__law_due)))
    (lf__law_due : K.lookup f__law_due = some ⟨oc__law_due, od__law_due, .func (PySem.W.fnOf "_law_due" "_law_due" (defArgs s__law_due) (defBody s__law_due) (defScope s__law_due) .none kV__law_due dc__law_due pm__law_due an__law_due cd__law_due ct__law_due), sl__law_due⟩)
    (cf__law_due : PySem.W.codeIn K cd__law_due "_law_due" = true)
    (kf__law_due : PySem.W.keepIn K (.ref f__law_due) = true)
    (nf__law_tariff : PySem.W.nsIn K mainGlobals "_law_tariff" = some (some (.ref f__law_tariff)))
    (lf__law_tariff : K.lookup f__law_tariff = some ⟨oc__law_tariff, od__law_tariff, .func (PySem.W.fnOf "_law_tariff" "_law_tariff" (defArgs s__law_tariff) (defBody s__law_tariff) (defScope s__law_tariff) .none kV__law_tariff dc__law_tariff pm__law_tariff an__law_tariff cd__law_tariff ct__law_tariff), sl__law_tariff⟩)
    (cf__law_tariff : PySem.W.codeIn K cd__law_tariff "_law_tariff" = true)
    (kf__law_tariff : PySem.W.keepIn K (.ref f__law_tariff) = true)
    (nf__law_deed : PySem.W.nsIn K mainGlobals "_law_deed" = some (some (.ref f__law_deed)))
    (lf__law_deed : K.lookup f__law_deed = some ⟨oc__law_deed, od__law_deed, .func (PySem.W.fnOf "_law_deed" "_law_deed" (defArgs s__law_deed) (defBody s__law_deed) (defScope s__law_deed) .none kV__law_deed dc__law_deed pm__law_deed an__law_deed cd__law_deed ct__law_deed), sl__law_deed⟩)
    (cf__law_deed : PySem.W.codeIn K cd__law_deed "_law_deed" = true)
    (kf__law_deed : PySem.W.keepIn K (.ref f__law_deed) = true)
    (nf_law : PySem.W.nsIn K mainGlobals "law" = some (some (.ref f_law)))
    (lf_law : K.lookup f_law = some ⟨oc_law, od_law, .func (PySem.W.fnOf "law" "law" (defArgs s_law) (defBody s_law) (defScope s_law) .none kV_law dc_law pm_law an_law cd_law ct_law), sl_law⟩)
    (cf_law : PySem.W.codeIn K cd_law "law" = true)
    (kf_law : PySem.W.keepIn K (.ref f_law) = true) :
    ∃ fd : FuncData, (∀ (s : Shared) (v : Value), BindsTo s fd ⟨[v], []⟩ [("_law_script", v)]) ∧ ∀ base : Heap, K.In base → base.Ns mainGlobals mg → FnOk l.prog w K mg base (L2N.CX l.prog w) 8 fa fd ["_law_script"] (spL K) := by
  have e := hfa.symm.trans (PySem.W.mg_of X G nf_law)
  cases e
  let T : Par := ⟨K, a_Tariff, fun c => match c with | .place => a_BadPlace | .price => a_BadPrice | .twice => a_TwiceTold | .many => a_TooMany | .journey => a_BadJourney | .cuts => a_BadCuts | .held => a_NotHeld | .parting => a_NoParting | .line => a_FareError⟩
  have x_BadPlace : ExcAt T.K mg T "BadPlace" .place := ⟨PySem.W.mg_of X G na_BadPlace, xx_BadPlace, xk_BadPlace, xb_BadPlace, xt_BadPlace⟩
  have x_BadPrice : ExcAt T.K mg T "BadPrice" .price := ⟨PySem.W.mg_of X G na_BadPrice, xx_BadPrice, xk_BadPrice, xb_BadPrice, xt_BadPrice⟩
  have x_TwiceTold : ExcAt T.K mg T "TwiceTold" .twice := ⟨PySem.W.mg_of X G na_TwiceTold, xx_TwiceTold, xk_TwiceTold, xb_TwiceTold, xt_TwiceTold⟩
  have x_TooMany : ExcAt T.K mg T "TooMany" .many := ⟨PySem.W.mg_of X G na_TooMany, xx_TooMany, xk_TooMany, xb_TooMany, xt_TooMany⟩
  have x_BadJourney : ExcAt T.K mg T "BadJourney" .journey := ⟨PySem.W.mg_of X G na_BadJourney, xx_BadJourney, xk_BadJourney, xb_BadJourney, xt_BadJourney⟩
  have x_BadCuts : ExcAt T.K mg T "BadCuts" .cuts := ⟨PySem.W.mg_of X G na_BadCuts, xx_BadCuts, xk_BadCuts, xb_BadCuts, xt_BadCuts⟩
  have x_NotHeld : ExcAt T.K mg T "NotHeld" .held := ⟨PySem.W.mg_of X G na_NotHeld, xx_NotHeld, xk_NotHeld, xb_NotHeld, xt_NotHeld⟩
  have x_NoParting : ExcAt T.K mg T "NoParting" .parting := ⟨PySem.W.mg_of X G na_NoParting, xx_NoParting, xk_NoParting, xb_NoParting, xt_NoParting⟩
  have excC : ∀ c, ExcC T.K (T.cx c) := fun c => match c with | .place => ⟨xg_BadPlace, xa_BadPlace, xb_BadPlace, xd_BadPlace, xc_BadPlace, xn, xh, xm_BadPlace⟩ | .price => ⟨xg_BadPrice, xa_BadPrice, xb_BadPrice, xd_BadPrice, xc_BadPrice, xn, xh, xm_BadPrice⟩ | .twice => ⟨xg_TwiceTold, xa_TwiceTold, xb_TwiceTold, xd_TwiceTold, xc_TwiceTold, xn, xh, xm_TwiceTold⟩ | .many => ⟨xg_TooMany, xa_TooMany, xb_TooMany, xd_TooMany, xc_TooMany, xn, xh, xm_TooMany⟩ | .journey => ⟨xg_BadJourney, xa_BadJourney, xb_BadJourney, xd_BadJourney, xc_BadJourney, xn, xh, xm_BadJourney⟩ | .cuts => ⟨xg_BadCuts, xa_BadCuts, xb_BadCuts, xd_BadCuts, xc_BadCuts, xn, xh, xm_BadCuts⟩ | .held => ⟨xg_NotHeld, xa_NotHeld, xb_NotHeld, xd_NotHeld, xc_NotHeld, xn, xh, xm_NotHeld⟩ | .parting => ⟨xg_NoParting, xa_NoParting, xb_NoParting, xd_NoParting, xc_NoParting, xn, xh, xm_NoParting⟩ | .line => ⟨xg_FareError, xa_FareError, xb_FareError, xd_FareError, xc_FareError, xn, xh, xm_FareError⟩
  have excV : ∀ c, PySem.W.kitOne T.K (.ref (T.cx c)) (.type "ValueError") = some true := fun c => match c with | .place => kit_val xv_BadPlace | .price => kit_val xv_BadPrice | .twice => kit_val xv_TwiceTold | .many => kit_val xv_TooMany | .journey => kit_val xv_BadJourney | .cuts => kit_val xv_BadCuts | .held => kit_val xv_NotHeld | .parting => kit_val xv_NoParting | .line => kit_val xv_FareError
  have c_BadJourney : ClsAt T.K mg T "BadJourney" (takeOnly .journey) := ⟨a_BadJourney, PySem.W.mg_of X G na_BadJourney, fun c => match c with | .place => PySem.W.exm_ref xb_BadJourney xd_BadJourney xt_BadJourney se_BadPlace_BadJourney | .price => PySem.W.exm_ref xb_BadJourney xd_BadJourney xt_BadJourney se_BadPrice_BadJourney | .twice => PySem.W.exm_ref xb_BadJourney xd_BadJourney xt_BadJourney se_TwiceTold_BadJourney | .many => PySem.W.exm_ref xb_BadJourney xd_BadJourney xt_BadJourney se_TooMany_BadJourney | .journey => PySem.W.exm_ref xb_BadJourney xd_BadJourney xt_BadJourney se_BadJourney_BadJourney | .cuts => PySem.W.exm_ref xb_BadJourney xd_BadJourney xt_BadJourney se_BadCuts_BadJourney | .held => PySem.W.exm_ref xb_BadJourney xd_BadJourney xt_BadJourney se_NotHeld_BadJourney | .parting => PySem.W.exm_ref xb_BadJourney xd_BadJourney xt_BadJourney se_NoParting_BadJourney | .line => PySem.W.exm_ref xb_BadJourney xd_BadJourney xt_BadJourney se_FareError_BadJourney, fun c => match c with | .place => kit_ref xd_BadJourney xt_BadJourney se_BadPlace_BadJourney se_BadJourney_BadJourney | .price => kit_ref xd_BadJourney xt_BadJourney se_BadPrice_BadJourney se_BadJourney_BadJourney | .twice => kit_ref xd_BadJourney xt_BadJourney se_TwiceTold_BadJourney se_BadJourney_BadJourney | .many => kit_ref xd_BadJourney xt_BadJourney se_TooMany_BadJourney se_BadJourney_BadJourney | .journey => kit_ref xd_BadJourney xt_BadJourney se_BadJourney_BadJourney se_BadJourney_BadJourney | .cuts => kit_ref xd_BadJourney xt_BadJourney se_BadCuts_BadJourney se_BadJourney_BadJourney | .held => kit_ref xd_BadJourney xt_BadJourney se_NotHeld_BadJourney se_BadJourney_BadJourney | .parting => kit_ref xd_BadJourney xt_BadJourney se_NoParting_BadJourney se_BadJourney_BadJourney | .line => kit_ref xd_BadJourney xt_BadJourney se_FareError_BadJourney se_BadJourney_BadJourney⟩
  have c_BadPlace : ClsAt T.K mg T "BadPlace" (takeOnly .place) := ⟨a_BadPlace, PySem.W.mg_of X G na_BadPlace, fun c => match c with | .place => PySem.W.exm_ref xb_BadPlace xd_BadPlace xt_BadPlace se_BadPlace_BadPlace | .price => PySem.W.exm_ref xb_BadPlace xd_BadPlace xt_BadPlace se_BadPrice_BadPlace | .twice => PySem.W.exm_ref xb_BadPlace xd_BadPlace xt_BadPlace se_TwiceTold_BadPlace | .many => PySem.W.exm_ref xb_BadPlace xd_BadPlace xt_BadPlace se_TooMany_BadPlace | .journey => PySem.W.exm_ref xb_BadPlace xd_BadPlace xt_BadPlace se_BadJourney_BadPlace | .cuts => PySem.W.exm_ref xb_BadPlace xd_BadPlace xt_BadPlace se_BadCuts_BadPlace | .held => PySem.W.exm_ref xb_BadPlace xd_BadPlace xt_BadPlace se_NotHeld_BadPlace | .parting => PySem.W.exm_ref xb_BadPlace xd_BadPlace xt_BadPlace se_NoParting_BadPlace | .line => PySem.W.exm_ref xb_BadPlace xd_BadPlace xt_BadPlace se_FareError_BadPlace, fun c => match c with | .place => kit_ref xd_BadPlace xt_BadPlace se_BadPlace_BadPlace se_BadPlace_BadPlace | .price => kit_ref xd_BadPlace xt_BadPlace se_BadPrice_BadPlace se_BadPlace_BadPlace | .twice => kit_ref xd_BadPlace xt_BadPlace se_TwiceTold_BadPlace se_BadPlace_BadPlace | .many => kit_ref xd_BadPlace xt_BadPlace se_TooMany_BadPlace se_BadPlace_BadPlace | .journey => kit_ref xd_BadPlace xt_BadPlace se_BadJourney_BadPlace se_BadPlace_BadPlace | .cuts => kit_ref xd_BadPlace xt_BadPlace se_BadCuts_BadPlace se_BadPlace_BadPlace | .held => kit_ref xd_BadPlace xt_BadPlace se_NotHeld_BadPlace se_BadPlace_BadPlace | .parting => kit_ref xd_BadPlace xt_BadPlace se_NoParting_BadPlace se_BadPlace_BadPlace | .line => kit_ref xd_BadPlace xt_BadPlace se_FareError_BadPlace se_BadPlace_BadPlace⟩
  have c_FareError : ClsAt T.K mg T "FareError" takeAll := ⟨a_FareError, PySem.W.mg_of X G na_FareError, fun c => match c with | .place => PySem.W.exm_ref xb_FareError xd_FareError xt_FareError se_BadPlace_FareError | .price => PySem.W.exm_ref xb_FareError xd_FareError xt_FareError se_BadPrice_FareError | .twice => PySem.W.exm_ref xb_FareError xd_FareError xt_FareError se_TwiceTold_FareError | .many => PySem.W.exm_ref xb_FareError xd_FareError xt_FareError se_TooMany_FareError | .journey => PySem.W.exm_ref xb_FareError xd_FareError xt_FareError se_BadJourney_FareError | .cuts => PySem.W.exm_ref xb_FareError xd_FareError xt_FareError se_BadCuts_FareError | .held => PySem.W.exm_ref xb_FareError xd_FareError xt_FareError se_NotHeld_FareError | .parting => PySem.W.exm_ref xb_FareError xd_FareError xt_FareError se_NoParting_FareError | .line => PySem.W.exm_ref xb_FareError xd_FareError xt_FareError se_FareError_FareError, fun c => match c with | .place => kit_ref xd_FareError xt_FareError se_BadPlace_FareError se_FareError_FareError | .price => kit_ref xd_FareError xt_FareError se_BadPrice_FareError se_FareError_FareError | .twice => kit_ref xd_FareError xt_FareError se_TwiceTold_FareError se_FareError_FareError | .many => kit_ref xd_FareError xt_FareError se_TooMany_FareError se_FareError_FareError | .journey => kit_ref xd_FareError xt_FareError se_BadJourney_FareError se_FareError_FareError | .cuts => kit_ref xd_FareError xt_FareError se_BadCuts_FareError se_FareError_FareError | .held => kit_ref xd_FareError xt_FareError se_NotHeld_FareError se_FareError_FareError | .parting => kit_ref xd_FareError xt_FareError se_NoParting_FareError se_FareError_FareError | .line => kit_ref xd_FareError xt_FareError se_FareError_FareError se_FareError_FareError⟩
  have tar : TarC T.K mg T.C := ⟨⟨tc_pg, tc_hd, tc_po, tc_sa⟩, tc_nr, tc_nt, PySem.W.mg_of X G na_Tariff⟩
  have b_bool := PySem.W.mg_none_of X G zb_bool
  have b_int := PySem.W.mg_none_of X G zb_int
  have b_isinstance := PySem.W.mg_none_of X G zb_isinstance
  have b_len := PySem.W.mg_none_of X G zb_len
  have b_list := PySem.W.mg_none_of X G zb_list
  have b_max := PySem.W.mg_none_of X G zb_max
  have b_range := PySem.W.mg_none_of X G zb_range
  have b_str := PySem.W.mg_none_of X G zb_str
  have k_LETTERS := PySem.W.mg_of X G zk_LETTERS
  have k_MOST_PLACES := PySem.W.mg_of X G zk_MOST_PLACES
  have k_MOST_PRICE := PySem.W.mg_of X G zk_MOST_PRICE
  have k_MOST_ROWS := PySem.W.mg_of X G zk_MOST_ROWS
  have k_MOST_SIGNS := PySem.W.mg_of X G zk_MOST_SIGNS
  have F_is_place := fun_mk (st := s_is_place) lf_is_place cf_is_place kf_is_place
  have F_is_price := fun_mk (st := s_is_price) lf_is_price cf_is_price kf_is_price
  have F_put := fun_mk (st := s_put) lf_put cf_put kf_put
  have F___init__ := fun_mk (st := s___init__) lf___init__ cf___init__ kf___init__
  have F_price := fun_mk (st := s_price) lf_price cf_price kf_price
  have F_told := fun_mk (st := s_told) lf_told cf_told kf_told
  have F_need_journey := fun_mk (st := s_need_journey) lf_need_journey cf_need_journey kf_need_journey
  have F_fault := fun_mk (st := s_fault) lf_fault cf_fault kf_fault
  have F_ends_from := fun_mk (st := s_ends_from) lf_ends_from cf_ends_from kf_ends_from
  have F_held := fun_mk (st := s_held) lf_held cf_held kf_held
  have F_price_of := fun_mk (st := s_price_of) lf_price_of cf_price_of kf_price_of
  have F_walked_back := fun_mk (st := s_walked_back) lf_walked_back cf_walked_back kf_walked_back
  have F_left := fun_mk (st := s_left) lf_left cf_left kf_left
  have F_priced := fun_mk (st := s_priced) lf_priced cf_priced kf_priced
  have F_parted := fun_mk (st := s_parted) lf_parted cf_parted kf_parted
  have F_line_of := fun_mk (st := s_line_of) lf_line_of cf_line_of kf_line_of
  have F_bill := fun_mk (st := s_bill) lf_bill cf_bill kf_bill
  have F__law_cell_at := fun_mk (st := s__law_cell_at) lf__law_cell_at cf__law_cell_at kf__law_cell_at
  have F__law_place := fun_mk (st := s__law_place) lf__law_place cf__law_place kf__law_place
  have F__law_row := fun_mk (st := s__law_row) lf__law_row cf__law_row kf__law_row
  have F__law_bad := fun_mk (st := s__law_bad) lf__law_bad cf__law_bad kf__law_bad
  have F__law_is_place := fun_mk (st := s__law_is_place) lf__law_is_place cf__law_is_place kf__law_is_place
  have F__law_due := fun_mk (st := s__law_due) lf__law_due cf__law_due kf__law_due
  have F__law_tariff := fun_mk (st := s__law_tariff) lf__law_tariff cf__law_tariff kf__law_tariff
  have F__law_deed := fun_mk (st := s__law_deed) lf__law_deed cf__law_deed kf__law_deed
  have F_law := fun_mk (st := s_law) lf_law cf_law kf_law
  refine ⟨PySem.W.fnOf "law" "law" (defArgs s_law) (defBody s_law) (defScope s_law) .none kV_law dc_law pm_law an_law cd_law ct_law, fun s v => .of_eq rfl, fun base _ _ => ?_⟩
  have G_is_place : DefAt l.prog w T.K mg base T "is_place" 1 ["thing"] g_is_place := ok_is_place F_is_place (PySem.W.mg_of X G nf_is_place) b_isinstance b_len b_str k_LETTERS k_MOST_SIGNS
  have G_is_price : DefAt l.prog w T.K mg base T "is_price" 1 ["thing"] g_is_price := ok_is_price F_is_price (PySem.W.mg_of X G nf_is_price) b_bool b_int b_isinstance k_MOST_PRICE
  have G_put : MethAt l.prog w T.K mg base T "put" 2 ["self", "here", "there", "price"] (spPut T g_put) := ok_put F_put ⟨nf_put, if_put, kf_put⟩ b_len k_MOST_ROWS x_BadPlace x_BadPrice x_TooMany x_TwiceTold tar G_is_place G_is_price
  have G_init : MakeAt l.prog w T.K mg base T 3 g_init := ok___init__ F___init__ ⟨tc_mk, nf___init__, if___init__, tc_kc⟩ tar G_put
  have G_price : MethAt l.prog w T.K mg base T "price" 1 ["self", "here", "there"] (spOf T g_price) := ok_price F_price ⟨nf_price, if_price, kf_price⟩ tar
  have H_told : MethAtH l.prog w T.K mg base T "told" 1 ["self"] (spOf T g_told) := okh_told F_told ⟨nf_told, if_told, kf_told⟩ b_list tar
  have G_told : MethAt l.prog w T.K mg base T "told" 1 ["self"] (spOf T g_told) := ok_told F_told ⟨nf_told, if_told, kf_told⟩ b_list tar
  have G_need_journey : DefAt l.prog w T.K mg base T "need_journey" 2 ["places"] g_need_journey := ok_need_journey F_need_journey (PySem.W.mg_of X G nf_need_journey) b_len b_list k_MOST_PLACES x_BadJourney x_BadPlace G_is_place
  have G_fault : DefAt l.prog w T.K mg base T "fault" 3 ["tariff", "journey", "at", "to"] g_fault := ok_fault F_fault (PySem.W.mg_of X G nf_fault) b_len b_range x_BadCuts tar G_need_journey G_price
  have G_ends_from : DefAt l.prog w T.K mg base T "ends_from" 2 ["tariff", "places", "at", "greatest"] g_ends_from := ok_ends_from F_ends_from (PySem.W.mg_of X G nf_ends_from) b_len b_max b_range tar G_price
  have G_held : DefAt l.prog w T.K mg base T "held" 3 ["tariff", "journey"] g_held := ok_held F_held (PySem.W.mg_of X G nf_held) b_len b_range G_ends_from G_need_journey
  have G_price_of : DefAt l.prog w T.K mg base T "price_of" 4 ["tariff", "journey", "cuts"] g_price_of := ok_price_of F_price_of (PySem.W.mg_of X G nf_price_of) b_len b_range x_BadCuts x_NotHeld tar G_fault G_need_journey G_price
  have G_walked_back : DefAt l.prog w T.K mg base T "walked_back" 4 ["tariff", "places"] g_walked_back := ok_walked_back F_walked_back (PySem.W.mg_of X G nf_walked_back) b_len b_range tar G_held G_price
  have G_left : DefAt l.prog w T.K mg base T "left" 5 ["tariff", "journey"] g_left := ok_left F_left (PySem.W.mg_of X G nf_left) G_need_journey G_walked_back
  have G_priced : DefAt l.prog w T.K mg base T "priced" 5 ["tariff", "journey"] g_priced := ok_priced F_priced (PySem.W.mg_of X G nf_priced) b_len x_NoParting G_need_journey G_walked_back
  have G_parted : DefAt l.prog w T.K mg base T "parted" 6 ["tariff", "journey"] g_parted := ok_parted F_parted (PySem.W.mg_of X G nf_parted) G_priced
  have G_line_of : DefAt l.prog w T.K mg base T "line_of" 1 ["here", "there", "price"] g_line_of := ok_line_of F_line_of (PySem.W.mg_of X G nf_line_of) b_str
  have G_bill : DefAt l.prog w T.K mg base T "bill" 6 ["tariff", "journey"] g_bill := ok_bill F_bill (PySem.W.mg_of X G nf_bill) b_len b_range b_str tar G_line_of G_need_journey G_price G_priced
  have G__law_cell_at : DefAt l.prog w T.K mg base T "_law_cell_at" 1 ["_law_script", "_law_k"] g_law_cell_at := ok__law_cell_at F__law_cell_at (PySem.W.mg_of X G nf__law_cell_at) b_len
  have G__law_place : DefAt l.prog w T.K mg base T "_law_place" 1 ["_law_cell"] g_law_place := ok__law_place F__law_place (PySem.W.mg_of X G nf__law_place) b_range
  have G__law_row : DefAt l.prog w T.K mg base T "_law_row" 2 ["_law_script"] g_law_row := ok__law_row F__law_row (PySem.W.mg_of X G nf__law_row) b_int b_range G__law_cell_at G__law_place
  have G__law_bad : DefAt l.prog w T.K mg base T "_law_bad" 1 ["_law_cell", "_law_name"] g_law_bad := ok__law_bad F__law_bad (PySem.W.mg_of X G nf__law_bad)
  have H__law_is_place : DefAtH l.prog w T.K mg base T "_law_is_place" 1 ["_law_thing"] g_law_is_place := okh__law_is_place F__law_is_place (PySem.W.mg_of X G nf__law_is_place) b_isinstance b_len b_str
  have G__law_is_place : DefAt l.prog w T.K mg base T "_law_is_place" 1 ["_law_thing"] g_law_is_place := ok__law_is_place F__law_is_place (PySem.W.mg_of X G nf__law_is_place) b_isinstance b_len b_str
  have H__law_due : DefAtH l.prog w T.K mg base T "_law_due" 2 ["_law_row_here"] g_law_due := okh__law_due F__law_due (PySem.W.mg_of X G nf__law_due) b_len b_range H__law_is_place
  have G__law_due : DefAt l.prog w T.K mg base T "_law_due" 2 ["_law_row_here"] g_law_due := ok__law_due F__law_due (PySem.W.mg_of X G nf__law_due) b_len b_range G__law_is_place
  have G__law_tariff : DefAt l.prog w T.K mg base T "_law_tariff" 2 ["_law_row_here"] g_law_tariff := ok__law_tariff F__law_tariff (PySem.W.mg_of X G nf__law_tariff) b_len b_range G__law_is_place
  have G__law_deed : DefAt l.prog w T.K mg base T "_law_deed" 7 ["_law_pick", "_law_tariff_here", "_law_row_here"] g_law_deed := ok__law_deed F__law_deed (PySem.W.mg_of X G nf__law_deed) b_len G_bill G_fault G_held G_left G_parted G_price_of G_priced
  have G_law := ok_law (P := l.prog) (w := w) (mg := mg) (base := base) (T := T) F_law b_int b_isinstance b_len b_list b_range c_BadJourney c_BadPlace c_FareError excC excV tar G_init G__law_bad G__law_cell_at G__law_deed G__law_place G__law_row G__law_tariff H__law_due H_told
  exact law_ok G_law (fun ns hl => law_true ns hl)
theorem walk {l : PySem.W.OpenLaw} {q : Program} {loose : List Str} {XP : (Str → Option Value) → Heap → Prop} {YP : World → Heap → Prop} {d : DefRec} {K : Params → PySem.W.Frag} (hn : l.most = some 63) (hdf : d.params.defaults = [])
    (hY : ∀ (w : World) (h : Heap), YP w h → (K w.params).In h)
    (F : ∀ (w : World) (mg : Str → Option Value) (fa : Addr) (h : Heap), (K w.params).In h → h.Ns mainGlobals mg → mg d.name = some (.ref fa) →
      ∃ fd : FuncData, (∀ (s : Shared) (u : Value), BindsTo s fd ⟨[u], []⟩ [("_law_script", u)]) ∧ ∀ base : Heap, (K w.params).In base → base.Ns mainGlobals mg → FnOk l.prog w (K w.params) mg base (L2N.CX l.prog w) 8 fa fd ["_law_script"] (spL (K w.params))) :
    PySem.W.WalkO q loose XP YP l.row.toRowW d [] (fun f vs => PySem.call f vs) :=
  L2.walk_of (n := 63) (k := 8) (x := "_law_script") (CX := fun w => L2N.CX l.prog w) (sp := fun w => spL (K w.params)) hn (by decide) hdf ⟨rfl, by decide, by decide⟩ hY F (fun _ _ a ns hl _ hS => ⟨a, ns, rfl, hS, hl, fun _ => rfl⟩) fun _ _ _ _ _ z => by
    obtain ⟨_, _, _, _, _, _, _, _, _, _, _, _, z⟩ := z
    exact z.elim
end DD
open PySem PySem.W PyProof.Rows
set_option maxRecDepth 100000 in
set_option maxHeartbeats 0 in
theorem PySem.Challenge.cw_farebreak_k13_no_journeys_holds : PySem.Challenge.rw_farebreak_k13_no_journeys.Holds := by
  w_on; o_law; k_head; (case hw => w_witness2)
  k_fill
  refine DD.walk (l := PySem.Challenge.rw_farebreak_k13_no_journeys) rfl rfl (fun w h Y => PySem.W.kIn_of Y) ?F
  case F =>
    intro w mg fa h KX G hmg
    refine' DD.all_mk KX G hmg ?na_FareError ?xx_FareError ?xk_FareError ?xb_FareError ?xt_FareError ?xd_FareError ?xg_FareError ?xa_FareError ?xc_FareError ?xm_FareError ?xv_FareError ?na_BadPlace ?xx_BadPlace ?xk_BadPlace ?xb_BadPlace ?xt_BadPlace ?xd_BadPlace ?xg_BadPlace ?xa_BadPlace ?xc_BadPlace ?xm_BadPlace ?xv_BadPlace ?na_BadPrice ?xx_BadPrice ?xk_BadPrice ?xb_BadPrice ?xt_BadPrice ?xd_BadPrice ?xg_BadPrice ?xa_BadPrice ?xc_BadPrice ?xm_BadPrice ?xv_BadPrice ?na_TwiceTold ?xx_TwiceTold ?xk_TwiceTold ?xb_TwiceTold ?xt_TwiceTold ?xd_TwiceTold ?xg_TwiceTold ?xa_TwiceTold ?xc_TwiceTold ?xm_TwiceTold ?xv_TwiceTold ?na_TooMany ?xx_TooMany ?xk_TooMany ?xb_TooMany ?xt_TooMany ?xd_TooMany ?xg_TooMany ?xa_TooMany ?xc_TooMany ?xm_TooMany ?xv_TooMany ?na_BadJourney ?xx_BadJourney ?xk_BadJourney ?xb_BadJourney ?xt_BadJourney ?xd_BadJourney ?xg_BadJourney ?xa_BadJourney ?xc_BadJourney ?xm_BadJourney ?xv_BadJourney ?na_BadCuts ?xx_BadCuts ?xk_BadCuts ?xb_BadCuts ?xt_BadCuts ?xd_BadCuts ?xg_BadCuts ?xa_BadCuts ?xc_BadCuts ?xm_BadCuts ?xv_BadCuts ?na_NotHeld ?xx_NotHeld ?xk_NotHeld ?xb_NotHeld ?xt_NotHeld ?xd_NotHeld ?xg_NotHeld ?xa_NotHeld ?xc_NotHeld ?xm_NotHeld ?xv_NotHeld ?na_NoParting ?xx_NoParting ?xk_NoParting ?xb_NoParting ?xt_NoParting ?xd_NoParting ?xg_NoParting ?xa_NoParting ?xc_NoParting ?xm_NoParting ?xv_NoParting ?xn ?xh ?se_FareError_BadJourney ?se_BadPlace_BadJourney ?se_BadPrice_BadJourney ?se_TwiceTold_BadJourney ?se_TooMany_BadJourney ?se_BadJourney_BadJourney ?se_BadCuts_BadJourney ?se_NotHeld_BadJourney ?se_NoParting_BadJourney ?se_FareError_BadPlace ?se_BadPlace_BadPlace ?se_BadPrice_BadPlace ?se_TwiceTold_BadPlace ?se_TooMany_BadPlace ?se_BadJourney_BadPlace ?se_BadCuts_BadPlace ?se_NotHeld_BadPlace ?se_NoParting_BadPlace ?se_FareError_FareError ?se_BadPlace_FareError ?se_BadPrice_FareError ?se_TwiceTold_FareError ?se_TooMany_FareError ?se_BadJourney_FareError ?se_BadCuts_FareError ?se_NotHeld_FareError ?se_NoParting_FareError ?na_Tariff ?tc_pg ?tc_hd ?tc_po ?tc_sa ?tc_mk ?tc_kc ?tc_nr ?tc_nt ?zb_bool ?zb_int ?zb_isinstance ?zb_len ?zb_list ?zb_max ?zb_range ?zb_str ?zk_LETTERS ?zk_MOST_PLACES ?zk_MOST_PRICE ?zk_MOST_ROWS ?zk_MOST_SIGNS ?nf_is_place ?lf_is_place ?cf_is_place ?kf_is_place ?nf_is_price ?lf_is_price ?cf_is_price ?kf_is_price ?nf_put ?if_put ?lf_put ?cf_put ?kf_put ?nf___init__ ?if___init__ ?lf___init__ ?cf___init__ ?kf___init__ ?nf_price ?if_price ?lf_price ?cf_price ?kf_price ?nf_told ?if_told ?lf_told ?cf_told ?kf_told ?nf_need_journey ?lf_need_journey ?cf_need_journey ?kf_need_journey ?nf_fault ?lf_fault ?cf_fault ?kf_fault ?nf_ends_from ?lf_ends_from ?cf_ends_from ?kf_ends_from ?nf_held ?lf_held ?cf_held ?kf_held ?nf_price_of ?lf_price_of ?cf_price_of ?kf_price_of ?nf_walked_back ?lf_walked_back ?cf_walked_back ?kf_walked_back ?nf_left ?lf_left ?cf_left ?kf_left ?nf_priced ?lf_priced ?cf_priced ?kf_priced ?nf_parted ?lf_parted ?cf_parted ?kf_parted ?nf_line_of ?lf_line_of ?cf_line_of ?kf_line_of ?nf_bill ?lf_bill ?cf_bill ?kf_bill ?nf__law_cell_at ?lf__law_cell_at ?cf__law_cell_at ?kf__law_cell_at ?nf__law_place ?lf__law_place ?cf__law_place ?kf__law_place ?nf__law_row ?lf__law_row ?cf__law_row ?kf__law_row ?nf__law_bad ?lf__law_bad ?cf__law_bad ?kf__law_bad ?nf__law_is_place ?lf__law_is_place ?cf__law_is_place ?kf__law_is_place ?nf__law_due ?lf__law_due ?cf__law_due ?kf__law_due ?nf__law_tariff ?lf__law_tariff ?cf__law_tariff ?kf__law_tariff ?nf__law_deed ?lf__law_deed ?cf__law_deed ?kf__law_deed ?nf_law ?lf_law ?cf_law ?kf_law
    (case na_FareError => k_is)
    (case xx_FareError => k_exc)
    (case xk_FareError => k_is)
    (case xb_FareError => k_is)
    (case xt_FareError => k_is)
    (case xd_FareError => k_is)
    (case xg_FareError => k_is)
    (case xa_FareError => k_is)
    (case xc_FareError => k_is)
    (case xm_FareError => k_is)
    (case xv_FareError => k_is)
    (case na_BadPlace => k_is)
    (case xx_BadPlace => k_exc)
    (case xk_BadPlace => k_is)
    (case xb_BadPlace => k_is)
    (case xt_BadPlace => k_is)
    (case xd_BadPlace => k_is)
    (case xg_BadPlace => k_is)
    (case xa_BadPlace => k_is)
    (case xc_BadPlace => k_is)
    (case xm_BadPlace => k_is)
    (case xv_BadPlace => k_is)
    (case na_BadPrice => k_is)
    (case xx_BadPrice => k_exc)
    (case xk_BadPrice => k_is)
    (case xb_BadPrice => k_is)
    (case xt_BadPrice => k_is)
    (case xd_BadPrice => k_is)
    (case xg_BadPrice => k_is)
    (case xa_BadPrice => k_is)
    (case xc_BadPrice => k_is)
    (case xm_BadPrice => k_is)
    (case xv_BadPrice => k_is)
    (case na_TwiceTold => k_is)
    (case xx_TwiceTold => k_exc)
    (case xk_TwiceTold => k_is)
    (case xb_TwiceTold => k_is)
    (case xt_TwiceTold => k_is)
    (case xd_TwiceTold => k_is)
    (case xg_TwiceTold => k_is)
    (case xa_TwiceTold => k_is)
    (case xc_TwiceTold => k_is)
    (case xm_TwiceTold => k_is)
    (case xv_TwiceTold => k_is)
    (case na_TooMany => k_is)
    (case xx_TooMany => k_exc)
    (case xk_TooMany => k_is)
    (case xb_TooMany => k_is)
    (case xt_TooMany => k_is)
    (case xd_TooMany => k_is)
    (case xg_TooMany => k_is)
    (case xa_TooMany => k_is)
    (case xc_TooMany => k_is)
    (case xm_TooMany => k_is)
    (case xv_TooMany => k_is)
    (case na_BadJourney => k_is)
    (case xx_BadJourney => k_exc)
    (case xk_BadJourney => k_is)
    (case xb_BadJourney => k_is)
    (case xt_BadJourney => k_is)
    (case xd_BadJourney => k_is)
    (case xg_BadJourney => k_is)
    (case xa_BadJourney => k_is)
    (case xc_BadJourney => k_is)
    (case xm_BadJourney => k_is)
    (case xv_BadJourney => k_is)
    (case na_BadCuts => k_is)
    (case xx_BadCuts => k_exc)
    (case xk_BadCuts => k_is)
    (case xb_BadCuts => k_is)
    (case xt_BadCuts => k_is)
    (case xd_BadCuts => k_is)
    (case xg_BadCuts => k_is)
    (case xa_BadCuts => k_is)
    (case xc_BadCuts => k_is)
    (case xm_BadCuts => k_is)
    (case xv_BadCuts => k_is)
    (case na_NotHeld => k_is)
    (case xx_NotHeld => k_exc)
    (case xk_NotHeld => k_is)
    (case xb_NotHeld => k_is)
    (case xt_NotHeld => k_is)
    (case xd_NotHeld => k_is)
    (case xg_NotHeld => k_is)
    (case xa_NotHeld => k_is)
    (case xc_NotHeld => k_is)
    (case xm_NotHeld => k_is)
    (case xv_NotHeld => k_is)
    (case na_NoParting => k_is)
    (case xx_NoParting => k_exc)
    (case xk_NoParting => k_is)
    (case xb_NoParting => k_is)
    (case xt_NoParting => k_is)
    (case xd_NoParting => k_is)
    (case xg_NoParting => k_is)
    (case xa_NoParting => k_is)
    (case xc_NoParting => k_is)
    (case xm_NoParting => k_is)
    (case xv_NoParting => k_is)
    (case xn => k_is)
    (case xh => k_is)
    (case se_FareError_BadJourney => k_is)
    (case se_BadPlace_BadJourney => k_is)
    (case se_BadPrice_BadJourney => k_is)
    (case se_TwiceTold_BadJourney => k_is)
    (case se_TooMany_BadJourney => k_is)
    (case se_BadJourney_BadJourney => k_is)
    (case se_BadCuts_BadJourney => k_is)
    (case se_NotHeld_BadJourney => k_is)
    (case se_NoParting_BadJourney => k_is)
    (case se_FareError_BadPlace => k_is)
    (case se_BadPlace_BadPlace => k_is)
    (case se_BadPrice_BadPlace => k_is)
    (case se_TwiceTold_BadPlace => k_is)
    (case se_TooMany_BadPlace => k_is)
    (case se_BadJourney_BadPlace => k_is)
    (case se_BadCuts_BadPlace => k_is)
    (case se_NotHeld_BadPlace => k_is)
    (case se_NoParting_BadPlace => k_is)
    (case se_FareError_FareError => k_is)
    (case se_BadPlace_FareError => k_is)
    (case se_BadPrice_FareError => k_is)
    (case se_TwiceTold_FareError => k_is)
    (case se_TooMany_FareError => k_is)
    (case se_BadJourney_FareError => k_is)
    (case se_BadCuts_FareError => k_is)
    (case se_NotHeld_FareError => k_is)
    (case se_NoParting_FareError => k_is)
    (case na_Tariff => k_is)
    (case tc_pg => k_is)
    (case tc_hd => k_is)
    (case tc_po => k_is)
    (case tc_sa => k_is)
    (case tc_mk => k_is)
    (case tc_kc => k_is)
    (case tc_nr => k_is)
    (case tc_nt => k_is)
    (case zb_bool => k_is)
    (case zb_int => k_is)
    (case zb_isinstance => k_is)
    (case zb_len => k_is)
    (case zb_list => k_is)
    (case zb_max => k_is)
    (case zb_range => k_is)
    (case zb_str => k_is)
    (case zk_LETTERS => k_is)
    (case zk_MOST_PLACES => k_is)
    (case zk_MOST_PRICE => k_is)
    (case zk_MOST_ROWS => k_is)
    (case zk_MOST_SIGNS => k_is)
    (case nf_is_place => k_is)
    (case lf_is_place => k_is)
    (case cf_is_place => k_is)
    (case kf_is_place => k_is)
    (case nf_is_price => k_is)
    (case lf_is_price => k_is)
    (case cf_is_price => k_is)
    (case kf_is_price => k_is)
    (case nf_put => k_is)
    (case if_put => k_is)
    (case lf_put => k_is)
    (case cf_put => k_is)
    (case kf_put => k_is)
    (case nf___init__ => k_is)
    (case if___init__ => k_is)
    (case lf___init__ => k_is)
    (case cf___init__ => k_is)
    (case kf___init__ => k_is)
    (case nf_price => k_is)
    (case if_price => k_is)
    (case lf_price => k_is)
    (case cf_price => k_is)
    (case kf_price => k_is)
    (case nf_told => k_is)
    (case if_told => k_is)
    (case lf_told => k_is)
    (case cf_told => k_is)
    (case kf_told => k_is)
    (case nf_need_journey => k_is)
    (case lf_need_journey => k_is)
    (case cf_need_journey => k_is)
    (case kf_need_journey => k_is)
    (case nf_fault => k_is)
    (case lf_fault => k_is)
    (case cf_fault => k_is)
    (case kf_fault => k_is)
    (case nf_ends_from => k_is)
    (case lf_ends_from => k_is)
    (case cf_ends_from => k_is)
    (case kf_ends_from => k_is)
    (case nf_held => k_is)
    (case lf_held => k_is)
    (case cf_held => k_is)
    (case kf_held => k_is)
    (case nf_price_of => k_is)
    (case lf_price_of => k_is)
    (case cf_price_of => k_is)
    (case kf_price_of => k_is)
    (case nf_walked_back => k_is)
    (case lf_walked_back => k_is)
    (case cf_walked_back => k_is)
    (case kf_walked_back => k_is)
    (case nf_left => k_is)
    (case lf_left => k_is)
    (case cf_left => k_is)
    (case kf_left => k_is)
    (case nf_priced => k_is)
    (case lf_priced => k_is)
    (case cf_priced => k_is)
    (case kf_priced => k_is)
    (case nf_parted => k_is)
    (case lf_parted => k_is)
    (case cf_parted => k_is)
    (case kf_parted => k_is)
    (case nf_line_of => k_is)
    (case lf_line_of => k_is)
    (case cf_line_of => k_is)
    (case kf_line_of => k_is)
    (case nf_bill => k_is)
    (case lf_bill => k_is)
    (case cf_bill => k_is)
    (case kf_bill => k_is)
    (case nf__law_cell_at => k_is)
    (case lf__law_cell_at => k_is)
    (case cf__law_cell_at => k_is)
    (case kf__law_cell_at => k_is)
    (case nf__law_place => k_is)
    (case lf__law_place => k_is)
    (case cf__law_place => k_is)
    (case kf__law_place => k_is)
    (case nf__law_row => k_is)
    (case lf__law_row => k_is)
    (case cf__law_row => k_is)
    (case kf__law_row => k_is)
    (case nf__law_bad => k_is)
    (case lf__law_bad => k_is)
    (case cf__law_bad => k_is)
    (case kf__law_bad => k_is)
    (case nf__law_is_place => k_is)
    (case lf__law_is_place => k_is)
    (case cf__law_is_place => k_is)
    (case kf__law_is_place => k_is)
    (case nf__law_due => k_is)
    (case lf__law_due => k_is)
    (case cf__law_due => k_is)
    (case kf__law_due => k_is)
    (case nf__law_tariff => k_is)
    (case lf__law_tariff => k_is)
    (case cf__law_tariff => k_is)
    (case kf__law_tariff => k_is)
    (case nf__law_deed => k_is)
    (case lf__law_deed => k_is)
    (case cf__law_deed => k_is)
    (case kf__law_deed => k_is)
    (case nf_law => k_is)
    (case lf_law => k_is)
    (case cf_law => k_is)
    (case kf_law => k_is)
