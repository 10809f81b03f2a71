import PyProof.Rows.All
import Wide.All
import OpenK.AllK
import Wide.FinOn
import HandS.ForMost
import HandS.Exc
import HandS.TryOnly
import HandS.ExcOwn
import HandS.WordsExc
import HandS.ExcIs
import HandS.IsInst
import HandS.Style
import HandS.Small
import PyProof.StrBlock2
import PyProof.Rows.StrMul
import PySem.Challenge.RW_farebreak_k03_journeys
set_option Elab.async false
set_option linter.all false
set_option maxRecDepth 100000
/-! # A calculus of values (written for this claim)
Python values are told as plain data D; a slot of a def tells what its value is and who may change it; an expression is a function of the slots to a result. -/
namespace DD
open PySem L2

/-- the program's own exception classes -/
inductive Ex where
  | place | price | twice | many | journey | cuts | held | parting | line
  deriving DecidableEq

/-- what a dict holds at a key -/
inductive Sc where
  | bl (b : Bool) | int (i : Int)
  deriving DecidableEq
def Sc.v : Sc → V
  | .bl b => .bl b
  | .int i => .int i

/-- plain data -/
inductive D where
  | non | bl (b : Bool) | int (i : Int) | str (s : Str)
  | lst (xs : List D) | tup (xs : List D)
  | dt (kvs : List (List Key × Sc)) | dk (kvs : List (Key × Sc))
  | scr (ns : List Int)
  | tar (rows : List (Str × Str × Int))
def Sc.d : Sc → D
  | .bl b => .bl b
  | .int i => .int i

/-- what is fixed through a law: the written part, the class Tariff, the exceptions' classes -/
structure Par where
  K : PySem.W.Frag
  C : Addr
  cx : Ex → Addr

def fRows : Str := "rows"
def fTable : Str := "table"

/-- a tariff's row, as values -/
def RowsAt (F : Hp) : List V → List (Str × Str × Int) → Prop
  | [], [] => True
  | v :: vs, r :: rs => (∃ q, v = .ref q ∧ F q = some (.tup [.str r.1, .str r.2.1, .int r.2.2])) ∧ RowsAt F vs rs
  | _, _ => False
def rowsKv (rows : List (Str × Str × Int)) : List (List Key × V) := rows.map fun r => ([.inr r.1, .inr r.2.1], .int r.2.2)
/-- a Tariff stands at p -/
structure TarAt (C : Addr) (F : Hp) (p dx l t : Addr) (vs : List V) (rows : List (Str × Str × Int)) : Prop where
  ins : F p = some (.ins C dx [(fRows, .ref l), (fTable, .ref t)])
  own : F dx = some (.own p)
  lst : F l = some (.lst vs)
  tab : F t = some (.dT (rowsKv rows))
  rws : RowsAt F vs rows

mutual
def Rep (T : Par) (F : Hp) : V → D → Prop
  | v, .non => v = .non
  | v, .bl b => v = .bl b
  | v, .int i => v = .int i
  | v, .str s => v = .str s
  | v, .lst ds => ∃ p vs, v = .ref p ∧ F p = some (.lst vs) ∧ Reps T F vs ds
  | v, .tup ds => ∃ p vs, v = .ref p ∧ F p = some (.tup vs) ∧ Reps T F vs ds
  | v, .dt kvs => ∃ p, v = .ref p ∧ F p = some (.dT (kvs.map fun kv => (kv.1, kv.2.v)))
  | v, .dk kvs => ∃ p, v = .ref p ∧ F p = some (.dK (kvs.map fun kv => (kv.1, kv.2.v)))
  | v, .scr ns => ∃ p, v = .ref p ∧ SqL T.K F p (ns.map V.int)
  | v, .tar rows => ∃ p dx l t vs, v = .ref p ∧ TarAt T.C F p dx l t vs rows
def Reps (T : Par) (F : Hp) : List V → List D → Prop
  | [], [] => True
  | v :: vs, d :: ds => Rep T F v d ∧ Reps T F vs ds
  | [], _ :: _ => False
  | _ :: _, [] => False
end

theorem RowsAt.mono {F F' : Hp} (e : Same F F') : ∀ {vs rows}, RowsAt F vs rows → RowsAt F' vs rows
  | [], [], h => trivial
  | v :: vs, r :: rs, h => by
    obtain ⟨⟨q, h1, h2⟩, h3⟩ := h
    exact ⟨⟨q, h1, e _ _ h2⟩, RowsAt.mono e h3⟩
  | [], _ :: _, h => h.elim
  | _ :: _, [], h => h.elim
theorem TarAt.mono {C : Addr} {F F' : Hp} {p dx l t : Addr} {vs : List V} {rows : List (Str × Str × Int)} (e : Same F F') (h : TarAt C F p dx l t vs rows) : TarAt C F' p dx l t vs rows :=
  ⟨e _ _ h.ins, e _ _ h.own, e _ _ h.lst, e _ _ h.tab, h.rws.mono e⟩
mutual
theorem Rep.mono {T : Par} {F F' : Hp} (e : Same F F') : ∀ {v : V} {d : D}, Rep T F v d → Rep T F' v d
  | v, .non, h => by simpa [Rep] using h
  | v, .bl b, h => by simpa [Rep] using h
  | v, .int i, h => by simpa [Rep] using h
  | v, .str s, h => by simpa [Rep] using h
  | v, .lst ds, h => by
    rw [Rep] at h ⊢
    obtain ⟨p, vs, h1, h2, h3⟩ := h
    exact ⟨p, vs, h1, e _ _ h2, Reps.mono e h3⟩
  | v, .tup ds, h => by
    rw [Rep] at h ⊢
    obtain ⟨p, vs, h1, h2, h3⟩ := h
    exact ⟨p, vs, h1, e _ _ h2, Reps.mono e h3⟩
  | v, .dt kvs, h => by
    rw [Rep] at h ⊢
    obtain ⟨p, h1, h2⟩ := h
    exact ⟨p, h1, e _ _ h2⟩
  | v, .dk kvs, h => by
    rw [Rep] at h ⊢
    obtain ⟨p, h1, h2⟩ := h
    exact ⟨p, h1, e _ _ h2⟩
  | v, .scr ns, h => by
    rw [Rep] at h ⊢
    obtain ⟨p, h1, h2⟩ := h
    exact ⟨p, h1, e.seq h2⟩
  | v, .tar rows, h => by
    rw [Rep] at h ⊢
    obtain ⟨p, dx, l, t, vs, h1, h2⟩ := h
    exact ⟨p, dx, l, t, vs, h1, h2.mono e⟩
theorem Reps.mono {T : Par} {F F' : Hp} (e : Same F F') : ∀ {vs : List V} {ds : List D}, Reps T F vs ds → Reps T F' vs ds
  | [], [], h => by simp [Reps]
  | v :: vs, d :: ds, h => by
    rw [Reps] at h ⊢
    exact ⟨Rep.mono e h.1, Reps.mono e h.2⟩
  | [], _ :: _, h => by simp [Reps] at h
  | _ :: _, [], h => by simp [Reps] at h
end

mutual
/-- data in which nothing can be changed -/
def imm : D → Bool
  | .non => true
  | .bl _ => true
  | .int _ => true
  | .str _ => true
  | .tup ds => imms ds
  | .lst _ => false
  | .dt _ => false
  | .dk _ => false
  | .scr _ => false
  | .tar _ => false
def imms : List D → Bool
  | [] => true
  | d :: ds => imm d && imms ds
end
def isTup (o : HO) : Prop := ∃ xs, o = .tup xs
/-- the tuples of a heap -/
def tuF (F : Hp) : Hp := fun a => match F a with
  | some (.tup xs) => some (.tup xs)
  | _ => none
theorem tuF_some {F : Hp} {a : Addr} {xs : List V} (h : F a = some (.tup xs)) : tuF F a = some (.tup xs) := by
  unfold tuF; rw [h]
theorem tuF_inv {F : Hp} {a : Addr} {o : HO} (h : tuF F a = some o) : F a = some o ∧ isTup o := by
  unfold tuF at h
  split at h
  · rename_i xs e
    cases h
    exact ⟨e, _, rfl⟩
  · cases h
theorem tuF_same (F : Hp) : Same (tuF F) F := fun _ _ h => (tuF_inv h).1
mutual
theorem Rep.imm {T : Par} {F : Hp} : ∀ {v : V} {d : D}, imm d = true → Rep T F v d → Rep T (tuF F) v d
  | v, .non, _, h => by simpa [Rep] using h
  | v, .bl b, _, h => by simpa [Rep] using h
  | v, .int i, _, h => by simpa [Rep] using h
  | v, .str s, _, h => by simpa [Rep] using h
  | v, .tup ds, i, h => by
    rw [Rep] at h ⊢
    rw [DD.imm] at i
    obtain ⟨p, vs, h1, h2, h3⟩ := h
    exact ⟨p, vs, h1, tuF_some h2, Reps.imm i h3⟩
  | v, .lst ds, i, h => by simp [DD.imm] at i
  | v, .dt kvs, i, h => by simp [DD.imm] at i
  | v, .dk kvs, i, h => by simp [DD.imm] at i
  | v, .scr ns, i, h => by simp [DD.imm] at i
  | v, .tar rows, i, h => by simp [DD.imm] at i
theorem Reps.imm {T : Par} {F : Hp} : ∀ {vs : List V} {ds : List D}, imms ds = true → Reps T F vs ds → Reps T (tuF F) vs ds
  | [], [], _, h => by simp [Reps]
  | v :: vs, d :: ds, i, h => by
    rw [Reps] at h ⊢
    rw [imms, Bool.and_eq_true] at i
    exact ⟨Rep.imm i.1 h.1, Reps.imm i.2 h.2⟩
  | [], _ :: _, _, h => by simp [Reps] at h
  | _ :: _, [], _, h => by simp [Reps] at h
end
theorem Reps.length {T : Par} {F : Hp} : ∀ {vs : List V} {ds : List D}, Reps T F vs ds → vs.length = ds.length
  | [], [], h => rfl
  | v :: vs, d :: ds, h => by
    rw [Reps] at h
    simp [Reps.length h.2]
  | [], _ :: _, h => by simp [Reps] at h
  | _ :: _, [], h => by simp [Reps] at h
theorem Reps.get {T : Par} {F : Hp} : ∀ {vs : List V} {ds : List D} {i : Nat} {d : D}, Reps T F vs ds → ds[i]? = some d → ∃ v, vs[i]? = some v ∧ Rep T F v d
  | [], [], i, d, h, e => by simp at e
  | v :: vs, d :: ds, 0, d', h, e => by
    rw [Reps] at h
    simp at e
    subst e
    exact ⟨v, rfl, h.1⟩
  | v :: vs, d :: ds, i + 1, d', h, e => by
    rw [Reps] at h
    obtain ⟨w, h1, h2⟩ := Reps.get h.2 (by simpa using e)
    exact ⟨w, by simpa using h1, h2⟩
  | [], _ :: _, _, _, h, e => by simp [Reps] at h
  | _ :: _, [], _, _, h, e => by simp [Reps] at h
theorem Reps.getV {T : Par} {F : Hp} {vs : List V} {ds : List D} {i : Nat} {v : V} (h : Reps T F vs ds) (e : vs[i]? = some v) : ∃ d, ds[i]? = some d ∧ Rep T F v d := by
  have hl := h.length
  have hi : i < ds.length := by rw [← hl]; exact (List.getElem?_eq_some_iff.mp e).1
  obtain ⟨w, h1, h2⟩ := h.get (List.getElem?_eq_getElem hi)
  rw [e] at h1
  cases h1
  exact ⟨_, List.getElem?_eq_getElem hi, h2⟩
theorem Reps.append {T : Par} {F : Hp} : ∀ {vs ws : List V} {ds es : List D}, Reps T F vs ds → Reps T F ws es → Reps T F (vs ++ ws) (ds ++ es)
  | [], _, [], _, _, h => h
  | v :: vs, ws, d :: ds, es, h, k => by
    rw [Reps] at h
    show Reps T F (v :: (vs ++ ws)) (d :: (ds ++ es))
    rw [Reps]
    exact ⟨h.1, Reps.append h.2 k⟩
  | [], _, _ :: _, _, h, _ => by simp [Reps] at h
  | _ :: _, _, [], _, h, _ => by simp [Reps] at h
theorem Reps.take {T : Par} {F : Hp} : ∀ (n : Nat) {vs : List V} {ds : List D}, Reps T F vs ds → Reps T F (vs.take n) (ds.take n)
  | 0, vs, ds, _ => by simp [Reps]
  | n + 1, [], [], _ => by simp [Reps]
  | n + 1, v :: vs, d :: ds, h => by
    rw [Reps] at h
    simp only [List.take_succ_cons]
    rw [Reps]
    exact ⟨h.1, Reps.take n h.2⟩
  | _ + 1, [], _ :: _, h => by simp [Reps] at h
  | _ + 1, _ :: _, [], h => by simp [Reps] at h
theorem Reps.drop {T : Par} {F : Hp} : ∀ (n : Nat) {vs : List V} {ds : List D}, Reps T F vs ds → Reps T F (vs.drop n) (ds.drop n)
  | 0, vs, ds, h => by simpa using h
  | n + 1, [], [], _ => by simp [Reps]
  | n + 1, v :: vs, d :: ds, h => by
    rw [Reps] at h
    simp only [List.drop_succ_cons]
    exact Reps.drop n h.2
  | _ + 1, [], _ :: _, h => by simp [Reps] at h
  | _ + 1, _ :: _, [], h => by simp [Reps] at h
theorem Reps.set {T : Par} {F : Hp} {v : V} {d : D} (r : Rep T F v d) : ∀ (n : Nat) {vs : List V} {ds : List D}, Reps T F vs ds → Reps T F (vs.set n v) (ds.set n d)
  | _, [], [], _ => by simp [Reps]
  | 0, w :: vs, e :: ds, h => by
    rw [Reps] at h
    simp only [List.set_cons_zero]
    rw [Reps]
    exact ⟨r, h.2⟩
  | n + 1, w :: vs, e :: ds, h => by
    rw [Reps] at h
    simp only [List.set_cons_succ]
    rw [Reps]
    exact ⟨h.1, Reps.set r n h.2⟩
  | _, [], _ :: _, h => by simp [Reps] at h
  | _, _ :: _, [], h => by simp [Reps] at h
theorem Reps.reverse {T : Par} {F : Hp} : ∀ {vs : List V} {ds : List D}, Reps T F vs ds → Reps T F vs.reverse ds.reverse
  | [], [], _ => by simp [Reps]
  | v :: vs, d :: ds, h => by
    rw [Reps] at h
    simp only [List.reverse_cons]
    exact (Reps.reverse h.2).append (by simp [Reps, h.1])
  | [], _ :: _, h => by simp [Reps] at h
  | _ :: _, [], h => by simp [Reps] at h
theorem Reps.ints {T : Par} {F : Hp} : ∀ {vs : List V} {ns : List Int}, Reps T F vs (ns.map D.int) → vs = ns.map V.int
  | [], [], _ => rfl
  | v :: vs, n :: ns, h => by
    simp only [List.map_cons, Reps, Rep] at h
    obtain ⟨rfl, h⟩ := h
    rw [Reps.ints h]
    rfl
  | [], _ :: _, h => by simp [Reps] at h
  | _ :: _, [], h => by simp [Reps] at h
theorem Reps.strs {T : Par} {F : Hp} : ∀ {vs : List V} {ns : List Str}, Reps T F vs (ns.map D.str) → vs = ns.map V.str
  | [], [], _ => rfl
  | v :: vs, n :: ns, h => by
    simp only [List.map_cons, Reps, Rep] at h
    obtain ⟨rfl, h⟩ := h
    rw [Reps.strs h]
    rfl
  | [], _ :: _, h => by simp [Reps] at h
  | _ :: _, [], h => by simp [Reps] at h
theorem Reps.bls {T : Par} {F : Hp} : ∀ {vs : List V} {ns : List Bool}, Reps T F vs (ns.map D.bl) → vs = ns.map V.bl
  | [], [], _ => rfl
  | v :: vs, n :: ns, h => by
    simp only [List.map_cons, Reps, Rep] at h
    obtain ⟨rfl, h⟩ := h
    rw [Reps.bls h]
    rfl
  | [], _ :: _, h => by simp [Reps] at h
  | _ :: _, [], h => by simp [Reps] at h
theorem Reps.of_ints {T : Par} {F : Hp} : ∀ (ns : List Int), Reps T F (ns.map V.int) (ns.map D.int)
  | [] => by simp [Reps]
  | n :: ns => by
    simp only [List.map_cons, Reps, Rep]
    exact ⟨trivial, Reps.of_ints ns⟩
theorem Reps.of_strs {T : Par} {F : Hp} : ∀ (ns : List Str), Reps T F (ns.map V.str) (ns.map D.str)
  | [] => by simp [Reps]
  | n :: ns => by
    simp only [List.map_cons, Reps, Rep]
    exact ⟨trivial, Reps.of_strs ns⟩
theorem RowsAt.length {F : Hp} : ∀ {vs : List V} {rows}, RowsAt F vs rows → vs.length = rows.length
  | [], [], _ => rfl
  | v :: vs, r :: rs, h => by
    simp [RowsAt.length h.2]
  | [], _ :: _, h => h.elim
  | _ :: _, [], h => h.elim
/-- a row as data -/
def rowD (r : Str × Str × Int) : D := .tup [.str r.1, .str r.2.1, .int r.2.2]
theorem RowsAt.reps {T : Par} {F : Hp} : ∀ {vs : List V} {rows}, RowsAt F vs rows → Reps T F vs (rows.map rowD)
  | [], [], _ => by simp [Reps]
  | v :: vs, r :: rs, h => by
    obtain ⟨⟨q, h1, h2⟩, h3⟩ := h
    simp only [List.map_cons, Reps]
    refine ⟨?_, RowsAt.reps h3⟩
    rw [rowD, Rep]
    exact ⟨q, _, h1, h2, by simp [Reps, Rep]⟩
  | [], _ :: _, h => h.elim
  | _ :: _, [], h => h.elim
theorem RowsAt.of_reps {T : Par} {F : Hp} : ∀ {vs : List V} {rows}, Reps T F vs (rows.map rowD) → RowsAt F vs rows
  | [], [], _ => trivial
  | v :: vs, r :: rs, h => by
    simp only [List.map_cons, Reps] at h
    obtain ⟨h1, h2⟩ := h
    rw [rowD, Rep] at h1
    obtain ⟨q, ws, e1, e2, e3⟩ := h1
    refine ⟨⟨q, e1, ?_⟩, RowsAt.of_reps h2⟩
    rw [e2]
    match ws, e3 with
    | [a, b, c], e3 =>
      simp only [Reps, Rep] at e3
      obtain ⟨rfl, rfl, rfl, _⟩ := e3
      rfl
    | [], e3 => simp [Reps] at e3
    | [a], e3 => simp [Reps] at e3
    | [a, b], e3 => simp [Reps] at e3
    | a :: b :: c :: d :: r, e3 => simp [Reps] at e3
  | [], _ :: _, h => by simp [Reps] at h
  | _ :: _, [], h => by simp [Reps] at h

end DD

set_option maxRecDepth 100000
namespace DD
open PySem L2

/-- how a result is held: any: nothing known; bw: stands in the arguments' heap; st: may be shared; tp: a new top cell over shared ones; dp: all its cells are new -/
inductive Kd where
  | any | bw | st | tp | dp
  deriving DecidableEq
/-- what a slot holds: nothing known; shared; borrowed; its own top cell; all its own; in a comprehension: anything; an exception -/
inductive Slot where
  | un | sh (d : D) | bo (d : D) | ow (d : D) | dp (d : D) | an (d : D) | ex (c : Ex)
abbrev Dl := List Slot
inductive Res where
  | ok (d : D) (k : Kd) | er (c : Ex) | no
/-- the handled exception of an except suite -/
structure Hd where
  hx : Addr
  hc : Value
  hd : Option Addr

structure Grow (F H F' H' : Hp) : Prop where
  ff : Same F F'
  hh : Same H H'
  fh : Same F' H'
  nw : ∀ a o, F' a = some o → F a = some o ∨ H a = none ∨ isTup o
theorem Grow.refl {F H : Hp} (h : Same F H) : Grow F H F H := ⟨Same.refl _, Same.refl _, h, fun _ _ e => .inl e⟩
theorem Grow.trans {F H F1 H1 F2 H2 : Hp} (a : Grow F H F1 H1) (b : Grow F1 H1 F2 H2) : Grow F H F2 H2 :=
  ⟨a.ff.trans b.ff, a.hh.trans b.hh, b.fh, fun x o e => by
    rcases b.nw x o e with h | h | h
    · exact a.nw x o h
    · exact .inr (.inl (a.hh.free h))
    · exact .inr (.inr h)⟩
theorem upd_sameN {H : Hp} {p : Addr} {o : HO} (h : H p = none) : Same H (upd H p o) := fun b u e => by
  rw [upd_ne (ne_of_none e h)]; exact e
theorem upd_mono {F H : Hp} {p : Addr} {o : HO} (h : Same F H) : Same (upd F p o) (upd H p o) := fun b u e => by
  by_cases hb : b = p
  · subst hb; rw [upd_same] at e ⊢; exact e
  · rw [upd_ne hb] at e ⊢; exact h _ _ e
/-- a new cell that stays out of the shared heap -/
theorem Grow.cell {F H : Hp} {p : Addr} {o : HO} (h : Same F H) (hp : H p = none) : Grow F H F (upd H p o) :=
  ⟨Same.refl _, upd_sameN hp, h.trans (upd_sameN hp), fun _ _ e => .inl e⟩
/-- a new cell, shared -/
theorem Grow.cellF {F H : Hp} {p : Addr} {o : HO} (h : Same F H) (hp : H p = none) : Grow F H (upd F p o) (upd H p o) :=
  ⟨upd_sameN (h.free hp), upd_sameN hp, upd_mono h, fun b u e => by
    by_cases hb : b = p
    · subst hb; exact .inr (.inl hp)
    · rw [upd_ne hb] at e; exact .inl e⟩
/-- two heaps as one -/
def hun (F G : Hp) : Hp := fun a => match F a with
  | some o => some o
  | none => G a
theorem hun_l {F G : Hp} : Same F (hun F G) := fun a o e => by unfold hun; rw [e]
theorem hun_r {F G H : Hp} (hF : Same F H) (hG : Same G H) : Same G (hun F G) := fun a o e => by
  unfold hun
  cases h : F a with
  | none => exact e
  | some u =>
    have h1 := hF a u h
    rw [hG a o e] at h1
    exact h1.symm
theorem hun_in {F G H : Hp} (hF : Same F H) (hG : Same G H) : Same (hun F G) H := fun a o e => by
  unfold hun at e
  split at e
  · rename_i u h
    cases e
    exact hF _ _ h
  · exact hG _ _ e
theorem hun_inv {F G : Hp} {a : Addr} {o : HO} (e : hun F G a = some o) : F a = some o ∨ G a = some o := by
  unfold hun at e
  split at e
  · rename_i u h
    cases e
    exact .inl h
  · exact .inr e
/-- tuples may always be shared -/
theorem Grow.tups {F H : Hp} (h : Same F H) : Grow F H (hun F (tuF H)) H :=
  ⟨hun_l, Same.refl _, hun_in h (tuF_same H), fun a o e => by
    rcases hun_inv e with e | e
    · exact .inl e
    · exact .inr (.inr (tuF_inv e).2)⟩
/-- shared: what is new -/
theorem Grow.take {F H H' G : Hp} (h : Same F H) (hh : Same H H') (hG : Same G H') (hn : ∀ a o, G a = some o → isTup o ∨ H a = none) : Grow F H (hun F G) H' :=
  ⟨hun_l, hh, hun_in (h.trans hh) hG, fun a o e => by
    rcases hun_inv e with e | e
    · exact .inl e
    · rcases hn a o e with t | t
      · exact .inr (.inr t)
      · exact .inr (.inl t)⟩

/-- a list, a dict at its own cell p -/
def OwnTop (T : Par) (F H : Hp) (p : Addr) : D → Prop
  | .lst ds => ∃ vs, H p = some (.lst vs) ∧ Reps T F vs ds
  | .dt kvs => H p = some (.dT (kvs.map fun kv => (kv.1, kv.2.v)))
  | .dk kvs => H p = some (.dK (kvs.map fun kv => (kv.1, kv.2.v)))
  | _ => False
theorem OwnTop.cell {T : Par} {F H : Hp} {p : Addr} {d : D} (h : OwnTop T F H p d) : ∃ o, H p = some o ∧ ¬ isTup o := by
  cases d with
  | lst ds => obtain ⟨vs, h, _⟩ := h; exact ⟨_, h, fun ⟨_, z⟩ => nomatch z⟩
  | dt kvs => exact ⟨_, h, fun ⟨_, z⟩ => nomatch z⟩
  | dk kvs => exact ⟨_, h, fun ⟨_, z⟩ => nomatch z⟩
  | _ => exact h.elim
theorem OwnTop.mono {T : Par} {F H F' H' : Hp} {p : Addr} {d : D} (hF : Same F F') (hH : H' p = H p) (h : OwnTop T F H p d) : OwnTop T F' H' p d := by
  cases d with
  | lst ds => obtain ⟨vs, h, r⟩ := h; exact ⟨vs, hH.trans h, r.mono hF⟩
  | dt kvs => exact hH.trans h
  | dk kvs => exact hH.trans h
  | _ => exact h.elim
/-- over any heap in which both stand -/
theorem OwnTop.rep {T : Par} {F H G : Hp} {p : Addr} {d : D} (h : OwnTop T F H p d) (hF : Same F G) (hp : G p = H p) : Rep T G (.ref p) d := by
  cases d with
  | lst ds =>
    obtain ⟨vs, h, r⟩ := h
    rw [Rep]
    exact ⟨p, vs, rfl, hp.trans h, r.mono hF⟩
  | dt kvs => rw [Rep]; exact ⟨p, rfl, hp.trans h⟩
  | dk kvs => rw [Rep]; exact ⟨p, rfl, hp.trans h⟩
  | _ => exact h.elim

def SlotR (T : Par) (Z : Hd) (A F H : Hp) (fp : Addr → Prop) : Slot → Option V → Prop
  | .un, _ => True
  | .sh d, o => ∃ v, o = some v ∧ Rep T F v d
  | .bo d, o => ∃ v, o = some v ∧ Rep T A v d
  | .ow d, o => ∃ p, o = some (.ref p) ∧ fp p ∧ OwnTop T F H p d
  | .dp d, o => ∃ v, o = some v ∧ ∃ G, Same G H ∧ (∀ a u, G a = some u → isTup u ∨ fp a) ∧ Rep T G v d
  | .an d, o => ∃ v, o = some v ∧ Rep T H v d
  | .ex c, o => o = some (.ref Z.hx) ∧ Z.hc = .ref (T.cx c) ∧ Z.hd = none

structure SR (T : Par) (Z : Hd) (H0 A : Hp) (δ : Dl) (σ : L2.St) (F : Hp) (fp : Nat → Addr → Prop) (H : Hp) : Prop where
  h0 : Same H0 H
  ah : Same A H0
  fh : Same F H
  fn : ∀ a o, F a = some o → H0 a = none ∨ isTup o
  own : ∀ i a, fp i a → F a = none ∧ H0 a = none ∧ ∃ o, H a = some o ∧ ¬ isTup o
  sep : ∀ i j a, fp i a → fp j a → i = j
  sl : ∀ (i : Nat) s, δ[i]? = some s → ∃ o, σ[i]? = some o ∧ SlotR T Z A F H (fp i) s o
  len : σ.length = δ.length

theorem Grow.own {F H F' H' : Hp} (g : Grow F H F' H') {a : Addr} {o : HO} (h1 : F a = none) (h2 : H a = some o) (h3 : ¬ isTup o) : F' a = none := by
  cases e : F' a with
  | none => rfl
  | some u =>
    rcases g.nw a u e with h | h | h
    · rw [h1] at h; cases h
    · rw [h2] at h; cases h
    · have h4 := g.fh a u e
      rw [g.hh a o h2] at h4
      cases h4
      exact (h3 h).elim
theorem SR.grow {T : Par} {Z : Hd} {H0 A : Hp} {δ : Dl} {σ : L2.St} {F H F' H' : Hp} {fp : Nat → Addr → Prop} (s : SR T Z H0 A δ σ F fp H) (g : Grow F H F' H') : SR T Z H0 A δ σ F' fp H' := by
  refine ⟨s.h0.trans g.hh, s.ah, g.fh, fun a o e => ?_, fun i a h => ?_, s.sep, fun i x e => ?_, s.len⟩
  · rcases g.nw a o e with h | h | h
    · exact s.fn a o h
    · exact .inl (s.h0.free h)
    · exact .inr h
  · obtain ⟨h1, h2, o, h3, h4⟩ := s.own i a h
    exact ⟨g.own h1 h3 h4, h2, o, g.hh _ _ h3, h4⟩
  · obtain ⟨o, h1, h2⟩ := s.sl i x e
    refine ⟨o, h1, ?_⟩
    cases x with
    | un => trivial
    | sh d => obtain ⟨v, e1, r⟩ := h2; exact ⟨v, e1, r.mono g.ff⟩
    | bo d => exact h2
    | ow d =>
      obtain ⟨p, e1, hf, r⟩ := h2
      obtain ⟨u, hu, _⟩ := r.cell
      exact ⟨p, e1, hf, r.mono g.ff ((g.hh _ _ hu).trans hu.symm)⟩
    | dp d =>
      obtain ⟨v, e1, G, h3, h4, r⟩ := h2
      exact ⟨v, e1, G, h3.trans g.hh, h4, r⟩
    | an d => obtain ⟨v, e1, r⟩ := h2; exact ⟨v, e1, r.mono g.hh⟩
    | ex c => exact h2

/-- how a result is held; Ho: the heap ahead of it -/
def ResR (T : Par) (A F H Ho : Hp) : Kd → V → D → Prop
  | .any, v, d => Rep T H v d
  | .bw, v, d => Rep T A v d
  | .st, v, d => Rep T F v d
  | .tp, v, d => ∃ p, v = .ref p ∧ F p = none ∧ Ho p = none ∧ OwnTop T F H p d
  | .dp, v, d => ∃ G, Same G H ∧ (∀ a u, G a = some u → isTup u ∨ (F a = none ∧ Ho a = none)) ∧ Rep T G v d
theorem ResR.rep {T : Par} {A F H Ho : Hp} {k : Kd} {v : V} {d : D} (h : ResR T A F H Ho k v d) (hA : Same A H) (hF : Same F H) : Rep T H v d := by
  cases k with
  | any => exact h
  | bw => exact Rep.mono hA h
  | st => exact Rep.mono hF h
  | tp => obtain ⟨p, rfl, _, _, r⟩ := h; exact r.rep hF rfl
  | dp => obtain ⟨G, h1, _, r⟩ := h; exact r.mono h1
/-- may the result be shared from now on -/
def stK (d : D) (k : Kd) : Bool := match k with
  | .st => true
  | .tp => true
  | .dp => true
  | _ => imm d
theorem ResR.share {T : Par} {A F H Ho : Hp} {k : Kd} {v : V} {d : D} (h : ResR T A F H Ho k v d) (hA : Same A H) (hF : Same F H) (hs : stK d k = true) :
    ∃ F', Same F F' ∧ Same F' H ∧ (∀ a o, F' a = some o → F a = some o ∨ Ho a = none ∨ isTup o) ∧ Rep T F' v d := by
  have im : DD.imm d = true → ∃ F', Same F F' ∧ Same F' H ∧ (∀ a o, F' a = some o → F a = some o ∨ Ho a = none ∨ isTup o) ∧ Rep T F' v d := fun hi =>
    ⟨hun F (tuF H), hun_l, hun_in hF (tuF_same H), fun a o e => by
      rcases hun_inv e with e | e
      · exact .inl e
      · exact .inr (.inr (tuF_inv e).2), ((h.rep hA hF).imm hi).mono (hun_r hF (tuF_same H))⟩
  cases k with
  | any => exact im hs
  | bw => exact im hs
  | st => exact ⟨F, Same.refl _, hF, fun _ _ e => .inl e, h⟩
  | tp =>
    obtain ⟨p, rfl, h1, h2, r⟩ := h
    obtain ⟨o, ho, _⟩ := r.cell
    refine ⟨upd F p o, upd_sameN h1, fun b u e => ?_, fun b u e => ?_, r.rep (upd_sameN h1) (upd_same.trans ho.symm)⟩
    · by_cases hb : b = p
      · subst hb; rw [upd_same] at e; cases e; exact ho
      · rw [upd_ne hb] at e; exact hF _ _ e
    · by_cases hb : b = p
      · subst hb; exact .inr (.inl h2)
      · rw [upd_ne hb] at e; exact .inl e
  | dp =>
    obtain ⟨G, h1, h2, r⟩ := h
    exact ⟨hun F G, hun_l, hun_in hF h1, fun a o e => by
      rcases hun_inv e with e | e
      · exact .inl e
      · rcases h2 a o e with t | t
        · exact .inr (.inr t)
        · exact .inr (.inl t.2), r.mono (hun_r hF h1)⟩
/-- a result through further growth -/
theorem ResR.grow {T : Par} {A F H Ho F' H' : Hp} {k : Kd} {v : V} {d : D} (h : ResR T A F H Ho k v d) (g : Grow F H F' H') : ResR T A F' H' Ho k v d := by
  cases k with
  | any => exact Rep.mono g.hh h
  | bw => exact h
  | st => exact Rep.mono g.ff h
  | tp =>
    obtain ⟨p, rfl, h1, h2, r⟩ := h
    obtain ⟨o, ho, hn⟩ := r.cell
    exact ⟨p, rfl, g.own h1 ho hn, h2, r.mono g.ff ((g.hh _ _ ho).trans ho.symm)⟩
  | dp =>
    obtain ⟨G, h1, h2, r⟩ := h
    refine ⟨G, h1.trans g.hh, fun a u e => ?_, r⟩
    rcases h2 a u e with t | t
    · exact .inl t
    · by_cases ht : isTup u
      · exact .inl ht
      · exact .inr ⟨g.own t.1 (h1 _ _ e) ht, t.2⟩
theorem ResR.older {T : Par} {A F H Ho Ho' : Hp} {k : Kd} {v : V} {d : D} (h : ResR T A F H Ho k v d) (e : ∀ a, Ho a = none → Ho' a = none) : ResR T A F H Ho' k v d := by
  cases k with
  | any => exact h
  | bw => exact h
  | st => exact h
  | tp => obtain ⟨p, rfl, h1, h2, r⟩ := h; exact ⟨p, rfl, h1, e _ h2, r⟩
  | dp =>
    obtain ⟨G, h1, h2, r⟩ := h
    exact ⟨G, h1, fun a u q => (h2 a u q).imp id fun z => ⟨z.1, e _ z.2⟩, r⟩

/-- what is wanted behind an expression -/
def PostE (T : Par) (A F H : Hp) (W : WX) (σ : L2.St) (Q : VK) : Res → Prop
  | .ok d k => ∀ v F' H', Grow F H F' H' → ResR T A F' H' H k v d → Q v H'
  | .er c => ∀ F' H', Grow F H F' H' → W (.ref (T.cx c)) none σ H'
  | .no => False
def EvS (T : Par) (Z : Hd) (W : WX) (t : TE) (f : Dl → Res) : Prop :=
  ∀ H0 A δ σ F fp H (Q : VK), SR T Z H0 A δ σ F fp H → PostE T A F H W σ Q (f δ) → t σ H Q
def PDe (X : Cx) (T : Par) (Z : Hd) (W : WX) (e : Expr) (f : Dl → Res) : Prop := ∃ t, PE X e t ∧ EvS T Z W t f

/-- tests -/
inductive ResB where
  | ok (b : Bool) | er (c : Ex) | no
def PostB (T : Par) (F H : Hp) (W : WX) (σ : L2.St) (Q : Bool → Hp → Prop) : ResB → Prop
  | .ok b => ∀ F' H', Grow F H F' H' → Q b H'
  | .er c => ∀ F' H', Grow F H F' H' → W (.ref (T.cx c)) none σ H'
  | .no => False
def EvB (T : Par) (Z : Hd) (W : WX) (t : TT) (f : Dl → ResB) : Prop :=
  ∀ H0 A δ σ F fp H (Q : Bool → Hp → Prop), SR T Z H0 A δ σ F fp H → PostB T F H W σ Q (f δ) → t σ H Q
def PDt (X : Cx) (T : Par) (Z : Hd) (W : WX) (e : Expr) (f : Dl → ResB) : Prop := ∃ t, PT X e t ∧ EvB T Z W t f

/-- argument lists -/
inductive ResA where
  | ok (ds : List D) (st : Bool) | er (c : Ex) | no
/-- st: all of them may be shared -/
def PostA (T : Par) (F H : Hp) (W : WX) (σ : L2.St) (Q : List V → Hp → Prop) : ResA → Prop
  | .ok ds st => ∀ vs F' H', Grow F H F' H' → Reps T (if st = true then F' else H') vs ds → Q vs H'
  | .er c => ∀ F' H', Grow F H F' H' → W (.ref (T.cx c)) none σ H'
  | .no => False
def EvA (T : Par) (Z : Hd) (W : WX) (t : TA) (f : Dl → ResA) : Prop :=
  ∀ H0 A δ σ F fp H (Q : List V → Hp → Prop), SR T Z H0 A δ σ F fp H → PostA T F H W σ Q (f δ) → t σ H Q
def PDa (X : Cx) (T : Par) (Z : Hd) (W : WX) (es : List Expr) (f : Dl → ResA) : Prop := ∃ t, PA X es t ∧ EvA T Z W t f

/-! ### combining -/
def bindR (r : Res) (g : D → Kd → Res) : Res := match r with
  | .ok d k => g d k
  | .er c => .er c
  | .no => .no
section
variable {T : Par} {Z : Hd} {W : WX} {H0 A : Hp} {δ : Dl} {σ : L2.St} {F H : Hp} {fp : Nat → Addr → Prop} {Q : VK}
theorem SR.aH (s : SR T Z H0 A δ σ F fp H) : Same A H := s.ah.trans s.h0
/-- the first operand, then what goes on with its value -/
theorem EvS.then_ {t : TE} {f : Dl → Res} {g : D → Kd → Res} (e : EvS T Z W t f) (s : SR T Z H0 A δ σ F fp H) (h : PostE T A F H W σ Q (bindR (f δ) g)) (R : VK)
    (k : ∀ d kd v F' H', f δ = .ok d kd → Grow F H F' H' → SR T Z H0 A δ σ F' fp H' → ResR T A F' H' H kd v d → PostE T A F H W σ Q (g d kd) → R v H') : t σ H R := by
  refine e H0 A δ σ F fp H R s ?_
  cases hf : f δ with
  | ok d kd =>
    rw [hf] at h
    exact fun v F' H' g' r => k d kd v F' H' hf g' (s.grow g') r h
  | er c =>
    rw [hf] at h
    exact h
  | no =>
    rw [hf] at h
    exact h.elim
/-- the wish, from a later point on -/
theorem PostE.later {F1 H1 : Hp} {r : Res} (h : PostE T A F H W σ Q r) (g : Grow F H F1 H1) : PostE T A F1 H1 W σ Q r := by
  cases r with
  | ok d k => exact fun v F' H' g' r => h v F' H' (g.trans g') (r.older fun a e => g.hh.free e)
  | er c => exact fun F' H' g' => h F' H' (g.trans g')
  | no => exact h
end
end DD

set_option maxRecDepth 100000
namespace DD
noncomputable section
open PySem L2

/-! ### names, constants -/
def varR (i : Nat) (δ : Dl) : Res := match δ[i]? with
  | some (.sh d) => .ok d .st
  | some (.bo d) => .ok d .bw
  | some (.ow d) => .ok d .any
  | some (.dp d) => .ok d .any
  | some (.an d) => .ok d .any
  | _ => .no
section
variable {X : Cx} {T : Par} {Z : Hd} {W : WX}
theorem ev_var (i : Nat) : EvS T Z W (tVar i) (varR i) := by
  intro H0 A δ σ F fp H Q s h
  unfold varR at h
  cases e : δ[i]? with
  | none => rw [e] at h; exact h.elim
  | some x =>
    rw [e] at h
    obtain ⟨o, h1, h2⟩ := s.sl i x e
    have g := Grow.refl s.fh
    cases x with
    | un => exact h.elim
    | sh d => obtain ⟨v, rfl, r⟩ := h2; exact ⟨v, h1, h v F H g r⟩
    | bo d => obtain ⟨v, rfl, r⟩ := h2; exact ⟨v, h1, h v F H g r⟩
    | ow d => obtain ⟨p, rfl, _, r⟩ := h2; exact ⟨_, h1, h _ F H g (r.rep s.fh rfl)⟩
    | dp d => obtain ⟨v, rfl, G, h3, _, r⟩ := h2; exact ⟨v, h1, h v F H g (r.mono h3)⟩
    | an d => obtain ⟨v, rfl, r⟩ := h2; exact ⟨v, h1, h v F H g r⟩
    | ex c => exact h.elim
theorem pd_var (i : Nat) {x : Str} {pos : Pos} (hN : X.N[i]? = some x := by rfl) (hv : Vis X.env.scope x := by first | exact Or.inl rfl | exact Or.inr (Or.inl rfl) | exact Or.inr (Or.inr rfl)) (hd : (x == ("__debug__" : Str)) = false := by decide)
    (hcd : (x == ("__classdict__" : Str)) = false := by decide) : PDe X T Z W (.Name x pos) (varR i) := ⟨_, pe_var hN hv hd hcd, ev_var i⟩
/-- a value that needs no heap -/
def flatD : V → Option D
  | .non => some .non
  | .bl b => some (.bl b)
  | .int i => some (.int i)
  | .str s => some (.str s)
  | _ => none
def conR (d : D) : Dl → Res := fun _ => .ok d .st
theorem ev_c {v : V} {d : D} (h : flatD v = some d) : EvS T Z W (tC v) (conR d) := by
  intro H0 A δ σ F fp H Q s q
  refine q v F H (Grow.refl s.fh) ?_
  show Rep T F v d
  cases v with
  | non => cases h; simp [Rep]
  | bl b => cases h; simp [Rep]
  | int b => cases h; simp [Rep]
  | str b => cases h; simp [Rep]
  | _ => cases h
theorem pd_int {i : Int} {j pos} : PDe X T Z W (.Constant (.int i) j pos) (conR (.int i)) := ⟨_, pe_int, ev_c rfl⟩
theorem pd_bl {b : Bool} {j pos} : PDe X T Z W (.Constant (.bool b) j pos) (conR (.bl b)) := ⟨_, pe_bl, ev_c rfl⟩
theorem pd_non {j pos} : PDe X T Z W (.Constant .none j pos) (conR .non) := ⟨_, pe_non, ev_c rfl⟩
theorem pd_str {x : Str} {j pos} : PDe X T Z W (.Constant (.str x) j pos) (conR (.str x)) := ⟨_, pe_str, ev_c rfl⟩
/-- a module's constant -/
theorem pd_glob {x : Str} {v : V} {d : D} {u : Value} {pos : Pos} (hm : X.mg x = some u) (r : RelV v u) (hd : flatD v = some d := by rfl) (hg : Gl X x := by rfl) (hdb : (x == ("__debug__" : Str)) = false := by decide) :
    PDe X T Z W (.Name x pos) (conR d) := ⟨_, pe_glob hg hm r hdb, ev_c hd⟩
end

/-! ### operators -/
abbrev Opt := Option (D × Kd)
def optR : Opt → Res
  | some (d, k) => .ok d k
  | none => .no
def PostO (T : Par) (A F H : Hp) (Q : VK) : Opt → Prop
  | some (d, k) => ∀ v F' H', Grow F H F' H' → ResR T A F' H' H k v d → Q v H'
  | none => False
def OpS (T : Par) (r : R2) (g : D → D → Opt) : Prop := ∀ A F H Q x y d e, Same A H → Same F H → Rep T H x d → Rep T H y e → PostO T A F H Q (g d e) → r x y H Q
def opR (g : D → D → Opt) (f1 f2 : Dl → Res) : Dl → Res := fun δ => bindR (f1 δ) fun d _ => bindR (f2 δ) fun e _ => optR (g d e)
section
variable {X : Cx} {T : Par} {Z : Hd} {W : WX} {a b c : Expr} {f1 f2 f3 : Dl → Res} {pos : Pos}
theorem PostO.grow {T : Par} {A F H F' H' : Hp} {Q : VK} {o : Opt} (h : PostO T A F H Q o) (g : Grow F H F' H') : PostO T A F' H' Q o := by
  cases o with
  | none => exact h
  | some p => exact fun v F2 H2 g2 r => h v F2 H2 (g.trans g2) (r.older fun a e => g.hh.free e)
theorem PostE.opt {T : Par} {A F H : Hp} {W : WX} {σ : L2.St} {Q : VK} {o : Opt} (h : PostE T A F H W σ Q (optR o)) : PostO T A F H Q o := by
  cases o with
  | none => exact h
  | some p => exact h
theorem bindR_ok {r : Res} {g : D → Kd → Res} {d : D} {k : Kd} (h : r = .ok d k) : bindR r g = g d k := by subst h; rfl
/-- two operands, then a step by values -/
theorem EvS.two {ta tb : TE} {r : R2} {g : D → D → Opt} (ea : EvS T Z W ta f1) (eb : EvS T Z W tb f2) (hr : OpS T r g) : EvS T Z W (tOp r ta tb) (opR g f1 f2) := by
  intro H0 A δ σ F fp H Q s h
  unfold opR at h
  refine ea.then_ s h _ fun d k v F1 H1 _ g1 s1 r1 h1 => ?_
  have h1' := h1.later g1
  refine eb.then_ s1 h1' _ fun e k2 u F2 H2 _ g2 s2 r2 h2 => ?_
  have q := (h2.later g2).opt
  exact hr A F2 H2 Q v u d e s2.aH s2.fh ((r1.rep s1.aH s1.fh).mono g2.hh) (r2.rep s2.aH s2.fh) q
theorem pd_op {op : Operator} {r : R2} {g : D → D → Opt} (ho : OpR X (binaryOp op) r) (hr : OpS T r g) (ha : PDe X T Z W a f1) (hb : PDe X T Z W b f2) : PDe X T Z W (.BinOp a op b pos) (opR g f1 f2) := by
  obtain ⟨ta, pa, ea⟩ := ha
  obtain ⟨tb, pb, eb⟩ := hb
  exact ⟨_, pe_op ho pa pb, ea.two eb hr⟩
theorem pd_cmp {op : CmpOp} {r : R2} {g : D → D → Opt} (ho : OpR X (compareOp op) r) (hr : OpS T r g) (ha : PDe X T Z W a f1) (hb : PDe X T Z W b f2) (hm : behindInMarks op b = false) : PDe X T Z W (.Compare a [op] [b] pos) (opR g f1 f2) := by
  obtain ⟨ta, pa, ea⟩ := ha
  obtain ⟨tb, pb, eb⟩ := hb
  exact ⟨_, pe_cmpR ho pa pb hm, ea.two eb hr⟩
/-- either of two rules -/
theorem OpR.or {f : Value → Value → Sem Value} {r1 r2 : R2} (h1 : OpR X f r1) (h2 : OpR X f r2) : OpR X f (fun x y H Q => r1 x y H Q ∨ r2 x y H Q) :=
  fun pins s σ H x y v u Q I rx ry h => h.elim (h1 pins s σ H x y v u Q I rx ry) (h2 pins s σ H x y v u Q I rx ry)
/-- scalars out -/
theorem post_st {T : Par} {A F H : Hp} {Q : VK} {v : V} {d : D} (hF : Same F H) (h : PostO T A F H Q (some (d, .st))) (hv : flatD v = some d) : Q v H := by
  refine h v F H (Grow.refl hF) ?_
  show Rep T F v d
  cases v with
  | non => cases hv; simp [Rep]
  | bl b => cases hv; simp [Rep]
  | int b => cases hv; simp [Rep]
  | str b => cases hv; simp [Rep]
  | _ => cases hv
/-- a new list out -/
theorem post_lst {T : Par} {A F H : Hp} {Q : VK} {vs : List V} {ds : List D} (hF : Same F H) (h : PostO T A F H Q (some (.lst ds, .tp))) (hr : Reps T F vs ds) : ∀ p, H p = none → Q (.ref p) (upd H p (.lst vs)) := fun p hp =>
  h _ F _ (Grow.cell hF hp) ⟨p, rfl, hF.free hp, hp, vs, upd_same, hr⟩
/-- .. of data in which nothing can be changed -/
theorem post_lstI {T : Par} {A F H : Hp} {Q : VK} {vs : List V} {ds : List D} (hF : Same F H) (h : PostO T A F H Q (some (.lst ds, .tp))) (hi : imms ds = true) (hr : Reps T H vs ds) : ∀ p, H p = none → Q (.ref p) (upd H p (.lst vs)) :=
  post_lst (F := hun F (tuF H)) (hun_in hF (tuF_same H)) (h.grow (Grow.tups hF)) ((Reps.imm hi hr).mono (hun_r hF (tuF_same H)))

def gAdd : D → D → Opt
  | .int i, .int j => some (.int (i + j), .st)
  | .str i, .str j => if i.length + j.length ≤ sizeLine then some (.str (i ++ j), .st) else none
  | .lst xs, .lst ys => if imms xs = true ∧ imms ys = true ∧ xs.length + ys.length ≤ sizeLine then some (.lst (xs ++ ys), .tp) else none
  | _, _ => none
def rStrAdd : R2 := fun x y H Q => ∃ i j, x = .str i ∧ y = .str j ∧ i.length + j.length ≤ sizeLine ∧ Q (.str (i ++ j)) H
def rAddI : R2 := rI0 fun i j => .int (i + j)
def rAddA : R2 := fun x y H Q => rAddI x y H Q ∨ (fun x y H Q => rStrAdd x y H Q ∨ rCat x y H Q) x y H Q
theorem op_addA : OpR X (binaryOp .Add) rAddA := OpR.or (r1 := rAddI) op_add (OpR.or (r1 := rStrAdd) (r2 := rCat) op_add_str op_cat)
theorem imms_append : ∀ {xs ys : List D}, imms xs = true → imms ys = true → imms (xs ++ ys) = true
  | [], _, _, h => h
  | x :: xs, ys, h1, h2 => by
    simp only [imms, Bool.and_eq_true] at h1
    simp only [List.cons_append, imms, Bool.and_eq_true]
    exact ⟨h1.1, imms_append h1.2 h2⟩
theorem os_add : OpS T rAddA gAdd := by
  intro A F H Q x y d e hA hF rx ry h
  cases d with
  | int i =>
    cases e with
    | int j =>
      rw [Rep] at rx ry
      subst rx ry
      exact .inl ⟨i, j, rfl, rfl, post_st hF h rfl⟩
    | _ => exact h.elim
  | str i =>
    cases e with
    | str j =>
      rw [Rep] at rx ry
      subst rx ry
      simp only [gAdd] at h
      split at h
      · rename_i hl
        exact .inr (.inl ⟨i, j, rfl, rfl, hl, post_st hF h rfl⟩)
      · exact h.elim
    | _ => exact h.elim
  | lst xs =>
    cases e with
    | lst ys =>
      rw [Rep] at rx ry
      obtain ⟨p, vs, rfl, h1, r1⟩ := rx
      obtain ⟨q, ws, rfl, h2, r2⟩ := ry
      simp only [gAdd] at h
      split at h
      · rename_i hl
        exact .inr (.inr ⟨p, q, vs, ws, rfl, rfl, h1, h2, by rw [r1.length, r2.length]; exact hl.2.2, post_lstI hF h (imms_append hl.1 hl.2.1) (r1.append r2)⟩)
      · exact h.elim
    | _ => exact h.elim
  | _ => exact h.elim
theorem pd_add (ha : PDe X T Z W a f1) (hb : PDe X T Z W b f2) : PDe X T Z W (.BinOp a .Add b pos) (opR gAdd f1 f2) := pd_op op_addA os_add ha hb

def gSub : D → D → Opt
  | .int i, .int j => some (.int (i - j), .st)
  | _, _ => none
theorem os_sub : OpS T (rI0 fun i j => .int (i - j)) gSub := by
  intro A F H Q x y d e hA hF rx ry h
  cases d with
  | int i =>
    cases e with
    | int j =>
      rw [Rep] at rx ry
      subst rx ry
      exact ⟨i, j, rfl, rfl, post_st hF h rfl⟩
    | _ => exact h.elim
  | _ => exact h.elim
theorem pd_sub (ha : PDe X T Z W a f1) (hb : PDe X T Z W b f2) : PDe X T Z W (.BinOp a .Sub b pos) (opR gSub f1 f2) := pd_op op_sub os_sub ha hb
/-- sealed by choice: nothing must compute it by unfolding -/
noncomputable def smallI (i : Int) : Bool := @decide (-(2 ^ 64) < i) (Classical.propDecidable _) && @decide (i < 2 ^ 64) (Classical.propDecidable _)
def gMulI : D → D → Opt
  | .int i, .int j => if (smallI i || smallI j) = true then some (.int (i * j), .st) else none
  | _, _ => none
theorem os_mul : OpS T (rI CMul fun i j => .int (i * j)) gMulI := by
  intro A F H Q x y d e hA hF rx ry h
  cases d with
  | int i =>
    cases e with
    | int j =>
      rw [Rep] at rx ry
      subst rx ry
      simp only [gMulI] at h
      split at h
      · rename_i hc
        refine ⟨i, j, rfl, rfl, ?_, post_st hF h rfl⟩
        unfold CMul
        simpa [smallI, Bool.or_eq_true, Bool.and_eq_true] using hc
      · exact h.elim
    | _ => exact h.elim
  | _ => exact h.elim
theorem pd_mul (ha : PDe X T Z W a f1) (hb : PDe X T Z W b f2) : PDe X T Z W (.BinOp a .Mult b pos) (opR gMulI f1 f2) := pd_op op_mul os_mul ha hb
def gDiv : D → D → Opt
  | .int i, .int j => if 0 < j ∧ j < 1073741824 then some (.int (i / j), .st) else none
  | _, _ => none
theorem os_div : OpS T (rI CDiv fun i j => .int (i / j)) gDiv := by
  intro A F H Q x y d e hA hF rx ry h
  cases d with
  | int i =>
    cases e with
    | int j =>
      rw [Rep] at rx ry
      subst rx ry
      simp only [gDiv] at h
      split at h
      · rename_i hc
        exact ⟨i, j, rfl, rfl, hc, post_st hF h rfl⟩
      · exact h.elim
    | _ => exact h.elim
  | _ => exact h.elim
theorem pd_div (ha : PDe X T Z W a f1) (hb : PDe X T Z W b f2) : PDe X T Z W (.BinOp a .FloorDiv b pos) (opR gDiv f1 f2) := pd_op op_fdiv os_div ha hb
def gMod : D → D → Opt
  | .int i, .int j => if 0 < j then some (.int (i % j), .st) else none
  | _, _ => none
theorem os_mod : OpS T (rI (fun _ j => 0 < j) fun i j => .int (i % j)) gMod := by
  intro A F H Q x y d e hA hF rx ry h
  cases d with
  | int i =>
    cases e with
    | int j =>
      rw [Rep] at rx ry
      subst rx ry
      simp only [gMod] at h
      split at h
      · rename_i hc
        exact ⟨i, j, rfl, rfl, hc, post_st hF h rfl⟩
      · exact h.elim
    | _ => exact h.elim
  | _ => exact h.elim
theorem pd_mod (ha : PDe X T Z W a f1) (hb : PDe X T Z W b f2) : PDe X T Z W (.BinOp a .Mod b pos) (opR gMod f1 f2) := pd_op op_mod os_mod ha hb

/-! comparisons of whole numbers -/
def gLt : D → D → Opt
  | .int i, .int j => some (.bl (decide (i < j)), .st)
  | _, _ => none
def gLe : D → D → Opt
  | .int i, .int j => some (.bl (decide (i ≤ j)), .st)
  | _, _ => none
def gGt : D → D → Opt
  | .int i, .int j => some (.bl (decide (j < i)), .st)
  | _, _ => none
def gGe : D → D → Opt
  | .int i, .int j => some (.bl (decide (j ≤ i)), .st)
  | _, _ => none
theorem os_ii {p : Int → Int → Bool} {g : D → D → Opt} (hg : ∀ i j, g (.int i) (.int j) = some (.bl (p i j), .st)) (hn : ∀ d e, g d e ≠ none → (∃ i, d = .int i) ∧ ∃ j, e = .int j) : OpS T (rI0 fun i j => .bl (p i j)) g := by
  intro A F H Q x y d e hA hF rx ry h
  have z : g d e ≠ none := by intro q; rw [q] at h; exact h
  obtain ⟨⟨i, rfl⟩, j, rfl⟩ := hn d e z
  rw [hg] at h
  rw [Rep] at rx ry
  subst rx ry
  exact ⟨i, j, rfl, rfl, post_st hF h rfl⟩
theorem os_lt : OpS T (rI0 fun i j => .bl (decide (i < j))) gLt := os_ii (fun _ _ => rfl) fun d e h => by
  cases d with
  | int i => cases e with
    | int j => exact ⟨⟨i, rfl⟩, j, rfl⟩
    | _ => exact absurd rfl h
  | _ => exact absurd rfl h
theorem os_le : OpS T (rI0 fun i j => .bl (decide (i ≤ j))) gLe := os_ii (fun _ _ => rfl) fun d e h => by
  cases d with
  | int i => cases e with
    | int j => exact ⟨⟨i, rfl⟩, j, rfl⟩
    | _ => exact absurd rfl h
  | _ => exact absurd rfl h
theorem os_gt : OpS T (rI0 fun i j => .bl (decide (j < i))) gGt := os_ii (fun _ _ => rfl) fun d e h => by
  cases d with
  | int i => cases e with
    | int j => exact ⟨⟨i, rfl⟩, j, rfl⟩
    | _ => exact absurd rfl h
  | _ => exact absurd rfl h
theorem os_ge : OpS T (rI0 fun i j => .bl (decide (j ≤ i))) gGe := os_ii (fun _ _ => rfl) fun d e h => by
  cases d with
  | int i => cases e with
    | int j => exact ⟨⟨i, rfl⟩, j, rfl⟩
    | _ => exact absurd rfl h
  | _ => exact absurd rfl h
theorem pd_lt (ha : PDe X T Z W a f1) (hb : PDe X T Z W b f2) : PDe X T Z W (.Compare a [.Lt] [b] pos) (opR gLt f1 f2) := pd_cmp op_lt os_lt ha hb (nobehind _ (by decide) (by decide))
theorem pd_le (ha : PDe X T Z W a f1) (hb : PDe X T Z W b f2) : PDe X T Z W (.Compare a [.LtE] [b] pos) (opR gLe f1 f2) := pd_cmp op_le os_le ha hb (nobehind _ (by decide) (by decide))
theorem pd_gt (ha : PDe X T Z W a f1) (hb : PDe X T Z W b f2) : PDe X T Z W (.Compare a [.Gt] [b] pos) (opR gGt f1 f2) := pd_cmp op_gt os_gt ha hb (nobehind _ (by decide) (by decide))
theorem pd_ge (ha : PDe X T Z W a f1) (hb : PDe X T Z W b f2) : PDe X T Z W (.Compare a [.GtE] [b] pos) (opR gGe f1 f2) := pd_cmp op_ge os_ge ha hb (nobehind _ (by decide) (by decide))

/-! == and != -/
mutual
/-- data as the library's own -/
def py : D → Option PyData
  | .non => some .none
  | .bl b => some (.bool b)
  | .int i => some (.int i)
  | .str s => some (.str s)
  | .lst ds => (pys ds).map .list
  | .tup ds => (pys ds).map .tuple
  | .dt _ => none
  | .dk _ => none
  | .scr _ => none
  | .tar _ => none
def pys : List D → Option (List PyData)
  | [] => some []
  | d :: ds => match py d, pys ds with
    | some x, some xs => some (x :: xs)
    | _, _ => none
end
mutual
theorem py_dp {T : Par} {H : Hp} : ∀ {v : V} {d : D} {x : PyData}, Rep T H v d → py d = some x → Dp T.K H v x
  | v, .non, x, h, e => by
    rw [Rep] at h; simp only [py, Option.some.injEq] at e; subst h e; exact .non
  | v, .bl b, x, h, e => by
    rw [Rep] at h; simp only [py, Option.some.injEq] at e; subst h e; exact .bl b
  | v, .int b, x, h, e => by
    rw [Rep] at h; simp only [py, Option.some.injEq] at e; subst h e; exact .int b
  | v, .str b, x, h, e => by
    rw [Rep] at h; simp only [py, Option.some.injEq] at e; subst h e; exact .str b
  | v, .lst ds, x, h, e => by
    rw [Rep] at h
    obtain ⟨p, vs, rfl, h1, h2⟩ := h
    simp only [py, Option.map_eq_some_iff] at e
    obtain ⟨xs, e1, rfl⟩ := e
    exact .lst (SqL.of h1) (pys_dp h2 e1)
  | v, .tup ds, x, h, e => by
    rw [Rep] at h
    obtain ⟨p, vs, rfl, h1, h2⟩ := h
    simp only [py, Option.map_eq_some_iff] at e
    obtain ⟨xs, e1, rfl⟩ := e
    exact .tup (SqT.of h1) (pys_dp h2 e1)
  | v, .dt _, x, h, e => by simp [py] at e
  | v, .dk _, x, h, e => by simp [py] at e
  | v, .scr _, x, h, e => by simp [py] at e
  | v, .tar _, x, h, e => by simp [py] at e
theorem pys_dp {T : Par} {H : Hp} : ∀ {vs : List V} {ds : List D} {xs : List PyData}, Reps T H vs ds → pys ds = some xs → DpAll T.K H vs xs
  | [], [], xs, _, e => by
    simp only [pys, Option.some.injEq] at e; subst e; exact .nil
  | v :: vs, d :: ds, xs, h, e => by
    rw [Reps] at h
    rw [pys] at e
    cases e1 : py d with
    | none => rw [e1] at e; cases e
    | some x =>
      cases e2 : pys ds with
      | none => rw [e1, e2] at e; cases e
      | some ys =>
        rw [e1, e2] at e
        simp only [Option.some.injEq] at e
        subst e
        exact .cons (py_dp h.1 e1) (pys_dp h.2 e2)
  | [], _ :: _, _, h, _ => by simp [Reps] at h
  | _ :: _, [], _, h, _ => by simp [Reps] at h
end
def flatV? : D → Option V
  | .non => some .non
  | .bl b => some (.bl b)
  | .int i => some (.int i)
  | .str s => some (.str s)
  | _ => none
theorem flatV?_rep {T : Par} {H : Hp} {v w : V} {d : D} (h : Rep T H v d) (e : flatV? d = some w) : v = w := by
  cases d with
  | non => cases e; rw [Rep] at h; exact h
  | bl b => cases e; rw [Rep] at h; exact h
  | int b => cases e; rw [Rep] at h; exact h
  | str b => cases e; rw [Rep] at h; exact h
  | _ => cases e
/-- equal, where this can be told -/
def eqB (d e : D) : Option Bool := match flatV? d, flatV? e with
  | some v, some w => if scal v w = true then some (decide (v = w)) else none
  | _, _ => match py d, py e with
    | some x, some y => if SeqAt.shaped x = true ∧ SeqAt.shaped y = true then some (PyData.eqv x y) else none
    | _, _ => none
def gEq (d e : D) : Opt := (eqB d e).map fun b => (.bl b, .st)
def gNe (d e : D) : Opt := (eqB d e).map fun b => (.bl (!b), .st)
def rEqA (K : PySem.W.Frag) : R2 := fun x y H Q => rEq x y H Q ∨ rEqD K x y H Q
def rNeA (K : PySem.W.Frag) : R2 := fun x y H Q => rNe x y H Q ∨ rNeD K x y H Q
theorem eqB_rule {T : Par} {H : Hp} {x y : V} {d e : D} {b : Bool} (rx : Rep T H x d) (ry : Rep T H y e) (h : eqB d e = some b) :
    (scal x y = true ∧ decide (x = y) = b) ∨ ∃ z w, Dp T.K H x z ∧ Dp T.K H y w ∧ SeqAt.shaped z = true ∧ SeqAt.shaped w = true ∧ PyData.eqv z w = b := by
  unfold eqB at h
  split at h
  · rename_i v w h1 h2
    rw [flatV?_rep rx h1, flatV?_rep ry h2]
    split at h
    · rename_i hs
      exact .inl ⟨hs, Option.some.inj h⟩
    · cases h
  · split at h
    · rename_i z w h1 h2
      split at h
      · rename_i hs
        exact .inr ⟨z, w, py_dp rx h1, py_dp ry h2, hs.1, hs.2, Option.some.inj h⟩
      · cases h
    · cases h
theorem os_eq : OpS T (rEqA T.K) gEq := by
  intro A F H Q x y d e hA hF rx ry h
  unfold gEq at h
  cases hb : eqB d e with
  | none => rw [hb] at h; exact h.elim
  | some b =>
    rw [hb] at h
    have q : Q (.bl b) H := post_st hF h rfl
    rcases eqB_rule rx ry hb with ⟨h1, h2⟩ | ⟨z, w, h1, h2, h3, h4, h5⟩
    · exact .inl ⟨h1, by rw [h2]; exact q⟩
    · exact .inr ⟨z, w, h1, h2, h3, h4, by rw [h5]; exact q⟩
theorem os_ne : OpS T (rNeA T.K) gNe := by
  intro A F H Q x y d e hA hF rx ry h
  unfold gNe at h
  cases hb : eqB d e with
  | none => rw [hb] at h; exact h.elim
  | some b =>
    rw [hb] at h
    have q : Q (.bl (!b)) H := post_st hF h rfl
    rcases eqB_rule rx ry hb with ⟨h1, h2⟩ | ⟨z, w, h1, h2, h3, h4, h5⟩
    · exact .inl ⟨h1, by rw [h2]; exact q⟩
    · exact .inr ⟨z, w, h1, h2, h3, h4, by rw [h5]; exact q⟩
theorem pd_eq (hu : X.A.units + 64 < cLine) (ha : PDe X T Z W a f1) (hb : PDe X T Z W b f2) (hK : X.K = T.K := by rfl) : PDe X T Z W (.Compare a [.Eq] [b] pos) (opR gEq f1 f2) := by
  refine pd_cmp (r := rEqA T.K) ?_ os_eq ha hb (nobehind _ (by decide) (by decide))
  rw [← hK]
  exact OpR.or op_eq (op_eqD hu)
theorem pd_ne (hu : X.A.units + 64 < cLine) (ha : PDe X T Z W a f1) (hb : PDe X T Z W b f2) (hK : X.K = T.K := by rfl) : PDe X T Z W (.Compare a [.NotEq] [b] pos) (opR gNe f1 f2) := by
  refine pd_cmp (r := rNeA T.K) ?_ os_ne ha hb (nobehind _ (by decide) (by decide))
  rw [← hK]
  exact OpR.or op_ne (op_neD hu)

/-! is None -/
def isNon : D → Bool
  | .non => true
  | _ => false
theorem isNon_rep {T : Par} {H : Hp} {v : V} {d : D} (h : Rep T H v d) : decide (v = .non) = isNon d := by
  cases d with
  | non => rw [Rep] at h; subst h; rfl
  | bl b => rw [Rep] at h; subst h; rfl
  | int b => rw [Rep] at h; subst h; rfl
  | str b => rw [Rep] at h; subst h; rfl
  | lst ds => rw [Rep] at h; obtain ⟨p, vs, rfl, _⟩ := h; rfl
  | tup ds => rw [Rep] at h; obtain ⟨p, vs, rfl, _⟩ := h; rfl
  | dt ds => rw [Rep] at h; obtain ⟨p, rfl, _⟩ := h; rfl
  | dk ds => rw [Rep] at h; obtain ⟨p, rfl, _⟩ := h; rfl
  | scr ds => rw [Rep] at h; obtain ⟨p, rfl, _⟩ := h; rfl
  | tar ds => rw [Rep] at h; obtain ⟨p, _, _, _, _, rfl, _⟩ := h; rfl
def gIsN (d : D) : Opt := some (.bl (isNon d), .st)
def gNotN (d : D) : Opt := some (.bl (!isNon d), .st)
def unR (g : D → Opt) (f : Dl → Res) : Dl → Res := fun δ => bindR (f δ) fun d _ => optR (g d)
/-- one operand, then a step by its value -/
theorem EvS.one {ta : TE} {t : TE} {g : D → Opt} (ea : EvS T Z W ta f1)
    (ht : ∀ σ H (Q R : VK), ta σ H R → (∀ v H', R v H' → ∃ A F d, Same A H' ∧ Same F H' ∧ Rep T H' v d ∧ PostO T A F H' Q (g d)) → t σ H Q) : EvS T Z W t (unR g f1) := by
  intro H0 A δ σ F fp H Q s h
  unfold unR at h
  refine ht σ H Q (fun v H' => ∃ A F d, Same A H' ∧ Same F H' ∧ Rep T H' v d ∧ PostO T A F H' Q (g d)) ?_ fun _ _ z => z
  exact ea.then_ s h _ fun d k v F1 H1 _ g1 s1 r1 h1 => ⟨A, F1, d, s1.aH, s1.fh, r1.rep s1.aH s1.fh, (h1.later g1).opt⟩
end
end
end DD

set_option maxRecDepth 100000
namespace DD
noncomputable section
open PySem L2

/-! ### one operand -/
def Op1S (T : Par) (r : V → Hp → VK → Prop) (g : D → Opt) : Prop := ∀ A F H Q x d, Same A H → Same F H → Rep T H x d → PostO T A F H Q (g d) → r x H Q
section
variable {X : Cx} {T : Par} {Z : Hd} {W : WX} {a b c : Expr} {f1 f2 f3 : Dl → Res} {pos : Pos}
theorem EvS.un {ta : TE} {r : V → Hp → VK → Prop} {g : D → Opt} (ea : EvS T Z W ta f1) (hr : Op1S T r g) : EvS T Z W (fun σ H Q => ta σ H fun x H1 => r x H1 Q) (unR g f1) := by
  intro H0 A δ σ F fp H Q s h
  exact ea.then_ s h _ fun d k v F1 H1 _ g1 s1 r1 h1 => hr A F1 H1 Q v d s1.aH s1.fh (r1.rep s1.aH s1.fh) (h1.later g1).opt
theorem pd_isN {j pos'} (ha : PDe X T Z W a f1) : PDe X T Z W (.Compare a [.Is] [.Constant .none j pos'] pos) (unR gIsN f1) := by
  obtain ⟨ta, pa, ea⟩ := ha
  refine ⟨_, pe_cmp (pc_isN pa), ea.un (r := fun x H Q => Q (.bl (decide (x = .non))) H) fun A F H Q x d hA hF rx h => ?_⟩
  show Q (.bl (decide (x = .non))) H
  rw [isNon_rep rx]
  exact post_st hF h rfl
theorem pd_notN {j pos'} (ha : PDe X T Z W a f1) : PDe X T Z W (.Compare a [.IsNot] [.Constant .none j pos'] pos) (unR gNotN f1) := by
  obtain ⟨ta, pa, ea⟩ := ha
  refine ⟨_, pe_cmp (pc_notN pa), ea.un (r := fun x H Q => Q (.bl (!decide (x = .non))) H) fun A F H Q x d hA hF rx h => ?_⟩
  show Q (.bl (!decide (x = .non))) H
  rw [isNon_rep rx]
  exact post_st hF h rfl
def gNeg : D → Opt
  | .int i => some (.int (-i), .st)
  | _ => none
theorem pd_neg (ha : PDe X T Z W a f1) : PDe X T Z W (.UnaryOp .USub a pos) (unR gNeg f1) := by
  obtain ⟨ta, pa, ea⟩ := ha
  refine ⟨_, pe_un un_neg pa, ea.un fun A F H Q x d hA hF rx h => ?_⟩
  cases d with
  | int i => rw [Rep] at rx; subst rx; exact ⟨i, rfl, post_st hF h rfl⟩
  | _ => exact h.elim
def gNot : D → Opt
  | .bl b => some (.bl (!b), .st)
  | _ => none
theorem pd_not (ha : PDe X T Z W a f1) : PDe X T Z W (.UnaryOp .Not a pos) (unR gNot f1) := by
  obtain ⟨ta, pa, ea⟩ := ha
  refine ⟨_, pe_not pa, ea.un (r := fun x H1 Q => ∃ c, x = .bl c ∧ Q (.bl (!c)) H1) fun A F H Q x d hA hF rx h => ?_⟩
  cases d with
  | bl i => rw [Rep] at rx; subst rx; exact ⟨i, rfl, post_st hF h rfl⟩
  | _ => exact h.elim

/-! ### and, or of bools, as values -/
def andR (f1 f2 : Dl → Res) : Dl → Res := fun δ => bindR (f1 δ) fun d _ => match d with
  | .bl true => f2 δ
  | .bl false => .ok (.bl false) .st
  | _ => .no
def orR (f1 f2 : Dl → Res) : Dl → Res := fun δ => bindR (f1 δ) fun d _ => match d with
  | .bl false => f2 δ
  | .bl true => .ok (.bl true) .st
  | _ => .no
variable {rest : List Expr}
theorem pd_one {op} (h : PDe X T Z W a f1) : PDe X T Z W (.BoolOp op [a] pos) f1 := by
  obtain ⟨ta, pa, ea⟩ := h
  exact ⟨_, pe_one pa, ea⟩
theorem pd_and (ha : PDe X T Z W a f1) (hb : PDe X T Z W (.BoolOp .And (b :: rest) pos) f2) : PDe X T Z W (.BoolOp .And (a :: b :: rest) pos) (andR f1 f2) := by
  obtain ⟨ta, pa, ea⟩ := ha
  obtain ⟨tb, pb, eb⟩ := hb
  refine ⟨_, pe_and pa pb, ?_⟩
  intro H0 A δ σ F fp H Q s h
  unfold andR at h
  refine ea.then_ s h _ fun d k v F1 H1 _ g1 s1 r1 h1 => ?_
  have h2 := h1.later g1
  cases d with
  | bl c =>
    have rv := r1.rep s1.aH s1.fh
    rw [Rep] at rv
    subst rv
    refine ⟨c, rfl, ?_⟩
    cases c with
    | true => exact eb H0 A δ σ F1 fp H1 Q s1 h2
    | false => exact post_st (d := .bl false) s1.fh (h2 : PostO T A F1 H1 Q (some (.bl false, .st))) rfl
  | _ => exact h2.elim
theorem pd_or (ha : PDe X T Z W a f1) (hb : PDe X T Z W (.BoolOp .Or (b :: rest) pos) f2) : PDe X T Z W (.BoolOp .Or (a :: b :: rest) pos) (orR f1 f2) := by
  obtain ⟨ta, pa, ea⟩ := ha
  obtain ⟨tb, pb, eb⟩ := hb
  refine ⟨_, pe_or pa pb, ?_⟩
  intro H0 A δ σ F fp H Q s h
  unfold orR at h
  refine ea.then_ s h _ fun d k v F1 H1 _ g1 s1 r1 h1 => ?_
  have h2 := h1.later g1
  cases d with
  | bl c =>
    have rv := r1.rep s1.aH s1.fh
    rw [Rep] at rv
    subst rv
    refine ⟨c, rfl, ?_⟩
    cases c with
    | false => exact eb H0 A δ σ F1 fp H1 Q s1 h2
    | true => exact post_st (d := .bl true) s1.fh (h2 : PostO T A F1 H1 Q (some (.bl true, .st))) rfl
  | _ => exact h2.elim

/-! ### tests -/
def tstR (f : Dl → Res) : Dl → ResB := fun δ => match f δ with
  | .ok (.bl b) _ => .ok b
  | .er c => .er c
  | _ => .no
theorem PostB.later {T : Par} {F H F1 H1 : Hp} {σ : L2.St} {Q : Bool → Hp → Prop} {r : ResB} (h : PostB T F H W σ Q r) (g : Grow F H F1 H1) : PostB T F1 H1 W σ Q r := by
  cases r with
  | ok b => exact fun F' H' g' => h F' H' (g.trans g')
  | er c => exact fun F' H' g' => h F' H' (g.trans g')
  | no => exact h
theorem pt_v (h : PDe X T Z W a f1) (he : ∀ whole, isTrue a X.env whole = (do let v ← whole; standAt a.pos; holding [v] (truthy v)) := by intro _; rfl) : PDt X T Z W a (tstR f1) := by
  obtain ⟨ta, pa, ea⟩ := h
  refine ⟨_, pt_val pa he, ?_⟩
  intro H0 A δ σ F fp H Q s h
  refine ea H0 A δ σ F fp H _ s ?_
  unfold tstR at h
  cases hf : f1 δ with
  | ok d k =>
    rw [hf] at h
    cases d with
    | bl c =>
      intro v F' H' g r
      have s1 := s.grow g
      have rv := r.rep s1.aH s1.fh
      rw [Rep] at rv
      exact ⟨c, rv, h F' H' g⟩
    | _ => exact h.elim
  | er c => rw [hf] at h; exact h
  | no => rw [hf] at h; exact h.elim
def bandR (f1 f2 : Dl → ResB) : Dl → ResB := fun δ => match f1 δ with
  | .ok true => f2 δ
  | r => r
def borR (f1 f2 : Dl → ResB) : Dl → ResB := fun δ => match f1 δ with
  | .ok false => f2 δ
  | r => r
def bnotR (f1 : Dl → ResB) : Dl → ResB := fun δ => match f1 δ with
  | .ok b => .ok (!b)
  | r => r
variable {p1 p2 : Dl → ResB}
/-- and, or: whatever the whole is -/
def PDw (X : Cx) (T : Par) (Z : Hd) (W : WX) (e : Expr) (f : Dl → ResB) : Prop := ∃ t, PW X e t ∧ EvB T Z W t f
theorem pt_w (h : PDw X T Z W a p1) : PDt X T Z W a p1 := by
  obtain ⟨t, p, e⟩ := h
  exact ⟨t, p.pt, e⟩
theorem wd_and1 (ha : PDt X T Z W a p1) : PDw X T Z W (.BoolOp .And [a] pos) p1 := by
  obtain ⟨t, p, e⟩ := ha
  exact ⟨t, pw_and1 p, e⟩
theorem wd_or1 (ha : PDt X T Z W a p1) : PDw X T Z W (.BoolOp .Or [a] pos) p1 := by
  obtain ⟨t, p, e⟩ := ha
  exact ⟨t, pw_or1 p, e⟩
theorem wd_and (ha : PDt X T Z W a p1) (hb : PDw X T Z W (.BoolOp .And (b :: rest) pos) p2) : PDw X T Z W (.BoolOp .And (a :: b :: rest) pos) (bandR p1 p2) := by
  obtain ⟨ta, pa, ea⟩ := ha
  obtain ⟨tb, pb, eb⟩ := hb
  refine ⟨_, pw_and pa pb, ?_⟩
  intro H0 A δ σ F fp H Q s h
  refine ea H0 A δ σ F fp H _ s ?_
  unfold bandR at h
  cases hf : p1 δ with
  | ok c =>
    rw [hf] at h
    intro F' H' g
    cases c with
    | true => exact iteT (eb H0 A δ σ F' fp H' Q (s.grow g) (h.later g))
    | false => exact iteF (h F' H' g)
  | er c => rw [hf] at h; exact h
  | no => rw [hf] at h; exact h.elim
theorem wd_or (ha : PDt X T Z W a p1) (hb : PDw X T Z W (.BoolOp .Or (b :: rest) pos) p2) : PDw X T Z W (.BoolOp .Or (a :: b :: rest) pos) (borR p1 p2) := by
  obtain ⟨ta, pa, ea⟩ := ha
  obtain ⟨tb, pb, eb⟩ := hb
  refine ⟨_, pw_or pa pb, ?_⟩
  intro H0 A δ σ F fp H Q s h
  refine ea H0 A δ σ F fp H _ s ?_
  unfold borR at h
  cases hf : p1 δ with
  | ok c =>
    rw [hf] at h
    intro F' H' g
    cases c with
    | false => exact iteF (eb H0 A δ σ F' fp H' Q (s.grow g) (h.later g))
    | true => exact iteT (h F' H' g)
  | er c => rw [hf] at h; exact h
  | no => rw [hf] at h; exact h.elim
theorem td_not (ha : PDt X T Z W a p1) : PDt X T Z W (.UnaryOp .Not a pos) (bnotR p1) := by
  obtain ⟨ta, pa, ea⟩ := ha
  refine ⟨_, pt_not pa, ?_⟩
  intro H0 A δ σ F fp H Q s h
  refine ea H0 A δ σ F fp H _ s ?_
  unfold bnotR at h
  cases hf : p1 δ with
  | ok c => rw [hf] at h; exact h
  | er c => rw [hf] at h; exact h
  | no => rw [hf] at h; exact h.elim
def ifR (p : Dl → ResB) (f g : Dl → Res) : Dl → Res := fun δ => match p δ with
  | .ok true => f δ
  | .ok false => g δ
  | .er c => .er c
  | .no => .no
theorem pd_ifExp (hc : PDt X T Z W c p1) (ha : PDe X T Z W a f1) (hb : PDe X T Z W b f2) : PDe X T Z W (.IfExp c a b pos) (ifR p1 f1 f2) := by
  obtain ⟨tc, pc, ec⟩ := hc
  obtain ⟨ta, pa, ea⟩ := ha
  obtain ⟨tb, pb, eb⟩ := hb
  refine ⟨_, pe_ifExp pc pa pb, ?_⟩
  intro H0 A δ σ F fp H Q s h
  refine ec H0 A δ σ F fp H _ s ?_
  unfold ifR at h
  cases hf : p1 δ with
  | ok c =>
    rw [hf] at h
    intro F' H' g
    cases c with
    | false => exact iteF (eb H0 A δ σ F' fp H' Q (s.grow g) (h.later g))
    | true => exact iteT (ea H0 A δ σ F' fp H' Q (s.grow g) (h.later g))
  | er c => rw [hf] at h; exact h
  | no => rw [hf] at h; exact h.elim
/-- a < b < c -/
def chR (g g' : D → D → Opt) (f1 f2 f3 : Dl → Res) : Dl → Res := fun δ => bindR (f1 δ) fun d _ => bindR (f2 δ) fun e _ => match g d e with
  | some (.bl true, .st) => bindR (f3 δ) fun u _ => optR (g' e u)
  | some (.bl false, .st) => .ok (.bl false) .st
  | _ => .no
theorem pd_chain {op op' : CmpOp} {r r' : R2} {g g' : D → D → Opt} (ho : OpR X (compareOp op) r) (hr : OpS T r g) (ho' : OpR X (compareOp op') r') (hr' : OpS T r' g') (ha : PDe X T Z W a f1) (hb : PDe X T Z W b f2) (hc : PDe X T Z W c f3)
    (hm : lastMarks [op, op'] [b, c] = false := by with_unfolding_all rfl) : PDe X T Z W (.Compare a [op, op'] [b, c] pos) (chR g g' f1 f2 f3) := by
  obtain ⟨ta, pa, ea⟩ := ha
  obtain ⟨tb, pb, eb⟩ := hb
  obtain ⟨tc, pc, ec⟩ := hc
  refine ⟨_, pe_chain ho ho' pa pb pc hm, ?_⟩
  intro H0 A δ σ F fp H Q s h
  unfold chR at h
  refine ea.then_ s h _ fun d k v F1 H1 _ g1 s1 r1 h1 => ?_
  have h1' := h1.later g1
  refine eb.then_ s1 h1' _ fun e k2 u F2 H2 _ g2 s2 r2 h2 => ?_
  have q := h2.later g2
  have rv := (r1.rep s1.aH s1.fh).mono g2.hh
  have ru := r2.rep s2.aH s2.fh
  refine hr A F2 H2 _ v u d e s2.aH s2.fh rv ru ?_
  split at q
  · rename_i hg
    rw [hg]
    intro z F3 H3 g3 r3
    have rz : Rep T F3 z (.bl true) := r3
    rw [Rep] at rz
    refine ⟨true, rz, iteT ?_⟩
    have s3 := s2.grow g3
    refine ec.then_ s3 (q.later g3) _ fun e3 k3 w F4 H4 _ g4 s4 r4 h4 => ?_
    exact hr' A F4 H4 Q u w e e3 s4.aH s4.fh ((ru.mono g3.hh).mono g4.hh) (r4.rep s4.aH s4.fh) (h4.later g4).opt
  · rename_i hg
    rw [hg]
    intro z F3 H3 g3 r3
    have rz : Rep T F3 z (.bl false) := r3
    rw [Rep] at rz
    refine ⟨false, rz, iteF ?_⟩
    exact post_st (d := .bl false) g3.fh ((q.later g3 : PostE T A F3 H3 W σ Q (optR (some (.bl false, .st)))).opt) rfl
  · exact q.elim
theorem td_lele (hm : lastMarks [CmpOp.LtE, CmpOp.LtE] [b, c] = false) (ha : PDe X T Z W a f1) (hb : PDe X T Z W b f2) (hc : PDe X T Z W c f3) : PDe X T Z W (.Compare a [.LtE, .LtE] [b, c] pos) (chR gLe gLe f1 f2 f3) :=
  pd_chain op_le os_le op_le os_le ha hb hc hm

/-! ### argument lists -/
def nilR : Dl → ResA := fun _ => .ok [] true
def consR (f : Dl → Res) (g : Dl → ResA) : Dl → ResA := fun δ => match f δ with
  | .ok d k => (match g δ with
    | .ok ds st => .ok (d :: ds) (stK d k && st)
    | .er c => .er c
    | .no => .no)
  | .er c => .er c
  | .no => .no
variable {e : Expr} {es : List Expr} {fa : Dl → ResA}
theorem PostA.later {T : Par} {F H F1 H1 : Hp} {σ : L2.St} {Q : List V → Hp → Prop} {r : ResA} (h : PostA T F H W σ Q r) (g : Grow F H F1 H1) : PostA T F1 H1 W σ Q r := by
  cases r with
  | ok ds st => exact fun vs F' H' g' => h vs F' H' (g.trans g')
  | er c => exact fun F' H' g' => h F' H' (g.trans g')
  | no => exact h
theorem ad_nil : PDa X T Z W [] nilR := ⟨_, pa_nil, fun H0 A δ σ F fp H Q s h => h [] F H (Grow.refl s.fh) (by simp [Reps])⟩
theorem ad_cons (ha : PDe X T Z W e f1) (hr : PDa X T Z W es fa) (hs : starEach (e :: es) X.env = (false, eval e X.env) :: starEach es X.env := by rfl) : PDa X T Z W (e :: es) (consR f1 fa) := by
  obtain ⟨ta, pa, ea⟩ := ha
  obtain ⟨tr, pr, er⟩ := hr
  refine ⟨_, pa_cons pa pr hs, ?_⟩
  intro H0 A δ σ F fp H Q s h
  refine ea H0 A δ σ F fp H _ s ?_
  unfold consR at h
  cases hf : f1 δ with
  | no => rw [hf] at h; exact h.elim
  | er c => rw [hf] at h; exact h
  | ok d k =>
    rw [hf] at h
    intro v F1 H1 g1 r1
    have s1 := s.grow g1
    -- share it, where that can be
    have key : ∀ F1', Same F1 F1' → Same F1' H1 → (∀ a o, F1' a = some o → F1 a = some o ∨ H a = none ∨ isTup o) → (stK d k = true → Rep T F1' v d) → tr σ H1 fun xs H2 => Q (v :: xs) H2 := by
      intro F1' e1 e2 e3 r1'
      have g1' : Grow F H F1' H1 := ⟨g1.ff.trans e1, g1.hh, e2, fun a o q => by
        rcases e3 a o q with z | z | z
        · exact g1.nw a o z
        · exact .inr (.inl z)
        · exact .inr (.inr z)⟩
      refine er H0 A δ σ F1' fp H1 _ (s.grow g1') ?_
      cases hg : fa δ with
      | no => rw [hg] at h; exact h.elim
      | er c => rw [hg] at h; exact fun F' H' g' => h F' H' (g1'.trans g')
      | ok ds st =>
        rw [hg] at h
        intro vs F' H' g' rs
        refine h (v :: vs) F' H' (g1'.trans g') ?_
        by_cases hst : (stK d k && st) = true
        · rw [if_pos hst]
          rw [Bool.and_eq_true] at hst
          rw [if_pos hst.2] at rs
          rw [Reps]
          exact ⟨(r1' hst.1).mono g'.ff, rs⟩
        · rw [if_neg hst]
          rw [Reps]
          refine ⟨(r1.rep s1.aH s1.fh).mono g'.hh, ?_⟩
          by_cases h2 : st = true
          · rw [if_pos h2] at rs; exact rs.mono g'.fh
          · rw [if_neg h2] at rs; exact rs
    by_cases hk : stK d k = true
    · obtain ⟨F1', e1, e2, e3, r1'⟩ := r1.share s1.aH s1.fh hk
      exact key F1' e1 e2 e3 fun _ => r1'
    · exact key F1 (Same.refl _) s1.fh (fun a o q => .inl q) fun z => absurd z hk

/-! ### displays -/
def lstR (fa : Dl → ResA) : Dl → Res := fun δ => match fa δ with
  | .ok ds st => if st = true ∧ ds.length ≤ sizeLine then .ok (.lst ds) .tp else .no
  | .er c => .er c
  | .no => .no
def tupR (fa : Dl → ResA) : Dl → Res := fun δ => match fa δ with
  | .ok ds st => if st = true ∧ ds.length ≤ sizeLine then .ok (.tup ds) .st else .no
  | .er c => .er c
  | .no => .no
theorem pd_lst (h : PDa X T Z W es fa) : PDe X T Z W (.List es pos) (lstR fa) := by
  obtain ⟨t, p, ev⟩ := h
  refine ⟨_, pe_lst p, ?_⟩
  intro H0 A δ σ F fp H Q s h
  refine ev H0 A δ σ F fp H _ s ?_
  unfold lstR at h
  cases hf : fa δ with
  | no => rw [hf] at h; exact h.elim
  | er c => rw [hf] at h; exact h
  | ok ds st =>
    rw [hf] at h
    intro vs F' H' g rs
    simp only at h
    split at h
    · rename_i hc
      rw [if_pos hc.1] at rs
      exact ⟨by rw [rs.length]; exact hc.2, fun p hp => h _ F' _ (g.trans (Grow.cell g.fh hp)) ⟨p, rfl, g.fh.free hp, g.hh.free hp, vs, upd_same, rs⟩⟩
    · exact h.elim
theorem pd_tup {x1} (h : PDa X T Z W es fa) : PDe X T Z W (.Tuple es x1 pos) (tupR fa) := by
  obtain ⟨t, p, ev⟩ := h
  refine ⟨_, pe_tup p, ?_⟩
  intro H0 A δ σ F fp H Q s h
  refine ev H0 A δ σ F fp H _ s ?_
  unfold tupR at h
  cases hf : fa δ with
  | no => rw [hf] at h; exact h.elim
  | er c => rw [hf] at h; exact h
  | ok ds st =>
    rw [hf] at h
    intro vs F' H' g rs
    simp only at h
    split at h
    · rename_i hc
      rw [if_pos hc.1] at rs
      refine ⟨by rw [rs.length]; exact hc.2, fun p hp => h _ _ _ (g.trans (Grow.cellF g.fh hp)) ?_⟩
      show Rep T (upd F' p (.tup vs)) (.ref p) (.tup ds)
      rw [Rep]
      exact ⟨p, vs, rfl, upd_same, rs.mono (upd_sameN (g.fh.free hp))⟩
    · exact h.elim
def gDnew : Dl → Res := fun _ => .ok (.dt []) .tp
theorem pd_dnewT : PDe X T Z W (.Dict [] [] pos) gDnew := by
  refine ⟨_, pe_dnewT, ?_⟩
  intro H0 A δ σ F fp H Q s h
  intro p hp
  exact h _ F _ (Grow.cell s.fh hp) ⟨p, rfl, s.fh.free hp, hp, upd_same⟩

/-! ### calls of built-ins -/
def CallS (T : Par) (r : List V → Hp → VK → Prop) (g : List D → Opt) : Prop := ∀ A F H Q vs ds, Same A H → Same F H → Reps T H vs ds → PostO T A F H Q (g ds) → r vs H Q
def cbR (g : List D → Opt) (fa : Dl → ResA) : Dl → Res := fun δ => match fa δ with
  | .ok ds _ => optR (g ds)
  | .er c => .er c
  | .no => .no
theorem EvA.call {t : TA} {r : List V → Hp → VK → Prop} {g : List D → Opt} (ea : EvA T Z W t fa) (hr : CallS T r g) : EvS T Z W (tCB r t) (cbR g fa) := by
  intro H0 A δ σ F fp H Q s h
  refine ea H0 A δ σ F fp H _ s ?_
  unfold cbR at h
  cases hf : fa δ with
  | no => rw [hf] at h; exact h.elim
  | er c => rw [hf] at h; exact h
  | ok ds st =>
    rw [hf] at h
    intro vs F' H' g' rs
    have s1 := s.grow g'
    refine hr A F' H' Q vs ds s1.aH s1.fh ?_ (h.later g').opt
    by_cases h2 : st = true
    · rw [if_pos h2] at rs; exact rs.mono g'.fh
    · rw [if_neg h2] at rs; exact rs
variable {x : Str} {p : Pos} {id Ty : String} {r : List V → Hp → VK → Prop} {g : List D → Opt}
theorem pd_callB (hc : CallR X (.builtin id) r) (hr : CallS T r g) (hm : X.mg x = none) (hv : bootBuiltins x = some (.builtin id)) (ha : PDa X T Z W (e :: es) fa) (hg : Gl X x := by rfl) (hn : x ≠ "__name__" := by decide) (hdb : (x == ("__debug__" : Str)) = false := by decide)
    (he : starEach (e :: es) X.env = (false, eval e X.env) :: starEach es X.env := by rfl) (hpl : (backTo pos (starEach es X.env)).any (·.1) = false := by rfl) : PDe X T Z W (.Call (.Name x p) (e :: es) [] pos) (cbR g fa) := by
  obtain ⟨t, pa, ea⟩ := ha
  exact ⟨_, pe_callB hc hg hm hv pa hn hdb he hpl, ea.call hr⟩
theorem pd_callTy (hc : CallR X (.type Ty) r) (hr : CallS T r g) (hm : X.mg x = none) (hv : bootBuiltins x = some (.type Ty)) (ha : PDa X T Z W (e :: es) fa) (hg : Gl X x := by rfl) (hn : x ≠ "__name__" := by decide) (hdb : (x == ("__debug__" : Str)) = false := by decide)
    (he : starEach (e :: es) X.env = (false, eval e X.env) :: starEach es X.env := by rfl) (hpl : (backTo pos (starEach es X.env)).any (·.1) = false := by rfl) : PDe X T Z W (.Call (.Name x p) (e :: es) [] pos) (cbR g fa) := by
  obtain ⟨t, pa, ea⟩ := ha
  exact ⟨_, pe_callTy hc hg hm hv pa hn hdb he hpl, ea.call hr⟩
theorem CallR.or {f : Value} {r1 r2 : List V → Hp → VK → Prop} (h1 : CallR X f r1) (h2 : CallR X f r2) : CallR X f (fun vs H Q => r1 vs H Q ∨ r2 vs H Q) :=
  fun pins s σ H xs us Q I r h => h.elim (h1 pins s σ H xs us Q I r) (h2 pins s σ H xs us Q I r)
theorem reps1 {T : Par} {H : Hp} {vs : List V} {d : D} (h : Reps T H vs [d]) : ∃ v, vs = [v] ∧ Rep T H v d := by
  match vs, h with
  | [v], h => simp only [Reps] at h; exact ⟨v, rfl, h.1⟩
  | [], h => simp [Reps] at h
  | v :: w :: r, h => simp [Reps] at h
theorem reps2 {T : Par} {H : Hp} {vs : List V} {d e : D} (h : Reps T H vs [d, e]) : ∃ v w, vs = [v, w] ∧ Rep T H v d ∧ Rep T H w e := by
  match vs, h with
  | [v, w], h => simp only [Reps] at h; exact ⟨v, w, rfl, h.1, h.2.1⟩
  | [], h => simp [Reps] at h
  | [v], h => simp [Reps] at h
  | v :: w :: z :: r, h => simp [Reps] at h
/-- len -/
def gLen : List D → Opt
  | [.str s] => if s.length ≤ sizeLine then some (.int s.length, .st) else none
  | [.lst ds] => some (.int ds.length, .st)
  | [.tup ds] => some (.int ds.length, .st)
  | [.scr ns] => some (.int ns.length, .st)
  | _ => none
theorem cs_len : CallS T (fun xs H Q => ∃ x n, xs = [x] ∧ LenV T.K x H n ∧ Q (.int n) H) gLen := by
  intro A F H Q vs ds hA hF rs h
  unfold gLen at h
  split at h
  · rename_i s
    obtain ⟨v, rfl, rv⟩ := reps1 rs
    rw [Rep] at rv
    subst rv
    split at h
    · rename_i hl
      exact ⟨_, _, rfl, ⟨hl, rfl⟩, post_st hF h rfl⟩
    · exact h.elim
  · rename_i l
    obtain ⟨v, rfl, rv⟩ := reps1 rs
    rw [Rep] at rv
    obtain ⟨q, vs, rfl, h1, h2⟩ := rv
    exact ⟨_, _, rfl, .inl ⟨vs, SqL.of h1, h2.length.symm⟩, post_st hF h rfl⟩
  · rename_i l
    obtain ⟨v, rfl, rv⟩ := reps1 rs
    rw [Rep] at rv
    obtain ⟨q, vs, rfl, h1, h2⟩ := rv
    exact ⟨_, _, rfl, .inr ⟨vs, SqT.of h1, h2.length.symm⟩, post_st hF h rfl⟩
  · rename_i l
    obtain ⟨v, rfl, rv⟩ := reps1 rs
    rw [Rep] at rv
    obtain ⟨q, rfl, h1⟩ := rv
    exact ⟨_, _, rfl, .inl ⟨_, h1, by simp⟩, post_st hF h rfl⟩
  · exact h.elim
end
end
end DD

set_option maxRecDepth 100000
namespace DD
noncomputable section
open PySem L2

section
variable {X : Cx} {T : Par} {Z : Hd} {W : WX} {a b c e o : Expr} {es : List Expr} {f1 f2 f3 : Dl → Res} {fa : Dl → ResA} {pos apos cpos : Pos}

/-! ### an item -/
theorem atI_reps {T : Par} {F : Hp} {vs : List V} {ds : List D} {i : Int} {d : D} (h : Reps T F vs ds) (e : atI ds i = some d) : ∃ v, atI vs i = some v ∧ Rep T F v d := by
  unfold atI at e ⊢
  rw [h.length]
  cases hx : ixN ds.length i with
  | none => rw [hx] at e; cases e
  | some j =>
    rw [hx] at e
    exact h.get e
theorem atI_items {α : Type} {vs : List V} {ds : List α} {i : Int} {d : α} (hl : vs.length = ds.length) {P : V → α → Prop} (h : ∀ (i : Nat) (x : α), ds[i]? = some x → ∃ u, vs[i]? = some u ∧ P u x) (e : atI ds i = some d) : ∃ v, atI vs i = some v ∧ P v d := by
  unfold atI at e ⊢
  rw [hl]
  cases hx : ixN ds.length i with
  | none => rw [hx] at e; cases e
  | some j =>
    rw [hx] at e
    exact h _ _ e
/-- an item of something that is held so -/
def kIx (d : D) (k : Kd) : Kd := if stK d k = true then .st else k
def itemD (d : D) (i : Int) : Option D := match d with
  | .lst ds => atI ds i
  | .tup ds => atI ds i
  | .scr ns => (atI ns i).map .int
  | .str s => if s.length ≤ sizeLine then (atI s.cps.toList i).map fun c => .str ⟨#[c]⟩ else none
  | _ => none
def gIx (d : D) (k : Kd) (e : D) : Opt := match e with
  | .int i => (itemD d i).map fun x => (x, kIx d k)
  | _ => none
def ixR (f1 f2 : Dl → Res) : Dl → Res := fun δ => bindR (f1 δ) fun d k => bindR (f2 δ) fun e _ => optR (gIx d k e)
theorem ix_rule {T : Par} {B H : Hp} {v : V} {d x : D} {i : Int} {Q : VK} (hB : Same B H) (r : Rep T B v d) (h : itemD d i = some x) (q : ∀ z, Rep T B z x → Q z H) : rIx T.K v (.int i) H Q := by
  cases d with
  | lst ds =>
    rw [Rep] at r
    obtain ⟨p, vs, rfl, h1, h2⟩ := r
    obtain ⟨z, e1, e2⟩ := atI_reps h2 h
    exact .inl ⟨p, vs, i, z, rfl, rfl, SqL.of (hB _ _ h1), e1, q z e2⟩
  | tup ds =>
    rw [Rep] at r
    obtain ⟨p, vs, rfl, h1, h2⟩ := r
    obtain ⟨z, e1, e2⟩ := atI_reps h2 h
    exact .inr (.inl ⟨p, vs, i, z, rfl, rfl, SqT.of (hB _ _ h1), e1, q z e2⟩)
  | scr ns =>
    rw [Rep] at r
    obtain ⟨p, rfl, h1⟩ := r
    simp only [itemD, Option.map_eq_some_iff] at h
    obtain ⟨n, h2, rfl⟩ := h
    obtain ⟨z, e1, e2⟩ := atI_items (vs := ns.map V.int) (P := fun v m => v = .int m) (by simp) (fun j m e => ⟨.int m, by rw [List.getElem?_map, e]; rfl, rfl⟩) h2
    subst e2
    exact .inl ⟨p, _, i, _, rfl, rfl, hB.seq h1, e1, q _ (by rw [Rep])⟩
  | str s =>
    rw [Rep] at r
    subst r
    simp only [itemD] at h
    split at h
    · rename_i hl
      simp only [Option.map_eq_some_iff] at h
      obtain ⟨c, h2, rfl⟩ := h
      exact .inr (.inr ⟨s, i, c, rfl, rfl, hl, h2, q _ (by rw [Rep])⟩)
    · cases h
  | _ => cases h
theorem pd_ix (ha : PDe X T Z W a f1) (hb : PDe X T Z W b f2) (hs : PlainIx b := by exact fun _ _ => rfl) (hK : X.K = T.K := by rfl) : PDe X T Z W (.Subscript a b pos) (ixR f1 f2) := by
  obtain ⟨ta, pa, ea⟩ := ha
  obtain ⟨tb, pb, eb⟩ := hb
  refine ⟨_, pe_ix ix_seq pa pb hs, ?_⟩
  rw [hK]
  intro H0 A δ σ F fp H Q s h
  unfold ixR at h
  refine ea.then_ s h _ fun d k v F1 H1 _ g1 s1 r1 h1 => ?_
  -- what is wanted, from a base
  have go : ∀ F1', Grow F H F1' H1 → (∀ F2 H2, Grow F1' H1 F2 H2 → ∃ B, Same B H2 ∧ Rep T B v d ∧ ∀ z x, Rep T B z x → ResR T A F2 H2 H2 (kIx d k) z x) →
      tb σ H1 fun y H2 => rIx T.K v y H2 Q := by
    intro F1' g1' hB
    have s1' := s.grow g1'
    refine eb.then_ s1' (h1.later g1') _ fun e k2 u F2 H2 _ g2 s2 r2 h2 => ?_
    have q := (h2.later g2).opt
    have ru := r2.rep s2.aH s2.fh
    cases e with
    | int i =>
      rw [Rep] at ru
      subst ru
      simp only [gIx] at q
      cases hx : itemD d i with
      | none => rw [hx] at q; exact q.elim
      | some x =>
        rw [hx] at q
        obtain ⟨B, b1, b2, b3⟩ := hB F2 H2 g2
        exact ix_rule b1 b2 hx fun z rz => q z F2 H2 (Grow.refl s2.fh) (b3 z x rz)
    | _ => exact q.elim
  by_cases hk : stK d k = true
  · obtain ⟨F1', e1, e2, e3, r1'⟩ := r1.share s1.aH s1.fh hk
    refine go F1' ⟨g1.ff.trans e1, g1.hh, e2, fun a o q => ?_⟩ fun F2 H2 g2 => ⟨F2, g2.fh, r1'.mono g2.ff, fun z x rz => ?_⟩
    · rcases e3 a o q with z | z | z
      · exact g1.nw a o z
      · exact .inr (.inl z)
      · exact .inr (.inr z)
    · unfold kIx
      rw [if_pos hk]
      exact rz
  · refine go F1 g1 fun F2 H2 g2 => ?_
    unfold kIx
    rw [if_neg hk]
    cases k with
    | any => exact ⟨H2, Same.refl _, Rep.mono g2.hh r1, fun z x rz => rz⟩
    | bw => exact ⟨A, s1.aH.trans g2.hh, r1, fun z x rz => rz⟩
    | st => exact absurd rfl hk
    | tp => exact absurd rfl hk
    | dp => exact absurd rfl hk

/-! ### slices -/
def cutD (xs : List D) (lo hi : Option Int) : List D := (xs.drop (HT.sIx xs.length 0 lo)).take (HT.sIx xs.length xs.length hi - HT.sIx xs.length 0 lo)
inductive ResO where
  | ok (i : Option Int) | er (c : Ex) | no
def PostP (T : Par) (F H : Hp) (W : WX) (σ : L2.St) (Q : Option Int → Hp → Prop) : ResO → Prop
  | .ok i => ∀ F' H', Grow F H F' H' → Q i H'
  | .er c => ∀ F' H', Grow F H F' H' → W (.ref (T.cx c)) none σ H'
  | .no => False
def EvO (T : Par) (Z : Hd) (W : WX) (t : TO) (f : Dl → ResO) : Prop :=
  ∀ H0 A δ σ F fp H (Q : Option Int → Hp → Prop), SR T Z H0 A δ σ F fp H → PostP T F H W σ Q (f δ) → t σ H Q
def PDo (X : Cx) (T : Par) (Z : Hd) (W : WX) (e : Option Expr) (f : Dl → ResO) : Prop := ∃ t, PO X e t ∧ EvO T Z W t f
theorem PostP.later {T : Par} {F H F1 H1 : Hp} {σ : L2.St} {Q : Option Int → Hp → Prop} {r : ResO} (h : PostP T F H W σ Q r) (g : Grow F H F1 H1) : PostP T F1 H1 W σ Q r := by
  cases r with
  | ok b => exact fun F' H' g' => h F' H' (g.trans g')
  | er c => exact fun F' H' g' => h F' H' (g.trans g')
  | no => exact h
def noPart : Dl → ResO := fun _ => .ok none
def someR (f : Dl → Res) : Dl → ResO := fun δ => match f δ with
  | .ok (.int i) _ => .ok (some i)
  | .er c => .er c
  | _ => .no
theorem od_none : PDo X T Z W none noPart := ⟨_, po_none, fun H0 A δ σ F fp H Q s h => h F H (Grow.refl s.fh)⟩
theorem od_some (h : PDe X T Z W e f1) : PDo X T Z W (some e) (someR f1) := by
  obtain ⟨t, p, ev⟩ := h
  refine ⟨_, po_some p, ?_⟩
  intro H0 A δ σ F fp H Q s h
  refine ev H0 A δ σ F fp H _ s ?_
  unfold someR at h
  cases hf : f1 δ with
  | no => rw [hf] at h; exact h.elim
  | er c => rw [hf] at h; exact h
  | ok d k =>
    rw [hf] at h
    cases d with
    | int i =>
      intro v F' H' g r
      have s1 := s.grow g
      have rv := r.rep s1.aH s1.fh
      rw [Rep] at rv
      exact ⟨i, rv, h F' H' g⟩
    | _ => exact h.elim
def gSl (d : D) (lo hi : Option Int) : Opt := match d with
  | .lst ds => if imms ds = true then some (.lst (cutD ds lo hi), .tp) else none
  | .str s => if s.length ≤ sizeLine then some (.str (cutS s lo hi), .st) else none
  | _ => none
def slR (f : Dl → Res) (p q : Dl → ResO) : Dl → Res := fun δ => bindR (f δ) fun d _ => match p δ with
  | .ok lo => (match q δ with
    | .ok hi => optR (gSl d lo hi)
    | .er c => .er c
    | .no => .no)
  | .er c => .er c
  | .no => .no
theorem imms_take : ∀ (n : Nat) {xs : List D}, imms xs = true → imms (xs.take n) = true
  | 0, _, _ => by simp [imms]
  | n + 1, [], _ => by simp [imms]
  | n + 1, x :: xs, h => by
    simp only [imms, Bool.and_eq_true] at h
    simp only [List.take_succ_cons, imms, Bool.and_eq_true]
    exact ⟨h.1, imms_take n h.2⟩
theorem imms_drop : ∀ (n : Nat) {xs : List D}, imms xs = true → imms (xs.drop n) = true
  | 0, _, h => by simpa using h
  | n + 1, [], _ => by simp [imms]
  | n + 1, x :: xs, h => by
    simp only [imms, Bool.and_eq_true] at h
    simp only [List.drop_succ_cons]
    exact imms_drop n h.2
theorem imms_rev : ∀ {xs : List D}, imms xs = true → imms xs.reverse = true
  | [], _ => by simp [imms]
  | x :: xs, h => by
    simp only [imms, Bool.and_eq_true] at h
    rw [List.reverse_cons]
    exact imms_append (imms_rev h.2) (by simp [imms, h.1])
variable {lo hi : Option Expr} {p q : Dl → ResO} {p2 : Pos}
def rSlA (K : PySem.W.Frag) : V → Option Int → Option Int → Hp → VK → Prop := fun x lo hi H Q => rSlL K x lo hi H Q ∨ rSlS x lo hi H Q
theorem pd_slice (ha : PDe X T Z W e f1) (hl : PDo X T Z W lo p) (hh : PDo X T Z W hi q) (hK : X.K = T.K := by rfl) : PDe X T Z W (.Subscript e (.Slice lo hi none p2) pos) (slR f1 p q) := by
  obtain ⟨ta, pa, ea⟩ := ha
  obtain ⟨tl, pl, el⟩ := hl
  obtain ⟨th, ph, eh⟩ := hh
  refine ⟨_, pe_slice (r := rSlA X.K) (SlR.or sl_list sl_str) pa pl ph, ?_⟩
  rw [hK]
  intro H0 A δ σ F fp H Q s h
  unfold slR at h
  refine ea.then_ s h _ fun d k v F1 H1 _ g1 s1 r1 h1 => ?_
  have h1 := h1.later g1
  refine el H0 A δ σ F1 fp H1 _ s1 ?_
  cases hp : p δ with
  | no => rw [hp] at h1; exact h1.elim
  | er c => rw [hp] at h1; exact h1
  | ok lo =>
    rw [hp] at h1
    intro F2 H2 g2
    have s2 := s1.grow g2
    refine eh H0 A δ σ F2 fp H2 _ s2 ?_
    have h2 := h1.later g2
    cases hq : q δ with
    | no => rw [hq] at h2; exact h2.elim
    | er c => rw [hq] at h2; exact h2
    | ok hi =>
      rw [hq] at h2
      intro F3 H3 g3
      have s3 := s2.grow g3
      have h3 := (h2.later g3 : PostE T A F3 H3 W σ Q (optR (gSl d lo hi))).opt
      have rv := ((r1.rep s1.aH s1.fh).mono g2.hh).mono g3.hh
      cases d with
      | lst ds =>
        rw [Rep] at rv
        obtain ⟨pp, vs, rfl, e1, e2⟩ := rv
        simp only [gSl] at h3
        split at h3
        · rename_i hi'
          refine .inl ⟨pp, vs, rfl, SqL.of e1, ?_⟩
          refine post_lstI s3.fh h3 (imms_take _ (imms_drop _ hi')) ?_
          unfold cutV cutD
          rw [e2.length]
          exact (e2.drop _).take _
        · exact h3.elim
      | str z =>
        rw [Rep] at rv
        subst rv
        simp only [gSl] at h3
        split at h3
        · rename_i hl
          exact .inr ⟨z, rfl, hl, post_st s3.fh h3 rfl⟩
        · exact h3.elim
      | _ => exact h3.elim
def gRev : D → Opt
  | .lst ds => if imms ds = true then some (.lst ds.reverse, .tp) else none
  | _ => none
theorem pd_rev {k : Nat} {q1 q2 q3 : Pos} (ha : PDe X T Z W e f1) (hK : X.K = T.K := by rfl) : PDe X T Z W (.Subscript e (.Slice none none (some (.UnaryOp .USub (.Constant (.int 1) k q1) q2)) q3) pos) (unR gRev f1) := by
  obtain ⟨ta, pa, ea⟩ := ha
  refine ⟨_, pe_revL pa, ?_⟩
  rw [hK]
  refine ea.un (r := fun x H1 Q => ∃ a xs, x = .ref a ∧ SqL T.K H1 a xs ∧ ∀ p, H1 p = none → Q (.ref p) (upd H1 p (.lst xs.reverse))) fun A F H Q x d hA hF rx h => ?_
  cases d with
  | lst ds =>
    rw [Rep] at rx
    obtain ⟨pp, vs, rfl, e1, e2⟩ := rx
    simp only [gRev] at h
    split at h
    · rename_i hi
      exact ⟨pp, vs, rfl, SqL.of e1, post_lstI hF h (imms_rev hi) e2.reverse⟩
    · exact h.elim
  | _ => exact h.elim

/-! ### in -/
def flats : List D → Option (List V)
  | [] => some []
  | d :: ds => match flatV? d, flats ds with
    | some v, some vs => some (v :: vs)
    | _, _ => none
theorem flatV?_flat {d : D} {v : V} (h : flatV? d = some v) : flatV v = true := by
  cases d <;> first | (cases h; rfl) | cases h
theorem flats_reps {T : Par} {H : Hp} : ∀ {vs : List V} {ds : List D} {ws : List V}, Reps T H vs ds → flats ds = some ws → vs = ws ∧ ws.all flatV = true
  | [], [], ws, _, e => by simp only [flats, Option.some.injEq] at e; subst e; exact ⟨rfl, rfl⟩
  | v :: vs, d :: ds, ws, h, e => by
    rw [Reps] at h
    rw [flats] at e
    cases e1 : flatV? d with
    | none => rw [e1] at e; cases e
    | some x =>
      cases e2 : flats ds with
      | none => rw [e1, e2] at e; cases e
      | some ys =>
        rw [e1, e2] at e
        simp only [Option.some.injEq] at e
        subst e
        obtain ⟨q1, q2⟩ := flats_reps h.2 e2
        rw [flatV?_rep h.1 e1, q1]
        refine ⟨rfl, ?_⟩
        rw [List.all_cons, flatV?_flat e1, q2]; rfl
  | [], _ :: _, _, h, _ => by simp [Reps] at h
  | _ :: _, [], _, h, _ => by simp [Reps] at h
/-- is it in, where this can be told -/
def inB (d e : D) : Option Bool := match e with
  | .lst ds => (match flatV? d, flats ds with
    | some v, some vs => some (inV v vs)
    | _, _ => none)
  | .tup ds => (match flatV? d, flats ds with
    | some v, some vs => some (inV v vs)
    | _, _ => none)
  | .str z => (match d with
    | .str s => (match s.cps.toList with
      | [c] => some (decide (c ∈ z.cps.toList))
      | _ => none)
    | _ => none)
  | _ => none
def gIn (d e : D) : Opt := (inB d e).map fun b => (.bl b, .st)
def gNotIn (d e : D) : Opt := (inB d e).map fun b => (.bl (!b), .st)
def rInSg (neg : Bool) : R2 := fun x y H Q => ∃ (c : Nat) (z : Str), x = .str ⟨#[c]⟩ ∧ y = .str z ∧ Q (.bl (if neg then !decide (c ∈ z.cps.toList) else decide (c ∈ z.cps.toList))) H
def rInA (K : PySem.W.Frag) (neg : Bool) : R2 := fun x y H Q => rIn K neg x y H Q ∨ rInSg neg x y H Q
theorem str_one {s : Str} {c : Nat} (h : s.cps.toList = [c]) : s = ⟨#[c]⟩ := by
  obtain ⟨a⟩ := s
  congr 1
  apply Array.ext'
  simpa using h
theorem inB_rule {T : Par} {H : Hp} {x y : V} {d e : D} {b : Bool} (rx : Rep T H x d) (ry : Rep T H y e) (h : inB d e = some b) :
    (∃ p xs, y = .ref p ∧ (SqL T.K H p xs ∨ SqT T.K H p xs) ∧ flatV x = true ∧ xs.all flatV = true ∧ inV x xs = b) ∨ ∃ (c : Nat) (z : Str), x = .str ⟨#[c]⟩ ∧ y = .str z ∧ decide (c ∈ z.cps.toList) = b := by
  unfold inB at h
  cases e with
  | lst ds =>
    simp only at h
    split at h
    · rename_i v vs h1 h2
      rw [Rep] at ry
      obtain ⟨p, ws, rfl, e1, e2⟩ := ry
      obtain ⟨rfl, e3⟩ := flats_reps e2 h2
      cases flatV?_rep rx h1
      exact .inl ⟨p, _, rfl, .inl (SqL.of e1), flatV?_flat h1, e3, Option.some.inj h⟩
    · cases h
  | tup ds =>
    simp only at h
    split at h
    · rename_i v vs h1 h2
      rw [Rep] at ry
      obtain ⟨p, ws, rfl, e1, e2⟩ := ry
      obtain ⟨rfl, e3⟩ := flats_reps e2 h2
      cases flatV?_rep rx h1
      exact .inl ⟨p, _, rfl, .inr (SqT.of e1), flatV?_flat h1, e3, Option.some.inj h⟩
    · cases h
  | str z =>
    simp only at h
    split at h
    · rename_i s
      split at h
      · rename_i c hc
        rw [Rep] at rx ry
        subst rx ry
        exact .inr ⟨c, z, by rw [str_one hc], rfl, Option.some.inj h⟩
      · cases h
    · cases h
  | _ => cases h
theorem os_in : OpS T (rInA T.K false) gIn := by
  intro A F H Q x y d e hA hF rx ry h
  unfold gIn at h
  cases hb : inB d e with
  | none => rw [hb] at h; exact h.elim
  | some b =>
    rw [hb] at h
    have q : Q (.bl b) H := post_st hF h rfl
    rcases inB_rule rx ry hb with ⟨p, xs, h1, h2, h3, h4, h5⟩ | ⟨c, z, h1, h2, h3⟩
    · exact .inl ⟨p, xs, h1, h2, h3, h4, by rw [if_neg Bool.false_ne_true, h5]; exact q⟩
    · exact .inr ⟨c, z, h1, h2, by rw [if_neg Bool.false_ne_true, h3]; exact q⟩
theorem os_notIn : OpS T (rInA T.K true) gNotIn := by
  intro A F H Q x y d e hA hF rx ry h
  unfold gNotIn at h
  cases hb : inB d e with
  | none => rw [hb] at h; exact h.elim
  | some b =>
    rw [hb] at h
    have q : Q (.bl (!b)) H := post_st hF h rfl
    rcases inB_rule rx ry hb with ⟨p, xs, h1, h2, h3, h4, h5⟩ | ⟨c, z, h1, h2, h3⟩
    · exact .inl ⟨p, xs, h1, h2, h3, h4, by rw [if_pos rfl, h5]; exact q⟩
    · exact .inr ⟨c, z, h1, h2, by rw [if_pos rfl, h3]; exact q⟩
theorem op_inSg : OpR X (compareOp .In) (rInSg false) := fun pins s σ H x y v u Q I rx ry h => by
  obtain ⟨c, z, h1, h2, h3⟩ := h
  exact op_in_sign pins s σ H x y v u Q I rx ry ⟨c, z, h1, h2, h3⟩
theorem op_ninSg : OpR X (compareOp .NotIn) (rInSg true) := fun pins s σ H x y v u Q I rx ry h => by
  obtain ⟨c, z, h1, h2, h3⟩ := h
  exact op_notIn_sign pins s σ H x y v u Q I rx ry ⟨c, z, h1, h2, h3⟩
theorem pd_in (ha : PDe X T Z W a f1) (hb : PDe X T Z W b f2) (hm : behindInMarks .In b = false := by rfl) (hK : X.K = T.K := by rfl) : PDe X T Z W (.Compare a [.In] [b] pos) (opR gIn f1 f2) := by
  refine pd_cmp (r := rInA T.K false) ?_ os_in ha hb hm
  rw [← hK]
  exact OpR.or op_in_seq op_inSg
theorem pd_notIn (ha : PDe X T Z W a f1) (hb : PDe X T Z W b f2) (hm : behindInMarks .NotIn b = false := by rfl) (hK : X.K = T.K := by rfl) : PDe X T Z W (.Compare a [.NotIn] [b] pos) (opR gNotIn f1 f2) := by
  refine pd_cmp (r := rInA T.K true) ?_ os_notIn ha hb hm
  rw [← hK]
  exact OpR.or op_notIn_seq op_ninSg

/-! ### keys -/
def keyD : D → Option Key
  | .int i => some (.inl i)
  | .str s => some (.inr s)
  | _ => none
def keysD : List D → Option (List Key)
  | [] => some []
  | d :: ds => match keyD d, keysD ds with
    | some k, some ks => some (k :: ks)
    | _, _ => none
theorem keyD_rep {T : Par} {H : Hp} {v : V} {d : D} {k : Key} (h : Rep T H v d) (e : keyD d = some k) : v = kV k := by
  cases d with
  | int i => cases e; rw [Rep] at h; exact h
  | str i => cases e; rw [Rep] at h; exact h
  | _ => cases e
theorem keysD_reps {T : Par} {H : Hp} : ∀ {vs : List V} {ds : List D} {ks : List Key}, Reps T H vs ds → keysD ds = some ks → vs = ks.map kV
  | [], [], ks, _, e => by simp only [keysD, Option.some.injEq] at e; subst e; rfl
  | v :: vs, d :: ds, ks, h, e => by
    rw [Reps] at h
    rw [keysD] at e
    cases e1 : keyD d with
    | none => rw [e1] at e; cases e
    | some x =>
      cases e2 : keysD ds with
      | none => rw [e1, e2] at e; cases e
      | some ys =>
        rw [e1, e2] at e
        simp only [Option.some.injEq] at e
        subst e
        rw [keyD_rep h.1 e1, keysD_reps h.2 e2]; rfl
  | [], _ :: _, _, h, _ => by simp [Reps] at h
  | _ :: _, [], _, h, _ => by simp [Reps] at h
/-- what a dict holds at a key -/
def lookS {κ : Type} [DecidableEq κ] : List (κ × Sc) → κ → Option Sc
  | [], _ => none
  | kv :: r, k => if kv.1 = k then some kv.2 else lookS r k
theorem valV_lookS {κ : Type} [DecidableEq κ] (k : κ) : ∀ (kvs : List (κ × Sc)), valV (kvs.map fun kv => (kv.1, kv.2.v)) k = (lookS kvs k).map Sc.v
  | [] => rfl
  | kv :: r => by
    have ih := valV_lookS k r
    unfold valV at ih ⊢
    unfold lookS
    rw [List.map_cons, List.find?_cons]
    by_cases h : kv.1 = k
    · simp [h]
    · simp only [h, decide_false, if_false]
      exact ih
/-- the dict d at the key e -/
def dgetB (d e : D) : Option (Option Sc) := match d with
  | .dt kvs => (match e with
    | .tup ds => (match keysD ds with
      | some k => some (lookS kvs k)
      | none => none)
    | _ => none)
  | .dk kvs => (match keyD e with
    | some k => some (lookS kvs k)
    | none => none)
  | _ => none
theorem dgetB_rule {T : Par} {H : Hp} {x y : V} {d e : D} {r : Option Sc} (rx : Rep T H x d) (ry : Rep T H y e) (h : dgetB d e = some r) : ∃ p, x = .ref p ∧ DGet H p y (r.map Sc.v) ∧ IsD H p := by
  unfold dgetB at h
  cases d with
  | dt kvs =>
    rw [Rep] at rx
    obtain ⟨p, rfl, e1⟩ := rx
    simp only at h
    split at h
    · rename_i ds
      split at h
      · rename_i k hk
        rw [Rep] at ry
        obtain ⟨q, vs, rfl, e2, e3⟩ := ry
        rw [keysD_reps e3 hk] at e2
        refine ⟨p, rfl, ?_, .inr ⟨_, .inl e1⟩⟩
        rw [← Option.some.inj h, ← valV_lookS]
        exact DGet.t e1 e2
      · cases h
    · cases h
  | dk kvs =>
    rw [Rep] at rx
    obtain ⟨p, rfl, e1⟩ := rx
    simp only at h
    split at h
    · rename_i k hk
      rw [keyD_rep ry hk]
      refine ⟨p, rfl, ?_, .inl ⟨_, .inl e1⟩⟩
      rw [← Option.some.inj h, ← valV_lookS]
      exact DGet.k e1
    · cases h
  | _ => cases h
def scD (s : Sc) : D × Kd := (s.d, .st)
theorem sc_flat (s : Sc) : flatD s.v = some s.d := by cases s <;> rfl
def gDIn (d e : D) : Opt := (dgetB e d).map fun r => (.bl r.isSome, .st)
def gDNotIn (d e : D) : Opt := (dgetB e d).map fun r => (.bl (!r.isSome), .st)
def gDGet (d e : D) : Opt := (dgetB d e).bind fun r => r.map scD
def gDGet1 (d e : D) : Opt := (dgetB d e).map fun r => match r with
  | some s => scD s
  | none => (.non, .st)
/-- key in dict -/
theorem pd_din (hu : X.A.units + 1 < cLine) (ha : PDe X T Z W a f1) (hb : PDe X T Z W b f2) (h1 : behindInMarks .In b = false := by rfl) : PDe X T Z W (.Compare a [.In] [b] pos) (opR gDIn f1 f2) := by
  obtain ⟨ta, pa, ea⟩ := ha
  obtain ⟨tb, pb, eb⟩ := hb
  refine ⟨_, pe_cmp (pc_din hu pa pb) h1, ?_⟩
  refine EvS.two (r := fun y x H Q => ∃ a o, x = .ref a ∧ DGet H a y o ∧ Q (.bl o.isSome) H) ea eb fun A F H Q y x d e hA hF ry rx h => ?_
  unfold gDIn at h
  cases hb : dgetB e d with
  | none => rw [hb] at h; exact h.elim
  | some r =>
    rw [hb] at h
    obtain ⟨p, rfl, q, _⟩ := dgetB_rule rx ry hb
    refine ⟨p, _, rfl, q, ?_⟩
    rw [Option.isSome_map]
    exact post_st hF h rfl
theorem pd_dnotin (hu : X.A.units + 1 < cLine) (ha : PDe X T Z W a f1) (hb : PDe X T Z W b f2) (h1 : behindInMarks .NotIn b = false := by rfl) : PDe X T Z W (.Compare a [.NotIn] [b] pos) (opR gDNotIn f1 f2) := by
  obtain ⟨ta, pa, ea⟩ := ha
  obtain ⟨tb, pb, eb⟩ := hb
  refine ⟨_, pe_cmp (pc_dnotin hu pa pb) h1, ?_⟩
  refine EvS.two (r := fun y x H Q => ∃ a o, x = .ref a ∧ DGet H a y o ∧ Q (.bl (!o.isSome)) H) ea eb fun A F H Q y x d e hA hF ry rx h => ?_
  unfold gDNotIn at h
  cases hb : dgetB e d with
  | none => rw [hb] at h; exact h.elim
  | some r =>
    rw [hb] at h
    obtain ⟨p, rfl, q, _⟩ := dgetB_rule rx ry hb
    refine ⟨p, _, rfl, q, ?_⟩
    rw [Option.isSome_map]
    exact post_st hF h rfl
/-- d[k] -/
theorem pd_dget (hu : X.A.units + 1 < cLine) (ha : PDe X T Z W a f1) (hb : PDe X T Z W b f2) (hs : NoSl b := by exact fun _ _ => rfl) : PDe X T Z W (.Subscript a b pos) (opR gDGet f1 f2) := by
  obtain ⟨ta, pa, ea⟩ := ha
  obtain ⟨tb, pb, eb⟩ := hb
  refine ⟨_, pe_dget hu pa pb hs, ?_⟩
  refine EvS.two (r := fun x y H Q => ∃ a v, x = .ref a ∧ DGet H a y (some v) ∧ Q v H) ea eb fun A F H Q x y d e hA hF rx ry h => ?_
  unfold gDGet at h
  cases hb : dgetB d e with
  | none => rw [hb] at h; exact h.elim
  | some r =>
    rw [hb] at h
    cases r with
    | none => exact h.elim
    | some z =>
      obtain ⟨p, rfl, q, _⟩ := dgetB_rule rx ry hb
      exact ⟨p, _, rfl, q, post_st hF h (sc_flat z)⟩
def isDic : D → Bool
  | .dt _ => true
  | .dk _ => true
  | _ => false
def dg1R (f1 f2 : Dl → Res) : Dl → Res := fun δ => bindR (f1 δ) fun d _ => if isDic d = true then bindR (f2 δ) fun e _ => optR (gDGet1 d e) else .no
/-- d.get(k) -/
theorem pd_dget1 (hu : X.A.units + 1 < cLine) (ha : PDe X T Z W a f1) (hb : PDe X T Z W b f2) (m : M1 X a "get" apos b cpos) : PDe X T Z W (.Call (.Attribute a "get" apos) [b] [] cpos) (dg1R f1 f2) := by
  obtain ⟨ta, pa, ea⟩ := ha
  obtain ⟨tb, pb, eb⟩ := hb
  refine ⟨_, pe_dget1 hu pa pb m, ?_⟩
  intro H0 A δ σ F fp H Q s h
  unfold dg1R at h
  refine ea.then_ s h _ fun d k v F1 H1 hf g1 s1 r1 h1 => ?_
  have rv := r1.rep s1.aH s1.fh
  split at h1
  case isFalse => exact h1.elim
  rename_i hd
  have hp : ∃ p, v = .ref p ∧ IsD H1 p := by
    cases d with
    | dt kvs =>
      rw [Rep] at rv
      obtain ⟨p, rfl, e1⟩ := rv
      exact ⟨p, rfl, .inr ⟨_, .inl e1⟩⟩
    | dk kvs =>
      rw [Rep] at rv
      obtain ⟨p, rfl, e1⟩ := rv
      exact ⟨p, rfl, .inl ⟨_, .inl e1⟩⟩
    | _ => cases hd
  obtain ⟨p, rfl, hp⟩ := hp
  refine ⟨p, rfl, hp, ?_⟩
  refine eb.then_ s1 (h1.later g1) _ fun e k2 u F2 H2 _ g2 s2 r2 h2 => ?_
  have q := (h2.later g2).opt
  unfold gDGet1 at q
  cases hb : dgetB d e with
  | none => rw [hb] at q; exact q.elim
  | some r =>
    rw [hb] at q
    obtain ⟨p', e0, q1, _⟩ := dgetB_rule (rv.mono g2.hh) (r2.rep s2.aH s2.fh) hb
    cases e0
    refine ⟨_, q1, ?_⟩
    cases r with
    | none => exact post_st s2.fh q rfl
    | some z => exact post_st s2.fh q (sc_flat z)
end
end
end DD

set_option maxRecDepth 100000
namespace DD
noncomputable section
open PySem L2

/-! ### what stands behind a statement -/
inductive Out where
  | nx (δ : Dl) | rt (d : D) | bk (δ : Dl) | ct (δ : Dl) | er (c : Ex) (δ : Dl) | no
def PostS (T : Par) (Z : Hd) (H0 A : Hp) (W : WX) (E : Ends) (F : Hp) : Out → Prop
  | .nx δ => ∀ σ F' fp H', Same F F' → SR T Z H0 A δ σ F' fp H' → E.nx σ H'
  | .rt d => ∀ v F' H', Same H0 H' → Same F' H' → (∀ a o, F' a = some o → H0 a = none ∨ isTup o) → Rep T F' v d → E.rt v H'
  | .bk δ => ∀ σ F' fp H', Same F F' → SR T Z H0 A δ σ F' fp H' → E.bk σ H'
  | .ct δ => ∀ σ F' fp H', Same F F' → SR T Z H0 A δ σ F' fp H' → E.ct σ H'
  | .er c δ => ∀ σ F' fp H', Same F F' → SR T Z H0 A δ σ F' fp H' → W (.ref (T.cx c)) none σ H'
  | .no => False
def StS (T : Par) (Z : Hd) (W : WX) (t : TS) (f : Dl → Out) : Prop := ∀ H0 A δ σ F fp H (E : Ends), SR T Z H0 A δ σ F fp H → PostS T Z H0 A W E F (f δ) → t E σ H
def PDs (X : Cx) (T : Par) (Z : Hd) (W : WX) (st : Stmt) (f : Dl → Out) : Prop := ∃ t, PS X st t ∧ StS T Z W t f
def PDss (X : Cx) (T : Par) (Z : Hd) (W : WX) (st : List Stmt) (f : Dl → Out) : Prop := ∃ t, PSs X st t ∧ StS T Z W t f
theorem PostS.later {T : Par} {Z : Hd} {H0 A : Hp} {W : WX} {E : Ends} {F F1 : Hp} {o : Out} (h : PostS T Z H0 A W E F o) (e : Same F F1) : PostS T Z H0 A W E F1 o := by
  cases o with
  | nx δ => exact fun σ F' fp H' g s => h σ F' fp H' (e.trans g) s
  | rt d => exact h
  | bk δ => exact fun σ F' fp H' g s => h σ F' fp H' (e.trans g) s
  | ct δ => exact fun σ F' fp H' g s => h σ F' fp H' (e.trans g) s
  | er c δ => exact fun σ F' fp H' g s => h σ F' fp H' (e.trans g) s
  | no => exact h
def seqO (o : Out) (k : Dl → Out) : Out := match o with
  | .nx δ => k δ
  | o => o

section
variable {X : Cx} {T : Par} {Z : Hd} {W : WX} {H0 A : Hp} {δ : Dl} {σ : L2.St} {F H F' H' : Hp} {fp : Nat → Addr → Prop} {st : Stmt} {rest body : List Stmt} {t u : TS} {e a b c : Expr} {f1 f2 f3 : Dl → Res} {p1 : Dl → ResB} {k1 k2 : Dl → Out} {pos pos' : Pos}

/-! ### a slot is set -/
theorem SR.put (s : SR T Z H0 A δ σ F fp H) (i : Nat) {x : Slot} {v : V} {S : Addr → Prop} (hS : ∀ a, S a → F a = none ∧ H0 a = none ∧ ∃ o, H a = some o ∧ ¬ isTup o) (hd : ∀ j a, j ≠ i → fp j a → ¬ S a) (hx : SlotR T Z A F H S x (some v)) :
    SR T Z H0 A (δ.set i x) (σ.set i (some v)) F (fun j => if j = i then S else fp j) H := by
  refine ⟨s.h0, s.ah, s.fh, s.fn, fun j a h => ?_, fun j k a h1 h2 => ?_, fun j y e => ?_, by simp [s.len]⟩
  · by_cases hj : j = i
    · simp only [hj, if_true] at h; exact hS a h
    · simp only [hj, if_false] at h; exact s.own j a h
  · by_cases hj : j = i
    · by_cases hk : k = i
      · rw [hj, hk]
      · simp only [hj, if_true] at h1
        simp only [hk, if_false] at h2
        exact absurd h1 (hd k a hk h2)
    · by_cases hk : k = i
      · simp only [hj, if_false] at h1
        simp only [hk, if_true] at h2
        exact absurd h2 (hd j a hj h1)
      · simp only [hj, if_false] at h1
        simp only [hk, if_false] at h2
        exact s.sep j k a h1 h2
  · by_cases hj : j = i
    · subst hj
      have hlt : j < δ.length := by
        have := (List.getElem?_eq_some_iff.mp e).1
        simpa using this
      rw [List.getElem?_set_self hlt] at e
      cases e
      refine ⟨some v, List.getElem?_set_self (by rw [s.len]; exact hlt), ?_⟩
      simp only [if_true]
      exact hx
    · rw [List.getElem?_set_ne (Ne.symm hj)] at e
      obtain ⟨o, h1, h2⟩ := s.sl j y e
      refine ⟨o, by rw [List.getElem?_set_ne (Ne.symm hj)]; exact h1, ?_⟩
      simp only [hj, if_false]
      exact h2
/-- what a name holds behind a store -/
def setS (d : D) (k : Kd) : Option Slot := if imm d = true then some (.sh d) else match k with
  | .st => some (.sh d)
  | .bw => some (.bo d)
  | .any => none
  | .tp => some (.ow d)
  | .dp => (match d with
    | .lst ds => if imms ds = true then some (.ow d) else some (.dp d)
    | _ => some (.dp d))
theorem fresh_sep (s : SR T Z H0 A δ σ F fp H) {S : Addr → Prop} (hS : ∀ a, S a → H a = none) (i : Nat) : ∀ j a, j ≠ i → fp j a → ¬ S a := fun j a _ h z => by
  obtain ⟨_, _, o, h1, _⟩ := s.own j a h
  rw [hS a z] at h1; cases h1
theorem SR.setR (s : SR T Z H0 A δ σ F fp H) (g : Grow F H F' H') (i : Nat) {k : Kd} {v : V} {d : D} {x : Slot} (r : ResR T A F' H' H k v d) (hs : setS d k = some x) :
    ∃ F'' fp', Same F F'' ∧ SR T Z H0 A (δ.set i x) (σ.set i (some v)) F'' fp' H' := by
  have s' := s.grow g
  -- shared
  have shared : stK d k = true → x = .sh d → ∃ F'' fp', Same F F'' ∧ SR T Z H0 A (δ.set i x) (σ.set i (some v)) F'' fp' H' := by
    rintro hk rfl
    obtain ⟨F2, e1, e2, e3, r2⟩ := r.share s'.aH s'.fh hk
    have g2 : Grow F H F2 H' := ⟨g.ff.trans e1, g.hh, e2, fun a o q => by
      rcases e3 a o q with z | z | z
      · exact g.nw a o z
      · exact .inr (.inl z)
      · exact .inr (.inr z)⟩
    have s2 := s.grow g2
    exact ⟨F2, _, g2.ff, s2.put i (S := fun _ => False) (fun _ z => z.elim) (fun _ _ _ _ z => z) ⟨v, rfl, r2⟩⟩
  unfold setS at hs
  split at hs
  · rename_i hi
    cases hs
    refine shared ?_ rfl
    cases k <;> first | rfl | exact hi
  · cases k with
    | st => cases hs; exact shared rfl rfl
    | bw => cases hs; exact ⟨F', _, g.ff, s'.put i (S := fun _ => False) (fun _ z => z.elim) (fun _ _ _ _ z => z) ⟨v, rfl, r⟩⟩
    | any => cases hs
    | tp =>
      cases hs
      obtain ⟨p, rfl, h1, h2, r⟩ := r
      obtain ⟨o, ho, hn⟩ := r.cell
      exact ⟨F', _, g.ff, s'.put i (S := fun a => a = p) (fun a z => by subst z; exact ⟨h1, s.h0.free h2, o, ho, hn⟩) (fresh_sep s (fun a z => by subst z; exact h2) i) ⟨p, rfl, rfl, r⟩⟩
    | dp =>
      have deep : x = .dp d → ∃ F'' fp', Same F F'' ∧ SR T Z H0 A (δ.set i x) (σ.set i (some v)) F'' fp' H' := by
        rintro rfl
        obtain ⟨G, h1, h2, r⟩ := r
        have nt : ∀ a, (∃ u, G a = some u ∧ ¬ isTup u) → F' a = none ∧ H a = none := fun a ⟨u, e1, e2⟩ => by
          rcases h2 a u e1 with t | t
          · exact absurd t e2
          · exact t
        have hS : ∀ a, (∃ u, G a = some u ∧ ¬ isTup u) → F' a = none ∧ H0 a = none ∧ ∃ o, H' a = some o ∧ ¬ isTup o := fun a z => by
          obtain ⟨t1, t2⟩ := nt a z
          obtain ⟨u, e1, e2⟩ := z
          exact ⟨t1, s.h0.free t2, u, h1 _ _ e1, e2⟩
        have hG : ∀ a u, G a = some u → isTup u ∨ ∃ u, G a = some u ∧ ¬ isTup u := fun a u e => by
          by_cases t : isTup u
          · exact .inl t
          · exact .inr ⟨u, e, t⟩
        exact ⟨F', _, g.ff, s'.put i (S := fun a => ∃ u, G a = some u ∧ ¬ isTup u) hS (fresh_sep s (fun a z => (nt a z).2) i) ⟨v, rfl, G, h1, hG, r⟩⟩
      cases d with
      | lst ds =>
        simp only at hs
        split at hs
        · rename_i hi
          cases hs
          obtain ⟨G, h1, h2, r⟩ := r
          rw [Rep] at r
          obtain ⟨p, vs, rfl, e1, e2⟩ := r
          have hp : F' p = none ∧ H p = none := by
            rcases h2 p _ e1 with ⟨_, z⟩ | t
            · cases z
            · exact t
          have gt : Grow F H (hun F' (tuF H')) H' := ⟨g.ff.trans hun_l, g.hh, hun_in g.fh (tuF_same H'), fun a o e => by
            rcases hun_inv e with e | e
            · exact g.nw a o e
            · exact .inr (.inr (tuF_inv e).2)⟩
          have s2 := s.grow gt
          have hp' : (hun F' (tuF H')) p = none := by
            cases q : (hun F' (tuF H')) p with
            | none => rfl
            | some o =>
              rcases hun_inv q with q | q
              · rw [hp.1] at q; cases q
              · obtain ⟨q1, ws, q2⟩ := tuF_inv q
                rw [h1 _ _ e1] at q1
                cases q1
                cases q2
          exact ⟨_, _, gt.ff, s2.put i (S := fun a => a = p) (fun a z => by subst z; exact ⟨hp', s.h0.free hp.2, _, h1 _ _ e1, fun ⟨_, z⟩ => nomatch z⟩) (fresh_sep s (fun a z => by subst z; exact hp.2) i)
            ⟨p, rfl, rfl, vs, h1 _ _ e1, (Reps.imm hi (e2.mono h1)).mono (hun_r g.fh (tuF_same H'))⟩⟩
        · cases hs; exact deep rfl
      | _ => cases hs; exact deep rfl

def setO (i : Nat) (f : Dl → Res) : Dl → Out := fun δ => match f δ with
  | .ok d k => (match setS d k with
    | some x => .nx (δ.set i x)
    | none => .no)
  | .er c => .er c δ
  | .no => .no
/-- an expression's value goes on into a statement's end -/
theorem EvS.stm {te : TE} (ev : EvS T Z W te f1) (s : SR T Z H0 A δ σ F fp H) {E : Ends} {R : VK} {o : Out} (h : PostS T Z H0 A W E F o)
    (he : ∀ c, f1 δ = .er c → o = .er c δ) (hn : f1 δ = .no → o = .no) (k : ∀ d kd v F' H', f1 δ = .ok d kd → Grow F H F' H' → ResR T A F' H' H kd v d → R v H') : te σ H R := by
  refine ev H0 A δ σ F fp H R s ?_
  cases hf : f1 δ with
  | ok d kd => exact fun v F' H' g r => k d kd v F' H' hf g r
  | er c =>
    rw [he c hf] at h
    exact fun F' H' g => h σ F' fp H' g.ff (s.grow g)
  | no =>
    rw [hn hf] at h
    exact h
theorem ss_set {te : TE} (ev : EvS T Z W te f1) (i : Nat) : StS T Z W (tAsg te (gName i)) (setO i f1) := by
  intro H0 A δ σ F fp H E s h
  refine ev.stm s h (fun c hc => by unfold setO; rw [hc]) (fun hc => by unfold setO; rw [hc]) fun d kd v F' H' hf g r => ?_
  unfold setO at h
  rw [hf] at h
  simp only at h
  cases hs : setS d kd with
  | none => rw [hs] at h; exact h.elim
  | some x =>
    rw [hs] at h
    obtain ⟨F2, fp2, e, s2⟩ := s.setR g i r hs
    exact h _ F2 fp2 H' e s2
theorem sd_set (i : Nat) {x : Str} (he : PDe X T Z W e f1) (hN : X.N.Nodup) (hi : X.N[i]? = some x := by rfl) (hx : Loc X.env.scope x := by first | exact Or.inl rfl | exact Or.inr rfl) (hs : swapsWith e (some (.Name x pos')) pos.line X.env = pure false := by rfl) (hf : X.fn x = true ∨ X.env.scope.names.lookup x = some .local := by first | exact .inl rfl | exact .inr rfl) :
    PDs X T Z W (.Assign [.Name x pos'] e pos) (setO i f1) := by
  obtain ⟨t, p, ev⟩ := he
  exact ⟨_, ps_set hN hi hx p hs hf, ss_set ev i⟩

/-! ### blocks -/
theorem sd_nil : PDss X T Z W [] .nx := ⟨_, pss_nil, fun H0 A δ σ F fp H E s h => h σ F fp H (Same.refl _) s⟩
theorem StS.seq (h1 : StS T Z W t k1) (h2 : StS T Z W u k2) : StS T Z W (tSeq t u) (fun δ => seqO (k1 δ) k2) := by
  intro H0 A δ σ F fp H E s h
  have h : PostS T Z H0 A W E F (seqO (k1 δ) k2) := h
  refine h1 H0 A δ σ F fp H _ s ?_
  cases hk : k1 δ with
  | nx δ' =>
    rw [hk] at h
    exact fun σ' F' fp' H' e s' => h2 H0 A δ' σ' F' fp' H' E s' (PostS.later h e)
  | rt d => rw [hk] at h; exact h
  | bk δ' => rw [hk] at h; exact h
  | ct δ' => rw [hk] at h; exact h
  | er c δ' => rw [hk] at h; exact h
  | no => rw [hk] at h; exact h
theorem sd_cons (h1 : PDs X T Z W st k1) (h2 : PDss X T Z W rest k2) : PDss X T Z W (st :: rest) (fun δ => seqO (k1 δ) k2) := by
  obtain ⟨t, p, ev⟩ := h1
  obtain ⟨u, q, ew⟩ := h2
  exact ⟨_, pss_cons p q, ev.seq ew⟩
theorem sd_one (h1 : PDs X T Z W st k1) : PDss X T Z W [st] k1 := by
  obtain ⟨t, p, ev⟩ := h1
  exact ⟨_, pss_one p, ev⟩
theorem sd_break : PDs X T Z W (.Break pos) .bk := ⟨_, ps_break, fun H0 A δ σ F fp H E s h => h σ F fp H (Same.refl _) s⟩
theorem sd_cont : PDs X T Z W (.Continue pos) .ct := ⟨_, ps_continue, fun H0 A δ σ F fp H E s h => h σ F fp H (Same.refl _) s⟩
theorem sd_pass : PDs X T Z W (.Pass pos) .nx := ⟨_, ps_pass, fun H0 A δ σ F fp H E s h => h σ F fp H (Same.refl _) s⟩
/-- a never-reached statement -/
theorem sd_never : PDs X T Z W st (fun _ => .no) := ⟨_, ps_never, fun H0 A δ σ F fp H E s h => h.elim⟩
def ifO (p : Dl → ResB) (k1 k2 : Dl → Out) : Dl → Out := fun δ => match p δ with
  | .ok true => k1 δ
  | .ok false => k2 δ
  | .er c => .er c δ
  | .no => .no
theorem sd_if {sa sb : List Stmt} (hc : PDt X T Z W c p1) (ha : PDss X T Z W sa k1) (hb : PDss X T Z W sb k2) : PDs X T Z W (.If c sa sb pos) (ifO p1 k1 k2) := by
  obtain ⟨tc, pc, ec⟩ := hc
  obtain ⟨ta, pa, ea⟩ := ha
  obtain ⟨tb, pb, eb⟩ := hb
  refine ⟨_, ps_if pc pa pb, ?_⟩
  intro H0 A δ σ F fp H E s h
  refine ec H0 A δ σ F fp H _ s ?_
  unfold ifO at h
  cases hp : p1 δ with
  | ok b =>
    rw [hp] at h
    intro F' H' g
    cases b with
    | true => exact iteT (ea H0 A δ σ F' fp H' E (s.grow g) (h.later g.ff))
    | false => exact iteF (eb H0 A δ σ F' fp H' E (s.grow g) (h.later g.ff))
  | er c => rw [hp] at h; exact fun F' H' g => h σ F' fp H' g.ff (s.grow g)
  | no => rw [hp] at h; exact h
def retO (f : Dl → Res) : Dl → Out := fun δ => match f δ with
  | .ok d k => if stK d k = true then .rt d else .no
  | .er c => .er c δ
  | .no => .no
theorem sd_ret (he : PDe X T Z W e f1) : PDs X T Z W (.Return (some e) pos) (retO f1) := by
  obtain ⟨t, p, ev⟩ := he
  refine ⟨_, ps_ret p, ?_⟩
  intro H0 A δ σ F fp H E s h
  refine ev.stm s h (fun c hc => by unfold retO; rw [hc]) (fun hc => by unfold retO; rw [hc]) fun d kd v F' H' hf g r => ?_
  unfold retO at h
  rw [hf] at h
  simp only at h
  split at h
  · rename_i hk
    have s' := s.grow g
    obtain ⟨F2, e1, e2, e3, r2⟩ := r.share s'.aH s'.fh hk
    refine h v F2 H' s'.h0 e2 (fun a o q => ?_) r2
    rcases e3 a o q with z | z | z
    · exact s'.fn a o z
    · exact .inl (s.h0.free z)
    · exact .inr z
  · exact h.elim
theorem sd_retN : PDs X T Z W (.Return none pos) (fun _ => .rt .non) := by
  refine ⟨_, ps_retN, ?_⟩
  intro H0 A δ σ F fp H E s h
  exact h .non F H s.h0 s.fh s.fn (by rw [Rep])
/-- an expression whose value is dropped -/
def expO (f : Dl → Res) : Dl → Out := fun δ => match f δ with
  | .ok _ _ => .nx δ
  | .er c => .er c δ
  | .no => .no
theorem sd_expr (he : PDe X T Z W e f1) (hs : swapsWith e none pos.line X.env = pure false := by rfl) : PDs X T Z W (.Expr e pos) (expO f1) := by
  obtain ⟨t, p, ev⟩ := he
  refine ⟨_, ps_expr p hs, ?_⟩
  intro H0 A δ σ F fp H E s h
  refine ev.stm s h (fun c hc => by unfold expO; rw [hc]) (fun hc => by unfold expO; rw [hc]) fun d kd v F' H' hf g r => ?_
  unfold expO at h
  rw [hf] at h
  exact h σ F' fp H' g.ff (s.grow g)
/-- raise X('..') -/
def raiO (c : Ex) : Dl → Out := fun δ => .er c δ
theorem sd_raise {x : Ex} {ec : Expr} (hc : X.calm = true) (tk : Takes X W) (hm : PMk X ec (fun _ H Q => Q (.ref (T.cx x)) none H)) : PDs X T Z W (.Raise (some ec) none pos) (raiO x) := by
  refine ⟨_, ps_raise hc tk hm, ?_⟩
  intro H0 A δ σ F fp H E s h
  exact h σ F fp H (Same.refl _) s

/-! ### a slot is shared from now on (nothing is run) -/
def frzS : Slot → Slot
  | .ow d => .sh d
  | .dp d => .sh d
  | x => x
def frzO (is : List Nat) (δ : Dl) : Dl := is.foldl (fun δ i => match δ[i]? with
  | some x => δ.set i (frzS x)
  | none => δ) δ
theorem SR.frz1 (s : SR T Z H0 A δ σ F fp H) (i : Nat) {x : Slot} (e : δ[i]? = some x) : ∃ F' fp', Same F F' ∧ SR T Z H0 A (δ.set i (frzS x)) σ F' fp' H := by
  have same : δ.set i x = δ := by
    apply List.ext_getElem?
    intro j
    by_cases hj : i = j
    · subst hj; rw [List.getElem?_set_self (List.getElem?_eq_some_iff.mp e).1, e]
    · rw [List.getElem?_set_ne hj]
  obtain ⟨o, h1, h2⟩ := s.sl i x e
  have sσ : ∀ v, o = some v → σ.set i (some v) = σ := fun v hv => by
    apply List.ext_getElem?
    intro j
    by_cases hj : i = j
    · subst hj; rw [List.getElem?_set_self (List.getElem?_eq_some_iff.mp h1).1, h1, hv]
    · rw [List.getElem?_set_ne hj]
  -- sharing cells of the slot's own
  have share : ∀ (G : Hp) (v : V) (d : D), o = some v → Same G H → (∀ a u, G a = some u → isTup u ∨ fp i a) → Rep T (hun F G) v d → ∃ F' fp', Same F F' ∧ SR T Z H0 A (δ.set i (.sh d)) σ F' fp' H := by
    intro G v d hv hG hn r
    refine ⟨hun F G, fun j => if j = i then (fun _ => False) else fp j, hun_l, ?_⟩
    refine ⟨s.h0, s.ah, hun_in s.fh hG, fun a u q => ?_, fun j a h => ?_, fun j k a q1 q2 => ?_, fun j y q => ?_, by simp [s.len]⟩
    · rcases hun_inv q with q | q
      · exact s.fn a u q
      · rcases hn a u q with z | z
        · exact .inr z
        · exact .inl (s.own i a z).2.1
    · by_cases hj : j = i
      · simp only [hj, if_true] at h
      · simp only [hj, if_false] at h
        obtain ⟨q1, q2, u, q3, q4⟩ := s.own j a h
        refine ⟨?_, q2, u, q3, q4⟩
        cases q : hun F G a with
        | none => rfl
        | some w =>
          rcases hun_inv q with q | q
          · rw [q1] at q; cases q
          · rcases hn a w q with z | z
            · have := hG a w q
              rw [q3] at this
              cases this
              exact absurd z q4
            · exact absurd (s.sep j i a h z) hj
    · by_cases hj : j = i
      · simp only [hj, if_true] at q1
      · by_cases hk : k = i
        · simp only [hk, if_true] at q2
        · simp only [hj, if_false] at q1
          simp only [hk, if_false] at q2
          exact s.sep j k a q1 q2
    · by_cases hj : i = j
      · subst hj
        rw [List.getElem?_set_self (List.getElem?_eq_some_iff.mp e).1] at q
        cases q
        exact ⟨o, h1, v, hv, r⟩
      · rw [List.getElem?_set_ne hj] at q
        obtain ⟨w, q1, q2⟩ := s.sl j y q
        refine ⟨w, q1, ?_⟩
        simp only [Ne.symm hj, if_false]
        cases y with
        | un => trivial
        | sh d => obtain ⟨v, e1, r⟩ := q2; exact ⟨v, e1, r.mono hun_l⟩
        | bo d => exact q2
        | ow d => obtain ⟨p, e1, hf, r⟩ := q2; exact ⟨p, e1, hf, r.mono hun_l rfl⟩
        | dp d => exact q2
        | an d => exact q2
        | ex c => exact q2
  cases x with
  | ow d =>
    obtain ⟨p, hv, hf, r⟩ := h2
    obtain ⟨u, hu, hnt⟩ := r.cell
    have hFp := (s.own i p hf).1
    refine share (fun a => if a = p then some u else none) _ d hv (fun a w q => ?_) (fun a w q => ?_) ?_
    · by_cases ha : a = p
      · simp only [ha, if_true, Option.some.injEq] at q; subst q; rw [ha]; exact hu
      · simp only [ha, if_false] at q; cases q
    · by_cases ha : a = p
      · rw [ha]; exact .inr hf
      · simp only [ha, if_false] at q; cases q
    · refine r.rep hun_l ?_
      unfold hun
      rw [hFp, hu]
      simp
  | dp d =>
    obtain ⟨v, hv, G, q1, q2, r⟩ := h2
    exact share G v d hv q1 q2 (r.mono (hun_r s.fh q1))
  | _ => exact ⟨F, fp, Same.refl _, by simp only [frzS]; rw [same]; exact s⟩
theorem SR.frz (is : List Nat) : ∀ {δ : Dl} {F : Hp} {fp : Nat → Addr → Prop}, SR T Z H0 A δ σ F fp H → ∃ F' fp', Same F F' ∧ SR T Z H0 A (frzO is δ) σ F' fp' H := by
  induction is with
  | nil => intro δ F fp s; exact ⟨F, fp, Same.refl _, s⟩
  | cons i is ih =>
    intro δ F fp s
    unfold frzO
    rw [List.foldl_cons]
    cases e : δ[i]? with
    | none => exact ih s
    | some x =>
      obtain ⟨F1, fp1, e1, s1⟩ := s.frz1 i e
      obtain ⟨F2, fp2, e2, s2⟩ := ih s1
      exact ⟨F2, fp2, e1.trans e2, s2⟩
/-- ahead of a statement some slots are shared -/
theorem StS.frz (is : List Nat) (h1 : StS T Z W t k1) : StS T Z W t (fun δ => k1 (frzO is δ)) := by
  intro H0 A δ σ F fp H E s h
  obtain ⟨F', fp', e, s'⟩ := s.frz is
  exact h1 H0 A _ σ F' fp' H E s' (PostS.later h e)
theorem sd_frz (is : List Nat) (h : PDs X T Z W st k1) : PDs X T Z W st (fun δ => k1 (frzO is δ)) := by
  obtain ⟨t, p, ev⟩ := h
  exact ⟨t, p, ev.frz is⟩
end
end
end DD

set_option maxRecDepth 100000
namespace DD
noncomputable section
open PySem L2

def noAn (δ : Dl) : Bool := δ.all fun x => match x with
  | .an _ => false
  | _ => true
section
variable {X : Cx} {T : Par} {Z : Hd} {W : WX} {H0 A : Hp} {δ : Dl} {σ : L2.St} {F H F' H' : Hp} {fp : Nat → Addr → Prop}
theorem noAn_get {i : Nat} {d : D} (h : noAn δ = true) (e : δ[i]? = some (.an d)) : False := by
  unfold noAn at h
  rw [List.all_eq_true] at h
  have := h _ (List.mem_of_getElem? e)
  cases this
/-- one cell changes -/
theorem SR.mut (s : SR T Z H0 A δ σ F fp H) {p : Addr} {o o' : HO} {δ' : Dl} (hp : H p = some o) (ho : ¬ isTup o) (ho' : ¬ isTup o') (hF : F p = none) (h0 : H0 p = none) (hl : δ'.length = δ.length)
    (hsl : ∀ (j : Nat) y, δ'[j]? = some y → (δ[j]? = some y ∧ ¬ fp j p ∧ ∀ d, y ≠ .an d) ∨ ∃ w, σ[j]? = some w ∧ SlotR T Z A F (upd H p o') (fp j) y w) : SR T Z H0 A δ' σ F fp (upd H p o') := by
  have keep : ∀ {a u}, a ≠ p → H a = some u → upd H p o' a = some u := fun {a u} n e => by rw [upd_ne n]; exact e
  refine ⟨fun a u e => keep (ne_of_none e h0) (s.h0 a u e), s.ah, fun a u e => keep (ne_of_none e hF) (s.fh a u e), s.fn, fun i a h => ?_, s.sep, fun j y e => ?_, by rw [hl]; exact s.len⟩
  · obtain ⟨q1, q2, u, q3, q4⟩ := s.own i a h
    by_cases ha : a = p
    · exact ⟨q1, q2, o', by rw [ha]; exact upd_same, ho'⟩
    · exact ⟨q1, q2, u, keep ha q3, q4⟩
  · rcases hsl j y e with ⟨e1, n1, n2⟩ | h
    · obtain ⟨w, h1, h2⟩ := s.sl j y e1
      refine ⟨w, h1, ?_⟩
      cases y with
      | un => trivial
      | sh d => exact h2
      | bo d => exact h2
      | ow d =>
        obtain ⟨q, e2, hf, r⟩ := h2
        have hq : q ≠ p := fun z => n1 (by rw [← z]; exact hf)
        exact ⟨q, e2, hf, r.mono (Same.refl _) (upd_ne hq)⟩
      | dp d =>
        obtain ⟨v, e2, G, g1, g2, r⟩ := h2
        refine ⟨v, e2, G, fun a u q => ?_, g2, r⟩
        refine keep (fun z => ?_) (g1 a u q)
        subst z
        rcases g2 a u q with t | t
        · have := g1 a u q
          rw [hp] at this; cases this
          exact ho t
        · exact n1 t
      | an d => exact absurd rfl (n2 d)
      | ex c => exact h2
    · exact h
/-- a slot is forgotten -/
theorem SR.unset (s : SR T Z H0 A δ σ F fp H) (i : Nat) : SR T Z H0 A (δ.set i .un) (σ.set i none) F fp H := by
  refine ⟨s.h0, s.ah, s.fh, s.fn, s.own, s.sep, fun j y e => ?_, by simp [s.len]⟩
  by_cases hj : i = j
  · subst hj
    have hlt : i < δ.length := by simpa using (List.getElem?_eq_some_iff.mp e).1
    rw [List.getElem?_set_self hlt] at e
    cases e
    exact ⟨none, List.getElem?_set_self (by rw [s.len]; exact hlt), trivial⟩
  · rw [List.getElem?_set_ne hj] at e ⊢
    exact s.sl j y e
/-- a slot holds anything for a while -/
theorem SR.setAn (s : SR T Z H0 A δ σ F fp H) (i : Nat) {v : V} {d : D} (hu : δ[i]? = some .un ∨ δ[i]? = none) (r : Rep T H v d) : SR T Z H0 A (δ.set i (.an d)) (σ.set i (some v)) F fp H := by
  refine ⟨s.h0, s.ah, s.fh, s.fn, s.own, s.sep, fun j y e => ?_, by simp [s.len]⟩
  by_cases hj : i = j
  · subst hj
    have hlt : i < δ.length := by simpa using (List.getElem?_eq_some_iff.mp e).1
    rw [List.getElem?_set_self hlt] at e
    cases e
    exact ⟨some v, List.getElem?_set_self (by rw [s.len]; exact hlt), v, rfl, r⟩
  · rw [List.getElem?_set_ne hj] at e ⊢
    exact s.sl j y e
theorem SR.setSh (s : SR T Z H0 A δ σ F fp H) (i : Nat) {v : V} {x : Slot} (hx : SlotR T Z A F H (fun _ => False) x (some v)) : SR T Z H0 A (δ.set i x) (σ.set i (some v)) F (fun j => if j = i then (fun _ => False) else fp j) H :=
  s.put i (S := fun _ => False) (fun _ z => z.elim) (fun _ _ _ _ z => z) hx
end

/-! ### what is walked -/
structure ItS (T : Par) (J : It) (B : Hp) (items : List D) : Prop where
  go : ∀ i H, Same B H → i < items.length → J.go i H
  yld : ∀ i H x H', Same B H → J.yld i H x H' → H' = H ∧ ∀ d, items[i]? = some d → Rep T B x d
  stop : ∀ i H, Same B H → items.length ≤ i → J.stop i H
inductive ItR where
  | ok (items : List D) (k : Kd) | er (c : Ex) | no
def baseOk (A F B : Hp) : Kd → Prop
  | .st => Same B F
  | .bw => Same B A
  | _ => True
def PostI (T : Par) (A F H : Hp) (W : WX) (σ : L2.St) (R : It → Hp → Prop) : ItR → Prop
  | .ok items k => ∀ J B F' H', Grow F H F' H' → Same B H' → baseOk A F' B k → ItS T J B items → R J H'
  | .er c => ∀ F' H', Grow F H F' H' → W (.ref (T.cx c)) none σ H'
  | .no => False
def EvI (T : Par) (Z : Hd) (W : WX) (t : TI) (f : Dl → ItR) : Prop := ∀ H0 A δ σ F fp H (R : It → Hp → Prop), SR T Z H0 A δ σ F fp H → PostI T A F H W σ R (f δ) → t σ H R
def PDi (X : Cx) (T : Par) (Z : Hd) (W : WX) (tg iter : Expr) (f : Dl → ItR) : Prop := ∃ wi, PI X tg iter wi ∧ EvI T Z W wi f
def noH : Hp := fun _ => none
theorem noH_same {H : Hp} : Same noH H := fun _ _ e => nomatch e
section
variable {X : Cx} {T : Par} {Z : Hd} {W : WX} {tg e a b c : Expr} {f1 f2 f3 : Dl → Res} {fa : Dl → ResA} {p pos : Pos}
def lstI (f : Dl → Res) : Dl → ItR := fun δ => match f δ with
  | .ok (.lst ds) k => .ok ds (kIx (.lst ds) k)
  | .er c => .er c
  | _ => .no
def tupI (f : Dl → Res) : Dl → ItR := fun δ => match f δ with
  | .ok (.tup ds) k => .ok ds (kIx (.tup ds) k)
  | .er c => .er c
  | _ => .no
theorem its_list {K : PySem.W.Frag} {B : Hp} {q : Addr} {vs : List V} {ds : List D} (h : B q = some (.lst vs)) (r : Reps T B vs ds) : ItS T (Itl K q) B ds where
  go := fun i H hB hi => by
    have hi' : i < vs.length := by rw [r.length]; exact hi
    exact ⟨vs, vs[i], SqL.of (hB _ _ h), List.getElem?_eq_getElem hi'⟩
  yld := fun i H x H' hB y => ⟨y.1, fun d e => by
    obtain ⟨v, h1, h2⟩ := r.get e
    have := y.2 vs (SqL.of (hB _ _ h))
    rw [h1] at this; cases this
    exact h2⟩
  stop := fun i H hB hi => ⟨vs, SqL.of (hB _ _ h), by rw [r.length]; exact hi⟩
theorem its_tup {K : PySem.W.Frag} {B : Hp} {q : Addr} {vs : List V} {ds : List D} (h : B q = some (.tup vs)) (r : Reps T B vs ds) : ItS T (Itt K q) B ds where
  go := fun i H hB hi => by
    have hi' : i < vs.length := by rw [r.length]; exact hi
    exact ⟨vs, vs[i], SqT.of (hB _ _ h), List.getElem?_eq_getElem hi'⟩
  yld := fun i H x H' hB y => ⟨y.1, fun d e => by
    obtain ⟨v, h1, h2⟩ := r.get e
    have := y.2 vs (SqT.of (hB _ _ h))
    rw [h1] at this; cases this
    exact h2⟩
  stop := fun i H hB hi => ⟨vs, SqT.of (hB _ _ h), by rw [r.length]; exact hi⟩
/-- a base for a result -/
theorem ResR.base {A F H F' H' : Hp} {k : Kd} {v : V} {d : D} (r : ResR T A F' H' H k v d) (g : Grow F H F' H') (hA : Same A H') : ∃ B F2, Grow F H F2 H' ∧ Same B H' ∧ baseOk A F2 B (kIx d k) ∧ Rep T B v d := by
  unfold kIx
  by_cases hk : stK d k = true
  · obtain ⟨F2, e1, e2, e3, r2⟩ := r.share hA g.fh hk
    rw [if_pos hk]
    exact ⟨F2, F2, ⟨g.ff.trans e1, g.hh, e2, fun a o q => by
      rcases e3 a o q with z | z | z
      · exact g.nw a o z
      · exact .inr (.inl z)
      · exact .inr (.inr z)⟩, e2, Same.refl _, r2⟩
  · rw [if_neg hk]
    cases k with
    | any => exact ⟨H', F', g, Same.refl _, trivial, r⟩
    | bw => exact ⟨A, F', g, hA, Same.refl _, r⟩
    | st => exact absurd rfl hk
    | tp => exact absurd rfl hk
    | dp => exact absurd rfl hk
theorem id_list (he : PDe X T Z W e f1) (hK : X.K = T.K := by rfl) : PDi X T Z W tg e (lstI f1) := by
  obtain ⟨t, pe, ev⟩ := he
  refine ⟨_, pi_list pe, ?_⟩
  rw [hK]
  intro H0 A δ σ F fp H R s h
  refine ev H0 A δ σ F fp H _ s ?_
  unfold lstI at h
  cases hf : f1 δ with
  | no => rw [hf] at h; exact h.elim
  | er c => rw [hf] at h; exact h
  | ok d k =>
    rw [hf] at h
    cases d with
    | lst ds =>
      intro v F' H' g r
      have s1 := s.grow g
      obtain ⟨B, F2, g2, hB, hb, rB⟩ := r.base g s1.aH
      rw [Rep] at rB
      obtain ⟨q, vs, rfl, e1, e2⟩ := rB
      exact ⟨q, rfl, ⟨vs, SqL.of (hB _ _ e1)⟩, h _ B F2 H' g2 hB hb (its_list e1 e2)⟩
    | _ => exact h.elim
theorem id_tup (he : PDe X T Z W e f1) (hK : X.K = T.K := by rfl) : PDi X T Z W tg e (tupI f1) := by
  obtain ⟨t, pe, ev⟩ := he
  refine ⟨_, pi_tup pe, ?_⟩
  rw [hK]
  intro H0 A δ σ F fp H R s h
  refine ev H0 A δ σ F fp H _ s ?_
  unfold tupI at h
  cases hf : f1 δ with
  | no => rw [hf] at h; exact h.elim
  | er c => rw [hf] at h; exact h
  | ok d k =>
    rw [hf] at h
    cases d with
    | tup ds =>
      intro v F' H' g r
      have s1 := s.grow g
      obtain ⟨B, F2, g2, hB, hb, rB⟩ := r.base g s1.aH
      rw [Rep] at rB
      obtain ⟨q, vs, rfl, e1, e2⟩ := rB
      exact ⟨q, rfl, ⟨vs, SqT.of (hB _ _ e1)⟩, h _ B F2 H' g2 hB hb (its_tup e1 e2)⟩
    | _ => exact h.elim
/-- a text, sign by sign -/
def sgns (s : Str) : List D := s.cps.toList.map fun c => .str ⟨#[c]⟩
def strI (f : Dl → Res) : Dl → ItR := fun δ => match f δ with
  | .ok (.str s) _ => .ok (sgns s) .st
  | .er c => .er c
  | _ => .no
theorem id_str (he : PDe X T Z W e f1) : PDi X T Z W tg e (strI f1) := by
  obtain ⟨t, pe, ev⟩ := he
  refine ⟨_, pi_str pe, ?_⟩
  intro H0 A δ σ F fp H R s h
  refine ev H0 A δ σ F fp H _ s ?_
  unfold strI at h
  cases hf : f1 δ with
  | no => rw [hf] at h; exact h.elim
  | er c => rw [hf] at h; exact h
  | ok d k =>
    rw [hf] at h
    cases d with
    | str z =>
      intro v F' H' g r
      have s1 := s.grow g
      have rv := r.rep s1.aH s1.fh
      rw [Rep] at rv
      refine ⟨z, rv, h _ noH F' H' g noH_same noH_same ⟨fun i H _ hi => ?_, fun i H x H' _ y => ⟨y.1, fun d e => ?_⟩, fun i H _ hi => ?_⟩⟩
      · show i < z.cps.size
        simpa [sgns] using hi
      · obtain ⟨c, h1, h2⟩ := y.2
        subst h2
        simp only [sgns, List.getElem?_map, Option.map_eq_some_iff] at e
        obtain ⟨c', e1, e2⟩ := e
        subst e2
        rw [Rep]
        have : z.cps.toList[i]? = some c := by rw [Array.getElem?_toList]; exact h1
        rw [this] at e1; cases e1
        rfl
      · show z.cps.size ≤ i
        simpa [sgns] using hi
    | _ => exact h.elim
/-- whole numbers from lo on, n of them, by c -/
def rng (lo c : Int) (n : Nat) : List D := (List.range n).map fun i => .int (lo + (i : Nat) * c)
noncomputable def smallR (i : Int) : Bool := @decide (-(2 ^ 62) ≤ i) (Classical.propDecidable _) && @decide (i < 2 ^ 62) (Classical.propDecidable _)
def rng1I (f : Dl → Res) : Dl → ItR := fun δ => match f δ with
  | .ok (.int j) _ => if smallR j = true then .ok (rng 0 1 j.toNat) .st else .no
  | .er c => .er c
  | _ => .no
def rng2I (f g : Dl → Res) : Dl → ItR := fun δ => match f δ with
  | .ok (.int i) _ => (match g δ with
    | .ok (.int j) _ => if smallR i = true ∧ smallR j = true then .ok (rng i 1 (j - i).toNat) .st else .no
    | .er c => .er c
    | _ => .no)
  | .er c => .er c
  | _ => .no
theorem its_rng {lo : Int} {n : Nat} : ItS T (Itr lo n) noH (rng lo 1 n) := by
  refine ⟨fun i H _ hi => ?_, fun i H x H' _ y => ⟨y.1, fun d e => ?_⟩, fun i H _ hi => ?_⟩
  · show i < n
    simpa [rng] using hi
  · have := y.2
    subst this
    simp only [rng, List.getElem?_map, Option.map_eq_some_iff] at e
    obtain ⟨j, e1, e2⟩ := e
    subst e2
    rw [Rep]
    have hj : j = i := by
      have := List.getElem?_eq_some_iff.mp e1
      obtain ⟨h1, h2⟩ := this
      simpa using h2.symm
    subst hj
    rw [Int.mul_one]
  · show n ≤ i
    simpa [rng] using hi
theorem id_range1 (ha : PDe X T Z W a f1) (hm : X.mg "range" = none) (hg : Gl X "range" := by rfl) (hs : starEach [a] X.env = [(false, eval a X.env)] := by rfl) : PDi X T Z W tg (.Call (.Name "range" p) [a] [] pos) (rng1I f1) := by
  obtain ⟨t, pe, ev⟩ := ha
  refine ⟨_, pi_range1 hg hm (pa_cons pe pa_nil hs) hs, ?_⟩
  intro H0 A δ σ F fp H R s h
  refine ev H0 A δ σ F fp H _ s ?_
  unfold rng1I at h
  cases hf : f1 δ with
  | no => rw [hf] at h; exact h.elim
  | er c => rw [hf] at h; exact h
  | ok d k =>
    rw [hf] at h
    cases d with
    | int j =>
      intro v F' H' g r
      have s1 := s.grow g
      have rv := r.rep s1.aH s1.fh
      rw [Rep] at rv
      subst rv
      simp only at h
      split at h
      · rename_i hj
        simp only [smallR, Bool.and_eq_true, decide_eq_true_eq] at hj
        exact ⟨j, rfl, hj.1, hj.2, h _ noH F' H' g noH_same noH_same its_rng⟩
      · exact h.elim
    | _ => exact h.elim
theorem id_range2 (ha : PDe X T Z W a f1) (hb : PDe X T Z W b f2) (hm : X.mg "range" = none) (hg : Gl X "range" := by rfl) (hs : starEach [a, b] X.env = [(false, eval a X.env), (false, eval b X.env)] := by rfl) (hs2 : starEach [b] X.env = [(false, eval b X.env)] := by rfl) :
    PDi X T Z W tg (.Call (.Name "range" p) [a, b] [] pos) (rng2I f1 f2) := by
  obtain ⟨t, pe, ev⟩ := ha
  obtain ⟨u, pe2, ev2⟩ := hb
  refine ⟨_, pi_range2 hg hm (pa_cons pe (pa_cons pe2 pa_nil hs2) (by rw [hs, hs2])) hs hs2, ?_⟩
  intro H0 A δ σ F fp H R s h
  refine ev H0 A δ σ F fp H _ s ?_
  unfold rng2I at h
  cases hf : f1 δ with
  | no => rw [hf] at h; exact h.elim
  | er c => rw [hf] at h; exact h
  | ok d k =>
    rw [hf] at h
    cases d with
    | int i =>
      intro v F' H' g r
      have s1 := s.grow g
      have rv := r.rep s1.aH s1.fh
      rw [Rep] at rv
      subst rv
      simp only at h
      refine ev2 H0 A δ σ F' fp H' _ s1 ?_
      cases hf2 : f2 δ with
      | no => rw [hf2] at h; exact h.elim
      | er c => rw [hf2] at h; exact fun F2 H2 g2 => h F2 H2 (g.trans g2)
      | ok d2 k2 =>
        rw [hf2] at h
        cases d2 with
        | int j =>
          intro w F2 H2 g2 r2
          have s2 := s1.grow g2
          have rw' := r2.rep s2.aH s2.fh
          rw [Rep] at rw'
          subst rw'
          simp only at h
          split at h
          · rename_i hj
            simp only [smallR, Bool.and_eq_true, decide_eq_true_eq] at hj
            exact ⟨i, j, rfl, ⟨hj.1.1, hj.1.2, hj.2.1, hj.2.2⟩, h _ noH F2 H2 (g.trans g2) noH_same noH_same its_rng⟩
          · exact h.elim
        | _ => exact h.elim
    | _ => exact h.elim
end

/-! ### list comprehensions -/
def compL (i : Nat) (p : Dl → ResB) (f : Dl → Res) (δ : Dl) : List D → List D → Option (List D)
  | [], acc => some acc
  | d :: ds, acc => match p (δ.set i (.an d)) with
    | .ok true => (match f (δ.set i (.an d)) with
      | .ok x k => if stK x k = true ∧ acc.length < sizeLine then compL i p f δ ds (acc ++ [x]) else none
      | _ => none)
    | .ok false => compL i p f δ ds acc
    | _ => none
def compR (it : Dl → ItR) (i : Nat) (p : Dl → ResB) (f : Dl → Res) : Dl → Res := fun δ => match it δ with
  | .ok items _ => if noAn (δ.set i .un) = true then (match compL i p f (δ.set i .un) items [] with
    | some acc => .ok (.lst acc) .tp
    | none => .no) else .no
  | .er c => .er c
  | .no => .no
def noW : WX := fun _ _ _ _ => False
section
variable {X : Cx} {T : Par} {Z : Hd} {W : WX} {tg e a b c elt iter : Expr} {f1 f2 f3 fe : Dl → Res} {fi : Dl → ItR} {ft : Dl → ResB} {p pos : Pos} {ifs : List Expr}
theorem wipe_set {σ : L2.St} {i : Nat} {x : Option V} : wipe ((wipe σ [i]).set i x) [i] = wipe σ [i] := by
  simp [wipe]
/-- the reading of a comprehension, its parts told -/
theorem ev_lc {wi : TI} {tt : TT} {te : TE} (i : Nat) (ei : EvI T Z W wi fi) (et : EvB T Z noW tt ft) (ee : EvS T Z noW te fe) : EvS T Z W (tLc wi (gName i) tt te [i]) (compR fi i ft fe) := by
  intro H0 A δ σ F fp H Q s h
  refine ei H0 A δ σ F fp H _ s ?_
  unfold compR at h
  cases hf : fi δ with
  | no => rw [hf] at h; exact h.elim
  | er c => rw [hf] at h; exact h
  | ok items k =>
    rw [hf] at h
    simp only at h
    split at h
    case isFalse => exact h.elim
    rename_i hna
    cases hc : compL i ft fe (δ.set i .un) items [] with
    | none => rw [hc] at h; exact h.elim
    | some fin =>
      rw [hc] at h
      intro J B F1 H1 g1 hB hb its D hD
      have s1 := (s.grow g1).unset i
      have hBD : B D = none := hB.free hD
      -- between two turns
      refine ⟨fun j m H2 => m = items.length - j ∧ j ≤ items.length ∧ ∃ F2 vs acc, SR T Z H0 A (δ.set i .un) (σ.set i none) F2 fp H2 ∧ Grow F1 H1 F2 H2 ∧ F2 D = none ∧ H2 D = some (.lst vs) ∧ Reps T F2 vs acc ∧
        compL i ft fe (δ.set i .un) (items.drop j) acc = some fin, ⟨items.length, by simp, Nat.zero_le _, F1, [], [], ?_, Grow.cell g1.fh hD, g1.fh.free hD, upd_same, by simp [Reps], by simpa using hc⟩, ?_⟩
      · exact s1.grow (Grow.cell g1.fh hD)
      · rintro j m H2 ⟨rfl, hj, F2, vs, acc, s2, g2, hF2, hH2, r2, c2⟩
        have hB2 : Same B H2 := hB.trans g2.hh
        by_cases hlt : j < items.length
        · refine .inr ⟨its.go j H2 hB2 hlt, fun H3 => ∃ F3 vs3 acc3, SR T Z H0 A (δ.set i .un) (σ.set i none) F3 fp H3 ∧ Grow F1 H1 F3 H3 ∧ F3 D = none ∧ H3 D = some (.lst vs3) ∧ Reps T F3 vs3 acc3 ∧
            compL i ft fe (δ.set i .un) (items.drop (j + 1)) acc3 = some fin, fun H3 ⟨F3, vs3, acc3, q⟩ => ⟨items.length - (j + 1), by omega, rfl, hlt, F3, vs3, acc3, q⟩, fun x H3 y => ?_⟩
          obtain ⟨e1, e2⟩ := its.yld j H2 x H3 hB2 y
          subst e1
          have e3 := e2 _ (List.getElem?_eq_getElem hlt)
          have ed : items.drop j = items[j] :: items.drop (j + 1) := (List.drop_eq_getElem_cons hlt)
          rw [ed] at c2
          unfold compL at c2
          have s3 : SR T Z H0 A ((δ.set i .un).set i (.an items[j])) ((σ.set i none).set i (some x)) F2 fp H3 := s2.setAn i (by
            by_cases hi : i < δ.length
            · exact .inl (List.getElem?_set_self hi)
            · exact .inr (by rw [List.getElem?_eq_none]; simpa using hi)) (e3.mono hB2)
          show (wipe ((wipe σ [i]).set i (some x)) [i] = wipe σ [i]) ∧ tt _ _ _
          refine ⟨wipe_set, ?_⟩
          refine et H0 A _ _ F2 fp H3 _ s3 ?_
          have back : ∀ {F4 H4}, Grow F2 H3 F4 H4 → SR T Z H0 A (δ.set i .un) (σ.set i none) F4 fp H4 := fun g4 => s2.grow g4
          cases ht : ft ((δ.set i .un).set i (.an items[j])) with
          | no => rw [ht] at c2; cases c2
          | er c => rw [ht] at c2; cases c2
          | ok bb =>
            rw [ht] at c2
            cases bb with
            | false =>
              intro F4 H4 g4
              refine iteF ?_
              exact ⟨F4, vs, acc, back g4, g2.trans g4, g4.own hF2 hH2 (fun ⟨_, z⟩ => nomatch z), g4.hh _ _ hH2, r2.mono g4.ff, c2⟩
            | true =>
              intro F4 H4 g4
              refine iteT ?_
              refine ee H0 A _ _ F4 fp H4 _ (s3.grow g4) ?_
              simp only at c2
              cases he : fe ((δ.set i .un).set i (.an items[j])) with
              | no => rw [he] at c2; cases c2
              | er c => rw [he] at c2; cases c2
              | ok xd kd =>
                rw [he] at c2
                simp only at c2
                split at c2
                case isFalse => cases c2
                rename_i hk
                intro v F5 H5 g5 r5
                have s5 := (s3.grow g4).grow g5
                obtain ⟨F6, q1, q2, q3, r6⟩ := r5.share s5.aH s5.fh hk.1
                have g46 : Grow F2 H3 F6 H5 := ⟨(g4.ff.trans g5.ff).trans q1, g4.hh.trans g5.hh, q2, fun a o q => by
                  rcases q3 a o q with z | z | z
                  · exact (g4.trans g5).nw a o z
                  · exact .inr (.inl (g4.hh.free z))
                  · exact .inr (.inr z)⟩
                have s6 := back g46
                have hH5 : H5 D = some (.lst vs) := g46.hh _ _ hH2
                have hF6 : F6 D = none := g46.own hF2 hH2 (fun ⟨_, z⟩ => nomatch z)
                have hH0 : H0 D = none := s.h0.free (g1.hh.free hD)
                have hfp : ∀ jj, ¬ fp jj D := fun jj z => by
                  obtain ⟨_, _, o, w, _⟩ := s.own jj D z
                  rw [g1.hh.free hD] at w; cases w
                refine ⟨vs, hH5, by rw [r2.length]; exact hk.2, F6, vs ++ [v], acc ++ [xd], ?_, ?_, hF6, upd_same, (r2.mono g46.ff).append (by simp [Reps, r6]), c2⟩
                · refine s6.mut (o := .lst vs) hH5 (fun ⟨_, z⟩ => nomatch z) (fun ⟨_, z⟩ => nomatch z) hF6 hH0 rfl fun jj y ey => .inl ⟨ey, hfp jj, fun d z => ?_⟩
                  subst z
                  exact noAn_get hna ey
                · have gg := g2.trans g46
                  refine ⟨gg.ff, fun a o q => ?_, fun a o q => ?_, gg.nw⟩
                  · rw [upd_ne (ne_of_none q hD)]; exact gg.hh _ _ q
                  · rw [upd_ne (ne_of_none q hF6)]; exact gg.fh _ _ q
        · have e : j = items.length := by omega
          subst e
          refine .inl ⟨its.stop _ H2 hB2 (Nat.le_refl _), ?_⟩
          rw [List.drop_length] at c2
          unfold compL at c2
          cases c2
          refine h (.ref D) F2 H2 (g1.trans g2) ⟨D, rfl, hF2, g1.hh.free hD, vs, hH2, r2⟩
/-- for all blocks one reading -/
theorem ev_all {ι : Type} {f : Dl → Res} {Y : ι → Cx} {e : Expr} (h : ∀ i, PDe (Y i) T Z W e f) : ∃ t, (∀ i, PE (Y i) e t) ∧ EvS T Z W t f :=
  ⟨fun σ H Q => ∀ i, ∃ t, PE (Y i) e t ∧ t σ H Q, fun i => ⟨fun pins s σ H Q I w => by
    obtain ⟨t, p, q⟩ := w i
    exact p.run pins s σ H Q I q⟩, fun H0 A δ σ F fp H Q s w i => by
    obtain ⟨t, p, ev⟩ := h i
    exact ⟨t, p, ev H0 A δ σ F fp H Q s w⟩⟩
def PDts (X : Cx) (T : Par) (Z : Hd) (W : WX) (ifs : List Expr) (f : Dl → ResB) : Prop := ∃ t, PTs X ifs t ∧ EvB T Z W t f
theorem ev_allB {ι : Type} {f : Dl → ResB} {Y : ι → Cx} {es : List Expr} (h : ∀ i, PDts (Y i) T Z W es f) : ∃ t, (∀ i, PTs (Y i) es t) ∧ EvB T Z W t f :=
  ⟨fun σ H Q => ∀ i, ∃ t, PTs (Y i) es t ∧ t σ H Q, fun i => ⟨fun pins s σ H Q I w => by
    obtain ⟨t, p, q⟩ := w i
    exact p.run pins s σ H Q I q⟩, fun H0 A δ σ F fp H Q s w i => by
    obtain ⟨t, p, ev⟩ := h i
    exact ⟨t, p, ev H0 A δ σ F fp H Q s w⟩⟩
def yesR : Dl → ResB := fun _ => .ok true
theorem td_nil : PDts X T Z W [] yesR := ⟨_, pts_nil, fun H0 A δ σ F fp H Q s h => h F H (Grow.refl s.fh)⟩
theorem td_one {f : Dl → ResB} (h : PDt X T Z W c f) : PDts X T Z W [c] f := by
  obtain ⟨t, p, e⟩ := h
  exact ⟨t, pts_one p, e⟩
/-- the blocks of a comprehension -/
abbrev Blk := Shared × Hp × Addr × List (Str × Addr) × List Addr
abbrev blkX (X : Cx) (scope : Scope) (b : Blk) : Cx := X.blk b.1 b.2.1 scope (compEnvC scope b.2.2.2.1 b.2.2.1 X.env) b.2.2.2.2
theorem pd_lc {x : Str} {scope : Scope} {tpos : Pos} (i : Nat) (hN : X.N.Nodup) (hi : PDi X T Z W (.Name x tpos) iter fi) (ok : BlkOk X.N X.env.scope scope [(x, i)])
    (hg : ∀ b : Blk, PG (blkX X scope b) (.Name x tpos) (gName i)) (ht : ∀ b : Blk, PDts (blkX X scope b) T Z noW ifs ft) (he : ∀ b : Blk, PDe (blkX X scope b) T Z noW elt fe) (hc : X.calm = true := by rfl) (hs : ∀ y, foldedSetIterable iter X.env y = pure y := by intro _; rfl) :
    PDe X T Z W (.ListComp elt [⟨.Name x tpos, iter, ifs, 0⟩] scope pos) (compR fi i ft fe) := by
  obtain ⟨wi, pi, ei⟩ := hi
  obtain ⟨te, pe, ee⟩ := ev_all he
  obtain ⟨tt, pt, et⟩ := ev_allB ht
  exact ⟨_, pe_lc hc hN pi ok (fun s H C cl fp => hg (s, H, C, cl, fp)) (fun s H C cl fp => pt (s, H, C, cl, fp)) (fun s H C cl fp => pe (s, H, C, cl, fp)) hs, ev_lc i ei et ee⟩
/-- y = [..] -/
theorem sd_setLc {x y : Str} {scope : Scope} {tpos py spos : Pos} (j i : Nat) (hN : X.N.Nodup) (hsw : swapsWith (.ListComp elt [⟨.Name x tpos, iter, ifs, 0⟩] scope pos) (some (.Name y py)) spos.line X.env = pure true)
    (hi : PDi X T Z W (.Name x tpos) iter fi) (ok : BlkOk X.N X.env.scope scope [(x, i)])
    (hg : ∀ b : Blk, PG (blkX X scope b) (.Name x tpos) (gName i)) (ht : ∀ b : Blk, PDts (blkX X scope b) T Z noW ifs ft) (he : ∀ b : Blk, PDe (blkX X scope b) T Z noW elt fe) (hy : X.N[j]? = some y := by rfl) (hyl : X.env.scope.names.lookup y = some .local := by rfl) (hc : X.calm = true := by rfl) (hs : ∀ y, foldedSetIterable iter X.env y = pure y := by intro _; rfl) :
    PDs X T Z W (.Assign [.Name y py] (.ListComp elt [⟨.Name x tpos, iter, ifs, 0⟩] scope pos) spos) (setO j (compR fi i ft fe)) := by
  obtain ⟨wi, pi, ei⟩ := hi
  obtain ⟨te, pe, ee⟩ := ev_all he
  obtain ⟨tt, pt, et⟩ := ev_allB ht
  exact ⟨_, ps_setLc hc hN hy hyl hsw pi ok (fun s H C cl fp => hg (s, H, C, cl, fp)) (fun s H C cl fp => pt (s, H, C, cl, fp)) (fun s H C cl fp => pe (s, H, C, cl, fp)) hs, ss_set (ev_lc i ei et ee) j⟩
end
end
end DD

set_option maxRecDepth 100000
namespace DD
noncomputable section
open PySem L2

/-! ### for -/
def itemS (d : D) (k : Kd) : Option Slot := if imm d = true then (match k with
    | .st => some (.sh d)
    | .bw => some (.sh d)
    | _ => none)
  else match k with
    | .st => some (.sh d)
    | .bw => some (.bo d)
    | _ => none
def forL (i : Nat) (k : Kd) (body : Dl → Out) : List D → Dl → Out
  | [], δ => .nx δ
  | d :: ds, δ => match itemS d k with
    | none => .no
    | some x => match body (δ.set i x) with
      | .nx δ' => forL i k body ds δ'
      | .ct δ' => forL i k body ds δ'
      | .bk δ' => .nx δ'
      | .rt d => .rt d
      | .er c δ' => .er c δ'
      | .no => .no
def forO (it : Dl → ItR) (i : Nat) (body : Dl → Out) : Dl → Out := fun δ => match it δ with
  | .ok items k => if k = .st ∨ k = .bw then forL i k body items δ else .no
  | .er c => .er c δ
  | .no => .no
section
variable {X : Cx} {T : Par} {Z : Hd} {W : WX} {H0 A : Hp} {δ : Dl} {σ : L2.St} {F H F' H' : Hp} {fp : Nat → Addr → Prop} {st : Stmt} {rest body : List Stmt} {t u : TS} {e a b c iter : Expr} {f1 f2 f3 : Dl → Res} {fi : Dl → ItR} {fa : Dl → ResA} {p1 : Dl → ResB} {k1 k2 : Dl → Out} {pos pos' : Pos}
theorem SR.item (s : SR T Z H0 A δ σ F fp H) (i : Nat) {k : Kd} {v : V} {d : D} {x : Slot} {B : Hp} (hb : baseOk A F B k) (hk : k ≠ .any) (r : Rep T B v d) (hx : itemS d k = some x) :
    ∃ F' fp', Same F F' ∧ SR T Z H0 A (δ.set i x) (σ.set i (some v)) F' fp' H := by
  have gt := Grow.tups s.fh
  have s2 := s.grow gt
  unfold itemS at hx
  split at hx
  · rename_i hi
    have rH : Rep T H v d := by
      cases k with
      | st => exact (Rep.mono hb r).mono s.fh
      | bw => exact (Rep.mono hb r).mono s.aH
      | _ => cases hx
    have rF : Rep T (hun F (tuF H)) v d := (rH.imm hi).mono (hun_r s.fh (tuF_same H))
    cases k with
    | st => cases hx; exact ⟨_, _, gt.ff, s2.setSh i ⟨v, rfl, rF⟩⟩
    | bw => cases hx; exact ⟨_, _, gt.ff, s2.setSh i ⟨v, rfl, rF⟩⟩
    | _ => cases hx
  · cases k with
    | st => cases hx; exact ⟨F, _, Same.refl _, s.setSh i ⟨v, rfl, Rep.mono hb r⟩⟩
    | bw => cases hx; exact ⟨F, _, Same.refl _, s.setSh i ⟨v, rfl, Rep.mono hb r⟩⟩
    | _ => cases hx
theorem ss_for {wi : TI} {tb : TS} (i : Nat) (ei : EvI T Z W wi fi) (eb : StS T Z W tb k1) : StS T Z W (tFor wi (gName i) tb) (forO fi i k1) := by
  intro H0 A δ σ F fp H E s h
  refine ei H0 A δ σ F fp H _ s ?_
  unfold forO at h
  cases hf : fi δ with
  | no => rw [hf] at h; exact h.elim
  | er c => rw [hf] at h; exact fun F' H' g => h σ F' fp H' g.ff (s.grow g)
  | ok items k =>
    rw [hf] at h
    simp only at h
    split at h
    case isFalse => exact h.elim
    rename_i hk0
    have hk : k ≠ .any := by rintro rfl; rcases hk0 with z | z <;> cases z
    intro J B F1 H1 g1 hB hb its
    have s1 := s.grow g1
    refine ⟨fun j m σ2 H2 => m = items.length - j ∧ j ≤ items.length ∧ ∃ δ2 F2 fp2, SR T Z H0 A δ2 σ2 F2 fp2 H2 ∧ Same F1 F2 ∧ PostS T Z H0 A W E F2 (forL i k k1 (items.drop j) δ2),
      ⟨items.length, by simp, Nat.zero_le _, δ, F1, fp, s1, Same.refl _, by simpa using h.later g1.ff⟩, ?_⟩
    rintro j m σ2 H2 ⟨rfl, hj, δ2, F2, fp2, s2, e2, h2⟩
    have hb2 : baseOk A F2 B k := by
      cases k with
      | st => exact Same.trans hb e2
      | bw => exact hb
      | _ => trivial
    have hB2 : Same B H2 := by
      cases k with
      | st => exact Same.trans hb2 s2.fh
      | bw => exact Same.trans hb s2.aH
      | any => exact absurd rfl hk
      | tp => rcases hk0 with z | z <;> cases z
      | dp => rcases hk0 with z | z <;> cases z
    by_cases hlt : j < items.length
    · refine .inr ⟨its.go j H2 hB2 hlt, fun σ3 H3 => ∃ δ3 F3 fp3, SR T Z H0 A δ3 σ3 F3 fp3 H3 ∧ Same F1 F3 ∧ PostS T Z H0 A W E F3 (forL i k k1 (items.drop (j + 1)) δ3),
        fun σ3 H3 ⟨δ3, F3, fp3, q⟩ => ⟨items.length - (j + 1), by omega, rfl, hlt, δ3, F3, fp3, q⟩, fun x H3 y => ?_⟩
      obtain ⟨e1, e3⟩ := its.yld j H2 x H3 hB2 y
      subst e1
      have rx := e3 _ (List.getElem?_eq_getElem hlt)
      have ed : items.drop j = items[j] :: items.drop (j + 1) := List.drop_eq_getElem_cons hlt
      rw [ed] at h2
      unfold forL at h2
      cases hx : itemS items[j] k with
      | none => rw [hx] at h2; exact h2.elim
      | some sl =>
        rw [hx] at h2
        simp only at h2
        obtain ⟨F4, fp4, e4, s4⟩ := s2.item i hb2 hk rx hx
        refine eb H0 A _ _ F4 fp4 H3 _ s4 ?_
        have h4 := h2.later e4
        cases hbd : k1 (δ2.set i sl) with
        | nx δ' =>
          rw [hbd] at h4
          exact fun σ' F' fp' H' e s' => ⟨δ', F', fp', s', (e2.trans e4).trans e, h4.later e⟩
        | ct δ' =>
          rw [hbd] at h4
          exact fun σ' F' fp' H' e s' => ⟨δ', F', fp', s', (e2.trans e4).trans e, h4.later e⟩
        | bk δ' => rw [hbd] at h4; exact h4
        | rt d => rw [hbd] at h4; exact h4
        | er c δ' => rw [hbd] at h4; exact h4
        | no => rw [hbd] at h4; exact h4
    · have e : j = items.length := by omega
      subst e
      refine .inl ⟨its.stop _ H2 hB2 (Nat.le_refl _), ?_⟩
      rw [List.drop_length] at h2
      exact h2 σ2 F2 fp2 H2 (Same.refl _) s2
theorem sd_for {x : Str} {tpos : Pos} (i : Nat) (hp : PassesOwn (model X.prog X.w) X.A X.env X.xe) (hN : X.N.Nodup) (hi : PDi X T Z W (.Name x tpos) iter fi) (hb : PDss X T Z W body k1) (hx : X.N[i]? = some x := by rfl) (hl : Loc X.env.scope x := by first | exact Or.inl rfl | exact Or.inr rfl) (hc : X.calm = true := by rfl)
    (hf : X.fn x = true ∨ X.env.scope.names.lookup x = some .local := by first | exact .inl rfl | exact .inr rfl) (hs : ∀ y, foldedSetIterable iter X.env y = pure y := by intro _; rfl) : PDs X T Z W (.For (.Name x tpos) iter body [] pos) (forO fi i k1) := by
  obtain ⟨wi, pi, ei⟩ := hi
  obtain ⟨tb, pb, eb⟩ := hb
  exact ⟨_, ps_for hp hc pi (pg_name hN hx hl hf) pb hs, ss_for i ei eb⟩

/-! ### while -/
def whL (p : Dl → ResB) (body : Dl → Out) : Nat → Dl → Out
  | 0, _ => .no
  | n + 1, δ => match p δ with
    | .ok false => .nx δ
    | .ok true => (match body δ with
      | .nx δ' => whL p body n δ'
      | .ct δ' => whL p body n δ'
      | .bk δ' => .nx δ'
      | .rt d => .rt d
      | .er c δ' => .er c δ'
      | .no => .no)
    | .er c => .er c δ
    | .no => .no
theorem ss_while {tc : TT} {tb : TS} (n : Nat) (ec : EvB T Z W tc p1) (eb : StS T Z W tb k1) : StS T Z W (tWhile tc tb) (whL p1 k1 n) := by
  intro H0 A δ σ F fp H E s h
  refine ⟨fun m σ2 H2 => ∃ δ2 F2 fp2, SR T Z H0 A δ2 σ2 F2 fp2 H2 ∧ Same F F2 ∧ PostS T Z H0 A W E F2 (whL p1 k1 m δ2), ⟨n, δ, F, fp, s, Same.refl _, h⟩, ?_⟩
  rintro m σ2 H2 ⟨δ2, F2, fp2, s2, e2, h2⟩
  cases m with
  | zero => exact h2.elim
  | succ m =>
    unfold whL at h2
    refine ec H0 A δ2 σ2 F2 fp2 H2 _ s2 ?_
    cases hp : p1 δ2 with
    | no => rw [hp] at h2; exact h2.elim
    | er c => rw [hp] at h2; exact fun F' H' g => h2 σ2 F' fp2 H' g.ff (s2.grow g)
    | ok b =>
      rw [hp] at h2
      intro F3 H3 g3
      have s3 := s2.grow g3
      cases b with
      | false => exact iteF (h2 σ2 F3 fp2 H3 g3.ff s3)
      | true =>
        refine iteT ⟨fun σ3 H3 => ∃ δ3 F3 fp3, SR T Z H0 A δ3 σ3 F3 fp3 H3 ∧ Same F F3 ∧ PostS T Z H0 A W E F3 (whL p1 k1 m δ3), fun σ3 H3 ⟨δ3, F3, fp3, q⟩ => ⟨m, Nat.lt_succ_self _, δ3, F3, fp3, q⟩, ?_⟩
        refine eb H0 A _ _ F3 fp2 H3 _ s3 ?_
        simp only at h2
        have h4 := h2.later g3.ff
        cases hbd : k1 δ2 with
        | nx δ' =>
          rw [hbd] at h4
          exact fun σ' F' fp' H' e s' => ⟨δ', F', fp', s', (e2.trans g3.ff).trans e, h4.later e⟩
        | ct δ' =>
          rw [hbd] at h4
          exact fun σ' F' fp' H' e s' => ⟨δ', F', fp', s', (e2.trans g3.ff).trans e, h4.later e⟩
        | bk δ' => rw [hbd] at h4; exact h4
        | rt d => rw [hbd] at h4; exact h4
        | er c δ' => rw [hbd] at h4; exact h4
        | no => rw [hbd] at h4; exact h4
theorem sd_while (n : Nat) (hp : PassesOwn (model X.prog X.w) X.A X.env X.xe) (hc : PDt X T Z W c p1) (hb : PDss X T Z W body k1) : PDs X T Z W (.While c body [] pos) (whL p1 k1 n) := by
  obtain ⟨tc, pc, ec⟩ := hc
  obtain ⟨tb, pb, eb⟩ := hb
  exact ⟨_, ps_while hp pc pb, ss_while n ec eb⟩

/-! ### lists and dicts of one's own are changed -/
/-- the cell of slot i -/
theorem SR.ow (s : SR T Z H0 A δ σ F fp H) {i : Nat} {d : D} (e : δ[i]? = some (.ow d)) : ∃ p, σ[i]? = some (some (.ref p)) ∧ fp i p ∧ OwnTop T F H p d := by
  obtain ⟨o, h1, p, rfl, h2, h3⟩ := s.sl i _ e
  exact ⟨p, h1, h2, h3⟩
theorem SR.write (s : SR T Z H0 A δ σ F fp H) {i : Nat} {p : Addr} {d' : D} {o' : HO} (na : noAn δ = true) (hi : i < δ.length) (e : σ[i]? = some (some (.ref p))) (hf : fp i p) (ht : OwnTop T F (upd H p o') p d') :
    SR T Z H0 A (δ.set i (.ow d')) σ F fp (upd H p o') := by
  obtain ⟨q1, q2, o, q3, q4⟩ := s.own i p hf
  obtain ⟨w, hw, hn⟩ := ht.cell
  rw [upd_same] at hw
  cases hw
  refine s.mut q3 q4 hn q1 q2 (by simp) fun j y ey => ?_
  by_cases hj : i = j
  · subst hj
    rw [List.getElem?_set_self hi] at ey
    cases ey
    exact .inr ⟨_, e, p, rfl, hf, ht⟩
  · rw [List.getElem?_set_ne hj] at ey
    exact .inl ⟨ey, fun z => hj (s.sep _ _ _ hf z), fun d z => by subst z; exact noAn_get na ey⟩
/-- xs.append(e) -/
def appO (i : Nat) (f : Dl → Res) : Dl → Out := fun δ => match δ[i]? with
  | some (.ow (.lst ds)) => (match f δ with
    | .ok d k => if stK d k = true ∧ ds.length < sizeLine ∧ noAn δ = true then .nx (δ.set i (.ow (.lst (ds ++ [d])))) else .no
    | .er c => .er c δ
    | .no => .no)
  | _ => .no
theorem PostE.ofS {T : Par} {Z : Hd} {H0 A : Hp} {W : WX} {E : Ends} {δ : Dl} {σ : L2.St} {F H : Hp} {fp : Nat → Addr → Prop} {c : Ex} (h : PostS T Z H0 A W E F (.er c δ)) (s : SR T Z H0 A δ σ F fp H) : ∀ F' H', Grow F H F' H' → W (.ref (T.cx c)) none σ H' :=
  fun F' H' g => h σ F' fp H' g.ff (s.grow g)
theorem ResR.shareG {A F H F' H' : Hp} {k : Kd} {v : V} {d : D} (r : ResR T A F' H' H k v d) (g : Grow F H F' H') (hA : Same A H') (hs : stK d k = true) : ∃ F2, Grow F H F2 H' ∧ Rep T F2 v d := by
  obtain ⟨F2, e1, e2, e3, r2⟩ := r.share hA g.fh hs
  exact ⟨F2, ⟨g.ff.trans e1, g.hh, e2, fun a o q => by
    rcases e3 a o q with z | z | z
    · exact g.nw a o z
    · exact .inr (.inl z)
    · exact .inr (.inr z)⟩, r2⟩
theorem sd_append (i : Nat) {x : Str} {xpos apos cpos : Pos} (he : PDe X T Z W e f1) (hN : X.N[i]? = some x := by rfl) (hv : Vis X.env.scope x := by first | exact Or.inl rfl | exact Or.inr (Or.inl rfl) | exact Or.inr (Or.inr rfl))
    (hs : swapsWith (.Call (.Attribute (.Name x xpos) "append" apos) [e] [] cpos) none pos.line X.env = pure false := by rfl)
    (hbase : attributeBase (.Name x xpos) "append" X.env (eval (.Name x xpos) X.env) = eval (.Name x xpos) X.env := by rfl)
    (hfew : ((backTo cpos (starEach [e] X.env)).all (fun x => !x.1) && (backToKw cpos (keywordEach [] X.env)).all (fun x => x.1.isSome)
      && decide (([e] : List Expr).length + ([] : List Keyword).length + (if ([] : List Keyword).isEmpty then 0 else 1) < 30)) = true := by rfl)
    (hline : (apos.endLine == cpos.line) = true := by rfl) (hst : starEach (e :: []) X.env = (false, eval e X.env) :: starEach [] X.env := by rfl) (hd : (x == ("__debug__" : Str)) = false := by decide) (hcd : (x == ("__classdict__" : Str)) = false := by decide) :
    PDs X T Z W (.Expr (.Call (.Attribute (.Name x xpos) "append" apos) [e] [] cpos) pos) (appO i f1) := by
  obtain ⟨t, pe, ev⟩ := he
  refine ⟨_, ps_expr (pe_bm PySem.F.plainAttrs_list PySem.F.slot_list_append PySem.F.type_list_append mt_append (pe_var hN hv hd hcd) (pa_cons pe pa_nil hst) hbase hfew hline hst rfl) hs, ?_⟩
  intro H0 A δ σ F fp H E s h
  unfold appO at h
  cases hi : δ[i]? with
  | none => rw [hi] at h; exact h.elim
  | some y =>
    rw [hi] at h
    match y, hi, h with
    | .ow (.lst ds), hi, h =>
      obtain ⟨p, e1, hf, vs, hp, r⟩ := s.ow hi
      refine ⟨.ref p, e1, .inl ⟨rfl, vs, SqL.of hp⟩, ?_⟩
      refine ev H0 A δ σ F fp H _ s ?_
      simp only at h
      cases hfe : f1 δ with
      | no => rw [hfe] at h; exact h.elim
      | er c => rw [hfe] at h; exact PostE.ofS h s
      | ok d k =>
        rw [hfe] at h
        simp only at h
        split at h
        case isFalse => exact h.elim
        rename_i hk
        intro v F' H' g r'
        have s' := s.grow g
        obtain ⟨F2, g2, r2⟩ := r'.shareG g s'.aH hk.1
        have s2 := s.grow g2
        refine ⟨p, vs, v, rfl, rfl, g.hh _ _ hp, by rw [r.length]; exact hk.2.1, ?_⟩
        refine h σ F2 fp _ g2.ff (s2.write hk.2.2 (List.getElem?_eq_some_iff.mp hi).1 e1 hf ⟨_, upd_same, (r.mono g2.ff).append (by simp [Reps, r2])⟩)
/-- xs[k] = e -/
def setiO (i : Nat) (fx f : Dl → Res) : Dl → Out := fun δ => match f δ with
  | .ok d k => (match δ[i]? with
    | some (.ow (.lst ds)) => (match fx δ with
      | .ok (.int j) _ => (match ixN ds.length j with
        | some n => if stK d k = true ∧ noAn δ = true then .nx (δ.set i (.ow (.lst (ds.set n d)))) else .no
        | none => .no)
      | .er c => .er c δ
      | _ => .no)
    | _ => .no)
  | .er c => .er c δ
  | .no => .no
theorem sd_seti (i : Nat) {x : Str} {xpos : Pos} {ix : Expr} {spos : Pos} (he : PDe X T Z W e f1) (hx : PDe X T Z W ix f2) (hN : X.N[i]? = some x := by rfl) (hv : Vis X.env.scope x := by first | exact Or.inl rfl | exact Or.inr (Or.inl rfl) | exact Or.inr (Or.inr rfl))
    (ha : ∀ v, assign (.Subscript (.Name x xpos) ix spos) X.env v = (do
      let ov ← holding [v] (eval (.Name x xpos) X.env)
      let iv ← holding [v, ov] (eval ix X.env)
      standAt spos
      holding [v, ov, iv] (setItem ov iv v)
      release [v, ov, iv] []) := by intro _; rfl)
    (hs : swapsWithSole [.Subscript (.Name x xpos) ix spos] e pos.line X.env = pure false := by rfl) (hw : swappedStores [.Subscript (.Name x xpos) ix spos] e X.env = pure none := by rfl)
    (h1 : (assignEach [.Subscript (.Name x xpos) ix spos] X.env).map (·.2) = [assign (.Subscript (.Name x xpos) ix spos) X.env] := by rfl) (hd : (x == ("__debug__" : Str)) = false := by decide) (hcd : (x == ("__classdict__" : Str)) = false := by decide) :
    PDs X T Z W (.Assign [.Subscript (.Name x xpos) ix spos] e pos) (setiO i f2 f1) := by
  obtain ⟨t, pe, ev⟩ := he
  obtain ⟨u, px, ex⟩ := hx
  refine ⟨_, ps_asg pe (pg_sub (pe_var hN hv hd hcd) px set_list ha) hs hw h1, ?_⟩
  intro H0 A δ σ F fp H E s h
  unfold setiO at h
  refine ev.stm s h (fun c hc => by rw [hc]) (fun hc => by rw [hc]) fun d kd v F' H' hf g r => ?_
  rw [hf] at h
  simp only at h
  cases hi : δ[i]? with
  | none => rw [hi] at h; exact h.elim
  | some y =>
    rw [hi] at h
    match y, hi, h with
    | .ow (.lst ds), hi, h =>
      have s' := s.grow g
      obtain ⟨p, e1, hfp, vs, hp, rr⟩ := s'.ow hi
      refine ⟨.ref p, e1, ?_⟩
      simp only at h
      refine ex H0 A δ σ F' fp H' _ s' ?_
      cases hfx : f2 δ with
      | no => rw [hfx] at h; exact h.elim
      | er c => rw [hfx] at h; exact PostE.ofS (h.later g.ff) s'
      | ok dj kj =>
        rw [hfx] at h
        cases dj with
        | int j =>
          simp only at h
          cases hn : ixN ds.length j with
          | none => rw [hn] at h; exact h.elim
          | some n =>
            rw [hn] at h
            simp only at h
            split at h
            case isFalse => exact h.elim
            rename_i hk
            intro w F2 H2 g2 r2
            have s2 := s'.grow g2
            have rw' := r2.rep s2.aH s2.fh
            rw [Rep] at rw'
            subst rw'
            have r' := r.grow g2
            obtain ⟨F3, g3, r3⟩ := r'.shareG (g.trans g2) s2.aH hk.1
            have s3 := s.grow g3
            obtain ⟨p3, e3, hfp3, vs3, hp3, rr3⟩ := s3.ow hi
            rw [e1] at e3; cases e3
            refine ⟨p, vs3, j, n, rfl, rfl, hp3, by rw [rr3.length]; exact hn, ?_⟩
            exact h σ F3 fp _ g3.ff (s3.write hk.2 (List.getElem?_eq_some_iff.mp hi).1 e1 hfp3 ⟨_, upd_same, Reps.set r3 n rr3⟩)
        | _ => exact h.elim
/-- d[k] = e -/
def putS {κ : Type} [DecidableEq κ] (kvs : List (κ × Sc)) (k : κ) (v : Sc) : List (κ × Sc) :=
  if (kvs.any fun kv => decide (kv.1 = k)) = true then kvs.map (fun kv => if kv.1 = k then (kv.1, v) else kv) else kvs ++ [(k, v)]
theorem putK_putS {κ : Type} [DecidableEq κ] (kvs : List (κ × Sc)) (k : κ) (v : Sc) : putK (kvs.map fun kv => (kv.1, kv.2.v)) k v.v = (putS kvs k v).map fun kv => (kv.1, kv.2.v) := by
  unfold putK putS
  rw [List.any_map]
  have e : ((fun kv : κ × V => decide (kv.1 = k)) ∘ fun kv : κ × Sc => (kv.1, kv.2.v)) = fun kv => decide (kv.1 = k) := rfl
  rw [e]
  split
  · rw [List.map_map, List.map_map]
    congr 1
    funext kv
    show (if kv.1 = k then (kv.1, v.v) else (kv.1, kv.2.v)) = _
    by_cases h : kv.1 = k
    · simp [h]
    · simp [h]
  · simp
def scOf : D → Option Sc
  | .bl b => some (.bl b)
  | .int i => some (.int i)
  | _ => none
def dput (d e : D) (v : Sc) : Option D := match d with
  | .dt kvs => (match e with
    | .tup ds => (match keysD ds with
      | some k => if kvs.length < sizeLine then some (.dt (putS kvs k v)) else none
      | none => none)
    | _ => none)
  | .dk kvs => (match keyD e with
    | some k => if kvs.length < sizeLine then some (.dk (putS kvs k v)) else none
    | none => none)
  | _ => none
def dputO (i : Nat) (fk f : Dl → Res) : Dl → Out := fun δ => match f δ with
  | .ok d _ => (match scOf d with
    | some v => (match δ[i]? with
      | some (.ow m) => (match fk δ with
        | .ok kd _ => (match dput m kd v with
          | some m' => if noAn δ = true then .nx (δ.set i (.ow m')) else .no
          | none => .no)
        | .er c => .er c δ
        | .no => .no)
      | _ => .no)
    | none => .no)
  | .er c => .er c δ
  | .no => .no
theorem sd_dput (i : Nat) {x : Str} {xpos : Pos} {ix : Expr} {spos : Pos} (hu : X.A.units + 1 < cLine) (he : PDe X T Z W e f1) (hx : PDe X T Z W ix f2) (hN : X.N[i]? = some x := by rfl) (hv : Vis X.env.scope x := by first | exact Or.inl rfl | exact Or.inr (Or.inl rfl) | exact Or.inr (Or.inr rfl))
    (hs : swapsWith e (some (.Subscript (.Name x xpos) ix spos)) pos.line X.env = pure false := by rfl) (hd : (x == ("__debug__" : Str)) = false := by decide) (hcd : (x == ("__classdict__" : Str)) = false := by decide) :
    PDs X T Z W (.Assign [.Subscript (.Name x xpos) ix spos] e pos) (dputO i f2 f1) := by
  obtain ⟨t, pe, ev⟩ := he
  obtain ⟨u, px, ex⟩ := hx
  refine ⟨_, ps_dput hu (pe_var hN hv hd hcd) px pe hs, ?_⟩
  intro H0 A δ σ F fp H E s h
  unfold dputO at h
  refine ev.stm s h (fun c hc => by rw [hc]) (fun hc => by rw [hc]) fun d kd v F' H' hf g r => ?_
  rw [hf] at h
  simp only at h
  cases hsc : scOf d with
  | none => rw [hsc] at h; exact h.elim
  | some sv =>
    rw [hsc] at h
    simp only at h
    cases hi : δ[i]? with
    | none => rw [hi] at h; exact h.elim
    | some y =>
      rw [hi] at h
      cases y with
      | ow m =>
        have s' := s.grow g
        have hvv : v = sv.v := by
          have rv := r.rep s'.aH s'.fh
          cases d with
          | bl b => cases hsc; rw [Rep] at rv; exact rv
          | int b => cases hsc; rw [Rep] at rv; exact rv
          | _ => cases hsc
        subst hvv
        obtain ⟨p, e1, hfp, top⟩ := s'.ow hi
        refine ⟨.ref p, e1, ?_⟩
        simp only at h
        refine ex H0 A δ σ F' fp H' _ s' ?_
        cases hfx : f2 δ with
        | no => rw [hfx] at h; exact h.elim
        | er c => rw [hfx] at h; exact PostE.ofS (h.later g.ff) s'
        | ok dk kk =>
          rw [hfx] at h
          simp only at h
          cases hm : dput m dk sv with
          | none => rw [hm] at h; exact h.elim
          | some m' =>
            rw [hm] at h
            simp only at h
            split at h
            case isFalse => exact h.elim
            rename_i hna
            intro w F2 H2 g2 r2
            have s2 := s'.grow g2
            have rk := r2.rep s2.aH s2.fh
            obtain ⟨p2, e2, hfp2, top2⟩ := s2.ow hi
            rw [e1] at e2; cases e2
            have fin : ∀ o', OwnTop T F2 (upd H2 p o') p m' → E.nx σ (upd H2 p o') := fun o' ht =>
              h σ F2 fp _ (g.trans g2).ff (s2.write hna (List.getElem?_eq_some_iff.mp hi).1 e1 hfp ht)
            cases m with
            | dt kvs =>
              simp only [dput] at hm
              split at hm
              · rename_i ds
                split at hm
                · rename_i k hk
                  split at hm
                  · rename_i hl
                    cases hm
                    rw [Rep] at rk
                    obtain ⟨q, vs, rfl, q1, q2⟩ := rk
                    rw [keysD_reps q2 hk] at q1
                    refine ⟨p, _, rfl, DPut.t top2 q1 (by simpa using hl), fin _ ?_⟩
                    show upd _ _ _ _ = _
                    rw [upd_same, putK_putS]
                  · cases hm
                · cases hm
              · cases hm
            | dk kvs =>
              simp only [dput] at hm
              split at hm
              · rename_i k hk
                split at hm
                · rename_i hl
                  cases hm
                  rw [keyD_rep rk hk]
                  refine ⟨p, _, rfl, DPut.k top2 (by simpa using hl), fin _ ?_⟩
                  show upd _ _ _ _ = _
                  rw [upd_same, putK_putS]
                · cases hm
              · cases hm
            | _ => cases hm
      | _ => exact h.elim
end
end
end DD

set_option maxRecDepth 100000
namespace DD
noncomputable section
open PySem L2

section
variable {X : Cx} {T : Par} {Z : Hd} {W : WX} {a b c e o : Expr} {es : List Expr} {f1 f2 f3 : Dl → Res} {fa : Dl → ResA} {pos apos cpos p : Pos} {x : Str}

/-! ### products -/
def gMul : D → D → Opt
  | .int i, .int j => if (smallI i || smallI j) = true then some (.int (i * j), .st) else none
  | .str s, .int j => if s.length ≤ 16 ∧ -(2 ^ 63) ≤ j ∧ j ≤ 1048576 then some (.str (Txt.mul s j), .st) else none
  | .lst ds, .int j => if imms ds = true ∧ -(2 ^ 63) ≤ j ∧ j < 2 ^ 63 ∧ ds.length * j.toNat ≤ sizeLine then some (.lst (List.replicate j.toNat ds).flatten, .tp) else none
  | _, _ => none
def rMulI : R2 := rI CMul fun i j => .int (i * j)
def rMulS : R2 := fun x y H Q => ∃ s j, x = .str s ∧ y = .int j ∧ s.length ≤ 16 ∧ -(2 ^ 63) ≤ j ∧ j ≤ 1048576 ∧ Q (.str (Txt.mul s j)) H
def rMulA : R2 := fun x y H Q => rMulI x y H Q ∨ (fun x y H Q => rMulS x y H Q ∨ rRep x y H Q) x y H Q
theorem op_mulS : OpR X (binaryOp .Mult) rMulS := by
  intro pins s σ H x y v u Q I rx ry h
  obtain ⟨z, j, rfl, rfl, h1, h2, h3, q⟩ := h
  obtain ⟨t, rfl⟩ := rx
  obtain ⟨t', rfl⟩ := ry
  exact SB.mul (PyProof.Rows.mulOk_of 16 1048576 h1 h3 h2 (by decide) (by decide)) fun t' k => ⟨.str _, H, I.tok k, ⟨_, rfl⟩, q⟩
theorem op_mulA : OpR X (binaryOp .Mult) rMulA := OpR.or (r1 := rMulI) op_mul (OpR.or (r1 := rMulS) (r2 := rRep) op_mulS op_rep)
theorem reps_rep {T : Par} {F : Hp} {vs : List V} {ds : List D} (h : Reps T F vs ds) : ∀ n : Nat, Reps T F (List.replicate n vs).flatten (List.replicate n ds).flatten
  | 0 => by simp [Reps]
  | n + 1 => by
    simp only [List.replicate_succ, List.flatten_cons]
    exact h.append (reps_rep h n)
theorem imms_rep {ds : List D} (h : imms ds = true) : ∀ n : Nat, imms (List.replicate n ds).flatten = true
  | 0 => by simp [imms]
  | n + 1 => by
    simp only [List.replicate_succ, List.flatten_cons]
    exact imms_append h (imms_rep h n)
theorem os_mulA : OpS T rMulA gMul := by
  intro A F H Q x y d e hA hF rx ry h
  cases e with
  | int j =>
    rw [Rep] at ry
    subst ry
    cases d with
    | int i =>
      rw [Rep] at rx
      subst rx
      simp only [gMul] at h
      split at h
      · rename_i hc
        refine .inl ⟨i, j, rfl, rfl, ?_, post_st hF h rfl⟩
        unfold CMul
        simpa [smallI, Bool.or_eq_true, Bool.and_eq_true] using hc
      · exact h.elim
    | str s =>
      rw [Rep] at rx
      subst rx
      simp only [gMul] at h
      split at h
      · rename_i hc
        exact .inr (.inl ⟨s, j, rfl, rfl, hc.1, hc.2.1, hc.2.2, post_st hF h rfl⟩)
      · exact h.elim
    | lst ds =>
      rw [Rep] at rx
      obtain ⟨q, vs, rfl, e1, e2⟩ := rx
      simp only [gMul] at h
      split at h
      · rename_i hc
        exact .inr (.inr ⟨q, j, vs, rfl, rfl, e1, hc.2.1, hc.2.2.1, by rw [e2.length]; exact hc.2.2.2, post_lstI hF h (imms_rep hc.1 _) (reps_rep e2 _)⟩)
      · exact h.elim
    | _ => exact h.elim
  | _ => cases d <;> exact h.elim
theorem pd_mulA (ha : PDe X T Z W a f1) (hb : PDe X T Z W b f2) : PDe X T Z W (.BinOp a .Mult b pos) (opR gMul f1 f2) := pd_op op_mulA os_mulA ha hb

/-! ### isinstance of a built-in class -/
def tyD : D → Option String
  | .non => some "NoneType"
  | .bl _ => some "bool"
  | .int _ => some "int"
  | .str _ => some "str"
  | .lst _ => some "list"
  | .tup _ => some "tuple"
  | .dt _ => some "dict"
  | .dk _ => some "dict"
  | _ => none
def gIsi (ty : String) (d : D) : Opt := match tyD d with
  | some t => (kitB t ty).map fun b => (.bl b, .st)
  | none => none
theorem tyD_ty {T : Par} {H : Hp} {v : V} {d : D} {t : String} (r : Rep T H v d) (h : tyD d = some t) : TyX T.K H v (.type t) := by
  cases d with
  | non => cases h; rw [Rep] at r; subst r; exact .base .non
  | bl b => cases h; rw [Rep] at r; subst r; exact .base (.bl b)
  | int b => cases h; rw [Rep] at r; subst r; exact .base (.int b)
  | str b => cases h; rw [Rep] at r; subst r; exact .base (.str b)
  | lst b => cases h; rw [Rep] at r; obtain ⟨q, vs, rfl, h1, _⟩ := r; exact .base (.lst h1)
  | tup b => cases h; rw [Rep] at r; obtain ⟨q, vs, rfl, h1, _⟩ := r; exact .base (.tup h1)
  | dt b => cases h; rw [Rep] at r; obtain ⟨q, rfl, h1⟩ := r; exact .base (.dT h1)
  | dk b => cases h; rw [Rep] at r; obtain ⟨q, rfl, h1⟩ := r; exact .base (.dK h1)
  | _ => cases h
theorem pd_isi {n : String} {y : Str} {p1 p2 : Pos} (ha : PDe X T Z W a f1) (hm : X.mg "isinstance" = none) (hmT : X.mg y = none) (hvT : bootBuiltins y = some (.type n)) (hK : X.K = T.K := by rfl) (hg : Gl X "isinstance" := by rfl) (hgT : Gl X y := by rfl)
    (hn : y ≠ "__name__" := by decide) (hdb : (y == ("__debug__" : Str)) = false := by decide)
    (he : starEach [a, .Name y p1] X.env = (false, eval a X.env) :: starEach [.Name y p1] X.env := by rfl) (he2 : starEach [.Name y p1] X.env = (false, eval (.Name y p1) X.env) :: starEach [] X.env := by rfl) (hpl : (backTo pos (starEach [.Name y p1] X.env)).any (·.1) = false := by rfl)
    (hboot : bootBuiltins "isinstance" = some (.builtin "isinstance") := by decide +kernel) : PDe X T Z W (.Call (.Name "isinstance" p2) [a, .Name y p1] [] pos) (unR (gIsi n) f1) := by
  obtain ⟨ta, pa, ea⟩ := ha
  refine ⟨_, pe_callB call_isi hg hm hboot (pa_cons pa (pa_cons (pe_bltn (v := .ty n) hgT hmT hvT rfl hn hdb) pa_nil he2) he) (by decide) (by decide) he hpl, ?_⟩
  rw [hK]
  refine ea.un (r := fun x H Q => rIsi T.K [x, .ty n] H Q) fun A F H Q x d hA hF rx h => ?_
  unfold gIsi at h
  cases ht : tyD d with
  | none => rw [ht] at h; exact h.elim
  | some t =>
    rw [ht] at h
    simp only at h
    cases hb : kitB t n with
    | none => rw [hb] at h; exact h.elim
    | some bb =>
      rw [hb] at h
      exact ⟨x, .ty n, .type t, .type n, bb, rfl, .ty n, tyD_ty rx ht, kit_ty hb, post_st hF h rfl⟩

/-! ### other built-ins -/
def gList : List D → Opt
  | [.lst ds] => if imms ds = true then some (.lst ds, .tp) else none
  | [.tup ds] => if imms ds = true then some (.lst ds, .tp) else none
  | _ => none
theorem cs_list : CallS T (fun xs H Q => ∃ p ys, xs = [.ref p] ∧ (SqL T.K H p ys ∨ SqT T.K H p ys) ∧ ∀ l, H l = none → Q (.ref l) (upd H l (.lst ys))) gList := by
  intro A F H Q vs ds hA hF rs h
  unfold gList at h
  split at h
  · rename_i l
    obtain ⟨v, rfl, rv⟩ := reps1 rs
    rw [Rep] at rv
    obtain ⟨q, ws, rfl, h1, h2⟩ := rv
    split at h
    · rename_i hi
      exact ⟨q, ws, rfl, .inl (SqL.of h1), post_lstI hF h hi h2⟩
    · exact h.elim
  · rename_i l
    obtain ⟨v, rfl, rv⟩ := reps1 rs
    rw [Rep] at rv
    obtain ⟨q, ws, rfl, h1, h2⟩ := rv
    split at h
    · rename_i hi
      exact ⟨q, ws, rfl, .inr (SqT.of h1), post_lstI hF h hi h2⟩
    · exact h.elim
  · exact h.elim
def gInt : List D → Opt
  | [.int i] => some (.int i, .st)
  | [.bl k] => some (.int (if k then 1 else 0), .st)
  | [.str s] => if s.length ≤ 640 then (PySem.intText? s).map fun n => (.int n, .st) else none
  | _ => none
theorem cs_int : CallS T (fun xs H Q => ((∃ i, xs = [.int i] ∧ Q (.int i) H) ∨ ∃ k, xs = [.bl k] ∧ Q (.int (if k then 1 else 0)) H) ∨ ∃ a n, xs = [.str a] ∧ PySem.intText? a = some n ∧ a.length ≤ 640 ∧ Q (.int n) H) gInt := by
  intro A F H Q vs ds hA hF rs h
  unfold gInt at h
  split at h
  · obtain ⟨v, rfl, rv⟩ := reps1 rs
    rw [Rep] at rv
    subst rv
    exact .inl (.inl ⟨_, rfl, post_st hF h rfl⟩)
  · obtain ⟨v, rfl, rv⟩ := reps1 rs
    rw [Rep] at rv
    subst rv
    exact .inl (.inr ⟨_, rfl, post_st hF h rfl⟩)
  · rename_i s
    obtain ⟨v, rfl, rv⟩ := reps1 rs
    rw [Rep] at rv
    subst rv
    split at h
    · rename_i hl
      cases hn : PySem.intText? s with
      | none => rw [hn] at h; exact h.elim
      | some n =>
        rw [hn] at h
        exact .inr ⟨s, n, rfl, hn, hl, post_st hF h rfl⟩
    · exact h.elim
  · exact h.elim
def gStrI : List D → Opt
  | [.int i] => if i.natAbs.log2 < 1920 then some (.str (toString i), .st) else none
  | _ => none
theorem cs_strI : CallS T (fun xs H Q => ∃ i, xs = [.int i] ∧ i.natAbs.log2 < 1920 ∧ Q (.str (toString i)) H) gStrI := by
  intro A F H Q vs ds hA hF rs h
  unfold gStrI at h
  split at h
  · obtain ⟨v, rfl, rv⟩ := reps1 rs
    rw [Rep] at rv
    subst rv
    split at h
    · rename_i hl
      exact ⟨_, rfl, hl, post_st hF h rfl⟩
    · exact h.elim
  · exact h.elim
def gMax2 : List D → Opt
  | [.int i, .int j] => some (.int (if j > i then j else i), .st)
  | _ => none
def gMin2 : List D → Opt
  | [.int i, .int j] => some (.int (if j < i then j else i), .st)
  | _ => none
theorem cs_max2 : CallS T (fun xs H Q => ∃ i j, xs = [.int i, .int j] ∧ Q (.int (if j > i then j else i)) H) gMax2 := by
  intro A F H Q vs ds hA hF rs h
  unfold gMax2 at h
  split at h
  · obtain ⟨v, w, rfl, rv, rw'⟩ := reps2 rs
    rw [Rep] at rv rw'
    subst rv rw'
    exact ⟨_, _, rfl, post_st hF h rfl⟩
  · exact h.elim
theorem cs_min2 : CallS T (fun xs H Q => ∃ i j, xs = [.int i, .int j] ∧ Q (.int (if j < i then j else i)) H) gMin2 := by
  intro A F H Q vs ds hA hF rs h
  unfold gMin2 at h
  split at h
  · obtain ⟨v, w, rfl, rv, rw'⟩ := reps2 rs
    rw [Rep] at rv rw'
    subst rv rw'
    exact ⟨_, _, rfl, post_st hF h rfl⟩
  · exact h.elim
/-- texts, bools, whole numbers of a list -/
def strsD : List D → Option (List Str)
  | [] => some []
  | .str s :: ds => (strsD ds).map (s :: ·)
  | _ :: _ => none
def blsD : List D → Option (List Bool)
  | [] => some []
  | .bl s :: ds => (blsD ds).map (s :: ·)
  | _ :: _ => none
def intsD : List D → Option (List Int)
  | [] => some []
  | .int s :: ds => (intsD ds).map (s :: ·)
  | _ :: _ => none
theorem strsD_eq : ∀ {ds : List D} {ss : List Str}, strsD ds = some ss → ds = ss.map D.str
  | [], ss, h => by simp only [strsD, Option.some.injEq] at h; subst h; rfl
  | .str s :: ds, ss, h => by
    simp only [strsD, Option.map_eq_some_iff] at h
    obtain ⟨r, h1, rfl⟩ := h
    rw [strsD_eq h1]; rfl
theorem blsD_eq : ∀ {ds : List D} {ss : List Bool}, blsD ds = some ss → ds = ss.map D.bl
  | [], ss, h => by simp only [blsD, Option.some.injEq] at h; subst h; rfl
  | .bl s :: ds, ss, h => by
    simp only [blsD, Option.map_eq_some_iff] at h
    obtain ⟨r, h1, rfl⟩ := h
    rw [blsD_eq h1]; rfl
theorem intsD_eq : ∀ {ds : List D} {ss : List Int}, intsD ds = some ss → ds = ss.map D.int
  | [], ss, h => by simp only [intsD, Option.some.injEq] at h; subst h; rfl
  | .int s :: ds, ss, h => by
    simp only [intsD, Option.map_eq_some_iff] at h
    obtain ⟨r, h1, rfl⟩ := h
    rw [intsD_eq h1]; rfl
theorem strsD_map : ∀ ss : List Str, strsD (ss.map D.str) = some ss
  | [] => rfl
  | s :: ss => by simp [strsD, strsD_map ss]
theorem blsD_map : ∀ ss : List Bool, blsD (ss.map D.bl) = some ss
  | [] => rfl
  | s :: ss => by simp [blsD, blsD_map ss]
theorem intsD_map : ∀ ss : List Int, intsD (ss.map D.int) = some ss
  | [] => rfl
  | s :: ss => by simp [intsD, intsD_map ss]
def gSum : List D → Opt
  | [.lst ds] => (intsD ds).map fun ns => (.int ns.sum, .st)
  | _ => none
theorem cs_sum : CallS T (rSum T.K) gSum := by
  intro A F H Q vs ds hA hF rs h
  unfold gSum at h
  split at h
  · rename_i l
    obtain ⟨v, rfl, rv⟩ := reps1 rs
    rw [Rep] at rv
    obtain ⟨q, ws, rfl, h1, h2⟩ := rv
    cases hn : intsD l with
    | none => rw [hn] at h; exact h.elim
    | some ns =>
      rw [hn] at h
      rw [intsD_eq hn] at h2
      rw [h2.ints] at h1
      exact ⟨q, ns, rfl, SqL.of h1, post_st hF h rfl⟩
  · exact h.elim
def gAll : List D → Opt
  | [.lst ds] => (blsD ds).map fun ns => (.bl (ns.all id), .st)
  | _ => none
theorem cs_all : CallS T (rAll T.K) gAll := by
  intro A F H Q vs ds hA hF rs h
  unfold gAll at h
  split at h
  · rename_i l
    obtain ⟨v, rfl, rv⟩ := reps1 rs
    rw [Rep] at rv
    obtain ⟨q, ws, rfl, h1, h2⟩ := rv
    cases hn : blsD l with
    | none => rw [hn] at h; exact h.elim
    | some ns =>
      rw [hn] at h
      rw [blsD_eq hn] at h2
      rw [h2.bls] at h1
      exact ⟨q, ns, rfl, SqL.of h1, post_st hF h rfl⟩
  · exact h.elim
/-- the least -/
def minL : List Int → Option Int
  | [] => none
  | n :: ns => match minL ns with
    | none => some n
    | some m => some (if n ≤ m then n else m)
theorem minL_spec : ∀ {ns : List Int} {m : Int}, minL ns = some m → m ∈ ns ∧ ∀ y ∈ ns, m ≤ y
  | n :: ns, m, h => by
    simp only [minL] at h
    cases hr : minL ns with
    | none =>
      rw [hr] at h
      cases ns with
      | nil => cases h; simp
      | cons k ks =>
        exfalso
        simp only [minL] at hr
        split at hr <;> cases hr
    | some k =>
      rw [hr] at h
      obtain ⟨h1, h2⟩ := minL_spec hr
      cases h
      split
      · rename_i hk
        exact ⟨by simp, fun y hy => by
          rcases List.mem_cons.mp hy with rfl | hy
          · exact Int.le_refl _
          · exact Int.le_trans hk (h2 y hy)⟩
      · rename_i hk
        exact ⟨by simp [h1], fun y hy => by
          rcases List.mem_cons.mp hy with rfl | hy
          · omega
          · exact h2 y hy⟩
def gMin : List D → Opt
  | [.lst ds] => (intsD ds).bind fun ns => (minL ns).map fun m => (.int m, .st)
  | _ => none
theorem cs_min : CallS T (rMin T.K) gMin := by
  intro A F H Q vs ds hA hF rs h
  unfold gMin at h
  split at h
  · rename_i l
    obtain ⟨v, rfl, rv⟩ := reps1 rs
    rw [Rep] at rv
    obtain ⟨q, ws, rfl, h1, h2⟩ := rv
    cases hn : intsD l with
    | none => rw [hn] at h; exact h.elim
    | some ns =>
      rw [hn] at h
      simp only [Option.bind_some] at h
      cases hm : minL ns with
      | none => rw [hm] at h; exact h.elim
      | some m =>
        rw [hm] at h
        rw [intsD_eq hn] at h2
        rw [h2.ints] at h1
        obtain ⟨m1, m2⟩ := minL_spec hm
        refine ⟨q, ns, rfl, SqL.of h1, List.length_pos_of_mem m1, fun k k1 k2 => ?_⟩
        have : k = m := Int.le_antisymm (by have := m2 k k1; have := k2 m m1; omega) (by have := m2 k k1; omega)
        subst this
        exact post_st hF h rfl
  · exact h.elim

/-! ### methods of texts -/
def Mt1S (T : Par) (r : V → List V → Hp → VK → Prop) (g : D → D → Opt) : Prop := ∀ A F H Q z y d e, Same A H → Same F H → z = .str d → Rep T H y e → PostO T A F H Q (g (.str d) e) → r z [y] H Q
def isStr : D → Bool
  | .str _ => true
  | _ => false
def m1R (g : D → D → Opt) (f1 f2 : Dl → Res) : Dl → Res := fun δ => bindR (f1 δ) fun d _ => if isStr d = true then bindR (f2 δ) fun e _ => optR (g d e) else .no
theorem EvS.m1 {ta tb : TE} {r : V → List V → Hp → VK → Prop} {g : D → D → Opt} (ea : EvS T Z W ta f1) (eb : EvS T Z W tb f2) (hr : Mt1S T r g) : EvS T Z W (tM1 r ta tb) (m1R g f1 f2) := by
  intro H0 A δ σ F fp H Q s h
  unfold m1R at h
  refine ea.then_ s h _ fun d k v F1 H1 _ g1 s1 r1 h1 => ?_
  cases d with
  | str z =>
    have rv := r1.rep s1.aH s1.fh
    rw [Rep] at rv
    subst rv
    refine ⟨⟨z, rfl⟩, ?_⟩
    refine eb.then_ s1 (h1.later g1) _ fun e k2 u F2 H2 _ g2 s2 r2 h2 => ?_
    exact hr A F2 H2 Q _ u z e s2.aH s2.fh rfl (r2.rep s2.aH s2.fh) (h2.later g2).opt
  | _ => exact h1.elim
def gJoin : D → D → Opt
  | .str a, .lst ds => (strsD ds).bind fun ss => if (ss.map (·.length)).sum + ss.length * a.length ≤ 16777216 then some (.str (Txt.join a ss), .st) else none
  | _, _ => none
theorem pd_join (ha : PDe X T Z W a f1) (hb : PDe X T Z W b f2) (hs : starEach [b] X.env = [(false, eval b X.env)] := by rfl) (hbase : attributeBase a "join" X.env (eval a X.env) = eval a X.env := by rfl) (hline : (apos.endLine == cpos.line) = true := by rfl) (hK : X.K = T.K := by rfl) :
    PDe X T Z W (.Call (.Attribute a "join" apos) [b] [] cpos) (m1R gJoin f1 f2) := by
  obtain ⟨ta, pa, ea⟩ := ha
  obtain ⟨tb, pb, eb⟩ := hb
  refine ⟨_, pe_join pa pb hs hbase hline, ea.m1 eb ?_⟩
  rw [hK]
  intro A F H Q z y d e hA hF rz ry h
  cases e with
  | lst ds =>
    rw [Rep] at ry
    obtain ⟨q, ws, rfl, h1, h2⟩ := ry
    simp only [gJoin] at h
    cases hn : strsD ds with
    | none => rw [hn] at h; exact h.elim
    | some ss =>
      rw [hn] at h
      simp only [Option.bind_some] at h
      split at h
      · rename_i hl
        rw [strsD_eq hn] at h2
        rw [h2.strs] at h1
        exact ⟨d, q, ss, rz, rfl, .inl (SqL.of h1), hl, post_st hF h rfl⟩
      · exact h.elim
  | _ => exact h.elim
def gSplit : D → D → Opt
  | .str a, .str b => if (b.length == 0) = false ∧ a.length + 2 ≤ sizeLine then some (.lst ((Txt.split a b).map D.str), .tp) else none
  | _, _ => none
theorem pd_split (ha : PDe X T Z W a f1) (hb : PDe X T Z W b f2) (hs : starEach [b] X.env = [(false, eval b X.env)] := by rfl) (hbase : attributeBase a "split" X.env (eval a X.env) = eval a X.env := by rfl) (hline : (apos.endLine == cpos.line) = true := by rfl) :
    PDe X T Z W (.Call (.Attribute a "split" apos) [b] [] cpos) (m1R gSplit f1 f2) := by
  obtain ⟨ta, pa, ea⟩ := ha
  obtain ⟨tb, pb, eb⟩ := hb
  refine ⟨_, pe_split pa pb hs hbase hline, ea.m1 eb ?_⟩
  intro A F H Q z y d e hA hF rz ry h
  cases e with
  | str w =>
    rw [Rep] at ry
    subst ry
    simp only [gSplit] at h
    split at h
    · rename_i hl
      exact ⟨d, w, rz, rfl, hl.1, hl.2, post_lst hF h (Reps.of_strs _)⟩
    · exact h.elim
  | _ => exact h.elim
def gUpper : D → Opt
  | .str a => if a.length ≤ 5592405 then some (.str (Txt.upper a), .st) else none
  | _ => none
theorem pd_upper (ha : PDe X T Z W a f1) (hbase : attributeBase a "upper" X.env (eval a X.env) = eval a X.env := by rfl) (hline : (apos.endLine == cpos.line) = true := by rfl) :
    PDe X T Z W (.Call (.Attribute a "upper" apos) [] [] cpos) (unR gUpper f1) := by
  obtain ⟨ta, pa, ea⟩ := ha
  refine ⟨_, pe_upper pa hbase hline, ea.un (r := fun x H Q => (∃ a, x = .str a) ∧ ∃ a, x = .str a ∧ ([] : List V) = [] ∧ a.length ≤ 5592405 ∧ Q (.str (Txt.upper a)) H) fun A F H Q x d hA hF rx h => ?_⟩
  cases d with
  | str w =>
    rw [Rep] at rx
    subst rx
    simp only [gUpper] at h
    split at h
    · rename_i hl
      exact ⟨⟨w, rfl⟩, w, rfl, rfl, hl, post_st hF h rfl⟩
    · exact h.elim
  | _ => exact h.elim
end

/-! ### a def of the program -/
inductive Ret where
  | ok (d : D) | er (c : Ex) | no
/-- its promise, from what it computes -/
def spOf (T : Par) (g : List D → Ret) : Sp := fun vs H0 Q E => ∃ A ds, Same A H0 ∧ Reps T A vs ds ∧ match g ds with
  | .ok d => ∀ v F' H', Same H0 H' → Same F' H' → (∀ a o, F' a = some o → H0 a = none ∨ isTup o) → Rep T F' v d → Q v H'
  | .er c => ∀ H', Same H0 H' → E (.ref (T.cx c)) none H'
  | .no => False
def outR : Out → Ret
  | .rt d => .ok d
  | .nx _ => .ok .non
  | .er c _ => .er c
  | _ => .no
/-- what a def with n parameters and m further names computes -/
def defR (n m : Nat) (f : Dl → Out) (ds : List D) : Ret := if ds.length = n then outR (f (ds.map Slot.bo ++ List.replicate m .un)) else .no
def callR (g : List D → Ret) (fa : Dl → ResA) : Dl → Res := fun δ => match fa δ with
  | .ok ds _ => (match g ds with
    | .ok d => .ok d .dp
    | .er c => .er c
    | .no => .no)
  | .er c => .er c
  | .no => .no
theorem sp_len {T : Par} {n m : Nat} {f : Dl → Out} {vs : List V} {H : Hp} {Q : VK} {E : XK} (h : spOf T (defR n m f) vs H Q E) : vs.length = n := by
  obtain ⟨A, ds, _, r, h⟩ := h
  rw [r.length]
  unfold defR at h
  by_cases e : ds.length = n
  · exact e
  · rw [if_neg e] at h; exact h.elim
theorem start_eq {N : List Str} {vs : List V} {n m : Nat} (hv : vs.length = n) (hN : N.length = n + m) : L2.start N vs = vs.map some ++ List.replicate m none := by
  unfold L2.start
  congr 2
  omega
theorem sr_start {T : Par} {Z : Hd} {A H : Hp} {vs : List V} {ds : List D} {m : Nat} (hA : Same A H) (r : Reps T A vs ds) : SR T Z H A (ds.map Slot.bo ++ List.replicate m .un) (vs.map some ++ List.replicate m none) noH (fun _ _ => False) H := by
  have hl := r.length
  have hl2 : (vs.map some ++ List.replicate m (none : Option V)).length = (ds.map Slot.bo ++ List.replicate m Slot.un).length := by simp [hl]
  refine ⟨Same.refl _, hA, noH_same, (fun a o e => nomatch e), fun _ _ z => False.elim z, fun _ _ _ z _ => False.elim z, fun i x e => ?_, hl2⟩
  by_cases hi : i < ds.length
  · rw [List.getElem?_append_left (by simpa using hi), List.getElem?_map, List.getElem?_eq_getElem hi] at e
    cases e
    obtain ⟨v, e1, e2⟩ := r.get (List.getElem?_eq_getElem hi)
    refine ⟨some v, ?_, v, rfl, e2⟩
    rw [List.getElem?_append_left (by simpa [hl] using hi), List.getElem?_map, e1]
    rfl
  · rw [List.getElem?_append_right (by simpa using hi), List.getElem?_replicate] at e
    split at e
    · rename_i hm
      cases e
      refine ⟨none, ?_, trivial⟩
      rw [List.getElem?_append_right (by simp [hl]; omega), List.getElem?_replicate, if_pos (by simp [hl] at hm ⊢; omega)]
    · cases e
def Z0 : Hd := ⟨0, .none, none⟩
def wE (E : XK) : WX := fun cls d _ H => E cls d H
section
variable {P : Program} {w : World} {K : PySem.W.Frag} {mg : Str → Option Value} {base : Heap}
/-- THE RULE for a def -/
theorem fn_def {T : Par} {x qual : Str} {st : Stmt} {f : Addr} {fd : FuncData} {N ps : List Str} {k n m : Nat} {g : Dl → Out} (F : Fun K x qual st f fd) (S : FnScope N ps (defScope st)) (hn : ps.length = n) (hN : N.length = n + m)
    (hb : ∀ (cdv : Value) (A : Around) (outer : List Env) (s : Shared) (H : Hp) (E : XK), Room k (A.deeper (PyProof.Rows.envOfC qual (defScope st) s.heap.objs.size f cdv)) →
      PDss (cxOf (L2.CX P w) P w K mg base N qual (defScope st) f cdv A outer s H E) T Z0 (wE E) (defBody st) g) : FnOk P w K mg base (L2.CX P w) (k + 1) f fd ps (spOf T (defR n m g)) := by
  refine F.okX S (fun vs H Q E h => (sp_len h).trans hn.symm) fun cdv A outer s H vs Q E hr h => ?_
  obtain ⟨t, p, ev⟩ := hb cdv A outer s H E hr
  refine ⟨t, p, ?_⟩
  have hl := sp_len h
  obtain ⟨B, ds, hB, r, h⟩ := h
  rw [start_eq hl hN]
  refine ev H B _ _ noH _ H _ (sr_start hB r) ?_
  unfold defR at h
  rw [if_pos (by rw [← r.length]; exact hl)] at h
  cases hg : g (ds.map Slot.bo ++ List.replicate m .un) with
  | nx δ => rw [hg] at h; exact fun σ F' fp H' e s' => h .non F' H' s'.h0 s'.fh s'.fn (by rw [Rep])
  | rt d => rw [hg] at h; exact fun v F' H' e1 e2 e3 e4 => h v F' H' e1 e2 e3 e4
  | bk δ => rw [hg] at h; exact h.elim
  | ct δ => rw [hg] at h; exact h.elim
  | er c δ => rw [hg] at h; exact fun σ F' fp H' e s' => h H' s'.h0
  | no => rw [hg] at h; exact h.elim
end
section
variable {X : Cx} {T : Par} {Z : Hd} {W : WX} {a b c e o : Expr} {es : List Expr} {f1 f2 f3 : Dl → Res} {fa : Dl → ResA} {pos apos cpos p : Pos} {x : Str} {k : Nat} {f : Addr} {fd : FuncData} {ps : List Str} {g : List D → Ret}
theorem ev_call {t : TA} (ea : EvA T Z W t fa) : EvS T Z W (tCallS (spOf T g) (WE W) t) (callR g fa) := by
  intro H0 A δ σ F fp H Q s h
  refine ea H0 A δ σ F fp H _ s ?_
  unfold callR at h
  cases hf : fa δ with
  | no => rw [hf] at h; exact h.elim
  | er c => rw [hf] at h; exact h
  | ok ds st =>
    rw [hf] at h
    intro vs F' H' g' rs
    have r' : Reps T H' vs ds := by
      by_cases h2 : st = true
      · rw [if_pos h2] at rs; exact rs.mono g'.fh
      · rw [if_neg h2] at rs; exact rs
    refine ⟨H', ds, Same.refl _, r', ?_⟩
    simp only at h
    cases hg : g ds with
    | no => rw [hg] at h; exact h.elim
    | er c => rw [hg] at h; exact fun H2 e => h F' H2 ⟨g'.ff, g'.hh.trans e, g'.fh.trans e, g'.nw⟩
    | ok d =>
      rw [hg] at h
      intro v F2 H2 e1 e2 e3 r
      refine h v F' H2 ⟨g'.ff, g'.hh.trans e1, g'.fh.trans e1, g'.nw⟩ ⟨F2, e2, fun a u q => ?_, r⟩
      rcases e3 a u q with z | z
      · exact .inr ⟨g'.fh.free z, g'.hh.free z⟩
      · exact .inl z
theorem pd_call (F : FnOk X.prog X.w X.K X.mg X.base (L2.CX X.prog X.w) k f fd ps (spOf T g)) (hr : Room k X.A) (hm : X.mg x = some (.ref f)) (hk : PySem.W.keepIn X.K (.ref f) = true) (hb : Binds X.K fd ps []) (tk : Takes X W) (ha : PDa X T Z W (e :: es) fa) (hg : Gl X x := by rfl)
    (hdb : (x == ("__debug__" : Str)) = false := by decide) (he : starEach (e :: es) X.env = (false, eval e X.env) :: starEach es X.env := by rfl) (hpl : (backTo pos (starEach es X.env)).any (·.1) = false := by rfl) : PDe X T Z W (.Call (.Name x p) (e :: es) [] pos) (callR g fa) := by
  obtain ⟨t, pa, ea⟩ := ha
  exact ⟨_, pe_callS F hr hg hm hk hb (fun σ => passAt tk σ) pa hdb he hpl, ev_call ea⟩
end
end
end DD

set_option maxRecDepth 100000
namespace DD
noncomputable section
open PySem L2

/-! ### try .. except -/
def noEx (δ : Dl) : Bool := δ.all fun x => match x with
  | .ex _ => false
  | _ => true
section
variable {X : Cx} {T : Par} {Z Z' : Hd} {W : WX} {H0 A : Hp} {δ : Dl} {σ : L2.St} {F H : Hp} {fp : Nat → Addr → Prop}
theorem SR.reZ (s : SR T Z H0 A δ σ F fp H) (h : noEx δ = true) : SR T Z' H0 A δ σ F fp H :=
  ⟨s.h0, s.ah, s.fh, s.fn, s.own, s.sep, fun i y e => by
    obtain ⟨o, h1, h2⟩ := s.sl i y e
    refine ⟨o, h1, ?_⟩
    cases y with
    | ex c =>
      unfold noEx at h
      rw [List.all_eq_true] at h
      have := h _ (List.mem_of_getElem? e)
      cases this
    | un => exact h2
    | sh d => exact h2
    | bo d => exact h2
    | ow d => exact h2
    | dp d => exact h2
    | an d => exact h2, s.len⟩
end
/-- behind a suite: j the slot of the clause's name, if it has one -/
def unO (j : Option Nat) (δ : Dl) : Dl := match j with
  | some j => δ.set j .un
  | none => δ
def behO (j : Option Nat) : Out → Out
  | .nx δ => (match noEx (unO j δ) with
    | true => .nx (unO j δ)
    | false => .no)
  | .bk δ => (match noEx (unO j δ) with
    | true => .bk (unO j δ)
    | false => .no)
  | .ct δ => (match noEx (unO j δ) with
    | true => .ct (unO j δ)
    | false => .no)
  | .rt d => .rt d
  | _ => .no
def exO (j : Option Nat) (c : Ex) (δ : Dl) : Dl := match j with
  | some j => δ.set j (.ex c)
  | none => δ
/-- takes: which exceptions the clause names -/
def tryO (j : Option Nat) (takes : Ex → Bool) (body suite : Dl → Out) : Dl → Out := fun δ => match body δ with
  | .er c δ' => if takes c = true then (if noEx δ' = true then behO j (suite (exO j c δ')) else .no) else .er c δ'
  | o => o
section
variable {X : Cx} {T : Par} {Z : Hd} {W : WX} {body suite : List Stmt} {b₀ : Stmt} {x n : Str} {c : Value} {np pos pos' : Pos} {k1 k2 : Dl → Out} {takes : Ex → Bool}
/-- readings for all bodies of a try -/
theorem ev_allS {ι : Type} {f : Dl → Out} {Y : ι → Cx} {C : ι → Prop} {es : List Stmt} {Z' : Hd} (h : ∀ i, C i → PDss (Y i) T Z' W es f) : ∃ t, (∀ i, C i → PSs (Y i) es t) ∧ StS T Z' W t (fun δ => f δ) ∧ True :=
  ⟨fun D σ H => ∀ i, C i → ∃ t, PSs (Y i) es t ∧ t D σ H, fun i hc => ⟨fun pins s σ H D I w => by
    obtain ⟨t, p, q⟩ := w i hc
    exact p.run pins s σ H D I q⟩, fun H0 A δ σ F fp H D s w i hc => by
    obtain ⟨t, p, ev⟩ := h i hc
    exact ⟨t, p, ev H0 A δ σ F fp H D s w⟩, trivial⟩
theorem sd_try_only (hs : X.stack = X.env :: X.outer) (hf : X.env.frame = some X.env.locals) (hc : Names X x c) (tk : Takes X W) (ht : ∀ c', PySem.W.exmOne X.K (.ref (T.cx c')) c = some (takes c'))
    (hb : ∀ (W' : WX) (pn : List (Addr × Obj)) (xe : Value → Shared → Prop), Takes (X.tr pn xe) W' → PassesOwn (model X.prog X.w) X.A X.env xe → PDss (X.tr pn xe) T Z W' body k1)
    (hsu : ∀ (a : Addr) (oe : Obj) (cls : Value) (d : Option Addr) (pn : List (Addr × Obj)), Zc cls d oe → (∃ vs, oe.data = .fields vs) → PDss (X.suite a ((a, oe) :: pn)) T ⟨a, cls, d⟩ noW (b₀ :: suite) k2) :
    PDs X T Z W (.Try body [.ExceptHandler (some (.Name x np)) none (b₀ :: suite) pos'] [] [] pos) (tryO none takes k1 k2) := by
  let tb : WX → TS := fun W' D σ H => ∀ pn xe, Takes (X.tr pn xe) W' → PassesOwn (model X.prog X.w) X.A X.env xe → ∃ t, PSs (X.tr pn xe) body t ∧ t D σ H
  let ts : Addr → Value → Option Addr → TS := fun a cls d D σ H => ∀ oe pn, Zc cls d oe → (∃ vs, oe.data = .fields vs) → ∃ t, PSs (X.suite a ((a, oe) :: pn)) (b₀ :: suite) t ∧ t D σ H
  refine ⟨_, ps_try_only (tb := tb) (ts := ts) hs hf hc tk (fun W' pn xe h1 h2 => ⟨fun pins s σ H D I w => ?_⟩) (fun a oe cls d pn h1 h2 => ⟨fun pins s σ H D I w => ?_⟩), ?_⟩
  · obtain ⟨t, p, q⟩ := w pn xe h1 h2
    exact p.run pins s σ H D I q
  · obtain ⟨t, p, q⟩ := w oe pn h1 h2
    exact p.run pins s σ H D I q
  · intro H0 A δ σ F fp H E s h
    show tb _ E σ H
    intro pn xe h1 h2
    obtain ⟨t, p, ev⟩ := hb _ pn xe h1 h2
    refine ⟨t, p, ev H0 A δ σ F fp H E s ?_⟩
    unfold tryO at h
    cases hk : k1 δ with
    | nx δ' => rw [hk] at h; exact h
    | bk δ' => rw [hk] at h; exact h
    | ct δ' => rw [hk] at h; exact h
    | rt d => rw [hk] at h; exact h
    | no => rw [hk] at h; exact h
    | er c' δ' =>
      rw [hk] at h
      intro σ' F' fp' H' e s'
      refine ⟨takes c', ht c', fun hb' a na oe pn' z1 z2 => ?_, fun hb' => ?_⟩
      · simp only at h
        rw [if_pos hb'] at h
        split at h
        case isFalse => exact h.elim
        rename_i hne
        obtain ⟨t', p', ev'⟩ := hsu a oe (.ref (T.cx c')) none pn' z1 z2
        refine ⟨t', p', ev' H0 A δ' σ' F' fp' H' E (s'.reZ hne) ?_⟩
        have h := h.later e
        simp only [exO] at h
        cases hk2 : k2 δ' with
        | nx δ2 =>
          rw [hk2] at h
          simp only [behO, unO] at h
          cases hn2 : noEx δ2 with
          | true =>
            rw [hn2] at h
            exact fun σ2 F2 fp2 H2 e2 s2 => h σ2 F2 fp2 H2 e2 (s2.reZ hn2)
          | false => rw [hn2] at h; exact h.elim
        | bk δ2 =>
          rw [hk2] at h
          simp only [behO, unO] at h
          cases hn2 : noEx δ2 with
          | true =>
            rw [hn2] at h
            exact fun σ2 F2 fp2 H2 e2 s2 => h σ2 F2 fp2 H2 e2 (s2.reZ hn2)
          | false => rw [hn2] at h; exact h.elim
        | ct δ2 =>
          rw [hk2] at h
          simp only [behO, unO] at h
          cases hn2 : noEx δ2 with
          | true =>
            rw [hn2] at h
            exact fun σ2 F2 fp2 H2 e2 s2 => h σ2 F2 fp2 H2 e2 (s2.reZ hn2)
          | false => rw [hn2] at h; exact h.elim
        | rt d => rw [hk2] at h; exact h
        | er c2 δ2 => rw [hk2] at h; exact h.elim
        | no => rw [hk2] at h; exact h.elim
      · simp only at h
        rw [if_neg (by rw [hb']; decide)] at h
        exact h σ' F' fp' H' e s'
theorem sd_try_as (j : Nat) (hs : X.stack = X.env :: X.outer) (hf : X.env.frame = some X.env.locals) (hN : X.N.Nodup) (hj : X.N[j]? = some n) (hln : X.env.kindOf n = some .local) (hc : Names X x c) (tk : Takes X W) (ht : ∀ c', PySem.W.exmOne X.K (.ref (T.cx c')) c = some (takes c'))
    (hb : ∀ (W' : WX) (pn : List (Addr × Obj)) (xe : Value → Shared → Prop), Takes (X.tr pn xe) W' → PassesOwn (model X.prog X.w) X.A X.env xe → PDss (X.tr pn xe) T Z W' body k1)
    (hsu : ∀ (a : Addr) (oe : Obj) (cls : Value) (d : Option Addr) (pn : List (Addr × Obj)), Zc cls d oe → (∃ vs, oe.data = .fields vs) → PDss (X.suite a ((a, oe) :: pn)) T ⟨a, cls, d⟩ noW (b₀ :: suite) k2) :
    PDs X T Z W (.Try body [.ExceptHandler (some (.Name x np)) (some n) (b₀ :: suite) pos'] [] [] pos) (tryO (some j) takes k1 k2) := by
  let tb : WX → TS := fun W' D σ H => ∀ pn xe, Takes (X.tr pn xe) W' → PassesOwn (model X.prog X.w) X.A X.env xe → ∃ t, PSs (X.tr pn xe) body t ∧ t D σ H
  let ts : Addr → Value → Option Addr → TS := fun a cls d D σ H => ∀ oe pn, Zc cls d oe → (∃ vs, oe.data = .fields vs) → ∃ t, PSs (X.suite a ((a, oe) :: pn)) (b₀ :: suite) t ∧ t D σ H
  refine ⟨_, ps_try_as (i := j) (tb := tb) (ts := ts) hs hf hN hj hln hc tk (fun W' pn xe h1 h2 => ⟨fun pins s σ H D I w => ?_⟩) (fun a oe cls d pn h1 h2 => ⟨fun pins s σ H D I w => ?_⟩), ?_⟩
  · obtain ⟨t, p, q⟩ := w pn xe h1 h2
    exact p.run pins s σ H D I q
  · obtain ⟨t, p, q⟩ := w oe pn h1 h2
    exact p.run pins s σ H D I q
  · intro H0 A δ σ F fp H E s h
    show tb _ E σ H
    intro pn xe h1 h2
    obtain ⟨t, p, ev⟩ := hb _ pn xe h1 h2
    refine ⟨t, p, ev H0 A δ σ F fp H E s ?_⟩
    unfold tryO at h
    cases hk : k1 δ with
    | nx δ' => rw [hk] at h; exact h
    | bk δ' => rw [hk] at h; exact h
    | ct δ' => rw [hk] at h; exact h
    | rt d => rw [hk] at h; exact h
    | no => rw [hk] at h; exact h
    | er c' δ' =>
      rw [hk] at h
      intro σ' F' fp' H' e s'
      refine ⟨takes c', ht c', fun hb' a na oe pn' z1 z2 => ?_, fun hb' => ?_⟩
      · simp only at h
        rw [if_pos hb'] at h
        split at h
        case isFalse => exact h.elim
        rename_i hne
        obtain ⟨t', p', ev'⟩ := hsu a oe (.ref (T.cx c')) none pn' z1 z2
        have s2 : SR T ⟨a, .ref (T.cx c'), none⟩ H0 A (δ'.set j (.ex c')) (σ'.set j (some (.ref a))) F' _ H' := (s'.reZ hne).setSh j (x := .ex c') ⟨rfl, rfl, rfl⟩
        refine ⟨t', p', ev' H0 A _ _ F' _ H' _ s2 ?_⟩
        have h := h.later e
        simp only [exO] at h
        cases hk2 : k2 (δ'.set j (.ex c')) with
        | nx δ2 =>
          rw [hk2] at h
          simp only [behO, unO] at h
          cases hn2 : noEx (δ2.set j .un) with
          | true =>
            rw [hn2] at h
            exact fun σ2 F2 fp2 H2 e2 s2 => h _ F2 fp2 H2 e2 ((s2.unset j).reZ hn2)
          | false => rw [hn2] at h; exact h.elim
        | bk δ2 =>
          rw [hk2] at h
          simp only [behO, unO] at h
          cases hn2 : noEx (δ2.set j .un) with
          | true =>
            rw [hn2] at h
            exact fun σ2 F2 fp2 H2 e2 s2 => h _ F2 fp2 H2 e2 ((s2.unset j).reZ hn2)
          | false => rw [hn2] at h; exact h.elim
        | ct δ2 =>
          rw [hk2] at h
          simp only [behO, unO] at h
          cases hn2 : noEx (δ2.set j .un) with
          | true =>
            rw [hn2] at h
            exact fun σ2 F2 fp2 H2 e2 s2 => h _ F2 fp2 H2 e2 ((s2.unset j).reZ hn2)
          | false => rw [hn2] at h; exact h.elim
        | rt d => rw [hk2] at h; exact h
        | er c2 δ2 => rw [hk2] at h; exact h.elim
        | no => rw [hk2] at h; exact h.elim
      · simp only at h
        rw [if_neg (by rw [hb']; decide)] at h
        exact h σ' F' fp' H' e s'
end

/-! ### isinstance of the handled exception -/
def isER (i : Nat) (b : Ex → Bool) : Dl → Res := fun δ => match δ[i]? with
  | some (.ex c) => .ok (.bl (b c)) .st
  | _ => .no
section
variable {X : Cx} {T : Par} {W : WX} {a : Addr} {oe : Obj} {pn : List (Addr × Obj)} {cls : Value} {d : Option Addr} {b : Ex → Bool}
theorem pd_isE (i : Nat) {x y : Str} {v : V} {cv : Value} {p1 p2 p3 pos : Pos} (hz : Zc cls d oe) (hf : ∃ vs, oe.data = .fields vs) (hE : ∀ c, ExcC X.K (T.cx c)) (hb : ∀ c, PySem.W.kitOne X.K (.ref (T.cx c)) cv = some (b c))
    (hm : X.mg "isinstance" = none) (hc : PE (X.suite a ((a, oe) :: pn)) (.Name y p2) (tC v)) (hv : ∀ u, RelV v u → u = cv) (hN : X.N[i]? = some x := by rfl) (hvis : Vis X.env.scope x := by first | exact Or.inl rfl | exact Or.inr (Or.inl rfl) | exact Or.inr (Or.inr rfl)) (hd : (x == ("__debug__" : Str)) = false := by decide)
    (hcd : (x == ("__classdict__" : Str)) = false := by decide) (hg : Gl X "isinstance" := by rfl)
    (he : starEach [.Name x p1, .Name y p2] X.env = (false, eval (.Name x p1) X.env) :: starEach [.Name y p2] X.env := by rfl) (he2 : starEach [.Name y p2] X.env = (false, eval (.Name y p2) X.env) :: starEach [] X.env := by rfl) (hpl : (backTo pos (starEach [.Name y p2] X.env)).any (·.1) = false := by rfl)
    (hboot : bootBuiltins "isinstance" = some (.builtin "isinstance") := by decide +kernel) :
    PDe (X.suite a ((a, oe) :: pn)) T ⟨a, cls, d⟩ W (.Call (.Name "isinstance" p3) [.Name x p1, .Name y p2] [] pos) (isER i b) := by
  refine ⟨fun σ H Q => ∃ c, cls = .ref (T.cx c) ∧ d = none ∧ tCB (rIsE X.K (T.cx c) a) (tCons (tVar i) (tCons (tC v) tNil)) σ H Q, ⟨fun pins s σ H Q I h => ?_⟩, ?_⟩
  · obtain ⟨c, rfl, rfl, h⟩ := h
    have pv : PE (X.suite a ((a, oe) :: pn)) (.Name x p1) (tVar i) := pe_var hN hvis hd hcd
    exact (pe_callB (X := X.suite a ((a, oe) :: pn)) (call_isE (hE c) hz hf) hg hm hboot (pa_cons pv (pa_cons hc pa_nil he2) he) (by decide) (by decide) he hpl).run pins s σ H Q I h
  · intro H0 A δ σ F fp H Q s h
    unfold isER at h
    cases e : δ[i]? with
    | none => rw [e] at h; exact h.elim
    | some y =>
      rw [e] at h
      cases y with
      | ex c =>
        obtain ⟨o, h1, h2, h3, h4⟩ := s.sl i _ e
        subst h2
        refine ⟨c, h3, h4, _, h1, v, cv, b c, rfl, hv, hb c, ?_⟩
        exact h (.bl (b c)) F H (Grow.refl s.fh) (by show Rep T F _ _; rw [Rep])
      | _ => exact h.elim
end

/-! ### a, b = e -/
def unpO (i j : Nat) (f : Dl → Res) : Dl → Out := fun δ => match f δ with
  | .ok (.tup [d, e]) k => if stK (.tup [d, e]) k = true then .nx ((δ.set i (.sh d)).set j (.sh e)) else .no
  | .er c => .er c δ
  | _ => .no
section
variable {X : Cx} {T : Par} {Z : Hd} {W : WX} {e : Expr} {f1 : Dl → Res} {pos : Pos}
theorem sd_unp {x y : Str} {px py pt : Pos} {kt : Nat} (i j : Nat) (hN : X.N.Nodup) (he : PDe X T Z W e f1) (hi : X.N[i]? = some x := by rfl) (hj : X.N[j]? = some y := by rfl) (hx : Loc X.env.scope x := by first | exact Or.inl rfl | exact Or.inr rfl) (hy : Loc X.env.scope y := by first | exact Or.inl rfl | exact Or.inr rfl)
    (hc : X.calm = true := by rfl) (hK : X.K = T.K := by rfl) (hfx : X.fn x = true ∨ X.env.scope.names.lookup x = some .local := by first | exact .inl rfl | exact .inr rfl) (hfy : X.fn y = true ∨ X.env.scope.names.lookup y = some .local := by first | exact .inl rfl | exact .inr rfl)
    (hn : (assignEach [.Name x px, .Name y py] X.env).length = 2 := by rfl) (hst : (assignEach [.Name x px, .Name y py] X.env).findIdx? (·.1) = none := by rfl)
    (hs1 : (assignEach [.Name x px, .Name y py] X.env).map (·.2) = assign (.Name x px) X.env :: (assignEach [.Name y py] X.env).map (·.2) := by rfl) (hs2 : (assignEach [.Name y py] X.env).map (·.2) = assign (.Name y py) X.env :: (assignEach [] X.env).map (·.2) := by rfl)
    (hs : swapsWithSole [.Tuple [.Name x px, .Name y py] kt pt] e pos.line X.env = pure false := by rfl) (hw : swappedStores [.Tuple [.Name x px, .Name y py] kt pt] e X.env = pure none := by rfl)
    (h1 : (assignEach [.Tuple [.Name x px, .Name y py] kt pt] X.env).map (·.2) = [assign (.Tuple [.Name x px, .Name y py] kt pt) X.env] := by rfl) :
    PDs X T Z W (.Assign [.Tuple [.Name x px, .Name y py] kt pt] e pos) (unpO i j f1) := by
  obtain ⟨t, pe, ev⟩ := he
  refine ⟨_, ps_asg pe (pg_tup (n := 2) hc (pgs_cons (pg_name hN hi hx hfx) (pgs_cons (pg_name hN hj hy hfy) pgs_nil hs2) hs1) hn hst) hs hw h1, ?_⟩
  rw [hK]
  intro H0 A δ σ F fp H E s h
  unfold unpO at h
  refine ev.stm s h (fun c hc => by rw [hc]) (fun hc => by rw [hc]) fun d kd v F' H' hf g r => ?_
  rw [hf] at h
  match d, h, r with
  | .tup [d, e], h, r =>
    simp only at h
    split at h
    case isFalse => exact h.elim
    rename_i hk
    have s' := s.grow g
    obtain ⟨F2, g2, r2⟩ := r.shareG g s'.aH hk
    rw [Rep] at r2
    obtain ⟨p, vs, rfl, e1, e2⟩ := r2
    have s2 := s.grow g2
    match vs, e2 with
    | [v1, v2], e2 =>
      simp only [Reps] at e2
      refine ⟨p, [v1, v2], rfl, SqT.of (g2.fh _ _ e1), rfl, v1, [v2], rfl, v2, [], rfl, rfl, ?_⟩
      exact h _ F2 _ _ g2.ff ((s2.setSh i (x := .sh d) ⟨v1, rfl, e2.1⟩).setSh j (x := .sh e) ⟨v2, rfl, e2.2.1⟩)
    | [], e2 => simp [Reps] at e2
    | [v1], e2 => simp [Reps] at e2
    | v1 :: v2 :: v3 :: r, e2 => simp [Reps] at e2
end
end
end DD

set_option maxRecDepth 100000
namespace DD
noncomputable section
open PySem L2

/-! ### short words -/
def arg1 (f : Dl → Res) : Dl → ResA := consR f nilR
def arg2 (f g : Dl → Res) : Dl → ResA := consR f (consR g nilR)
section
variable {X : Cx} {T : Par} {Z : Hd} {W : WX} {a b c e o : Expr} {es : List Expr} {f1 f2 f3 : Dl → Res} {fa : Dl → ResA} {pos apos cpos p : Pos} {x : Str}
theorem pd_len (ha : PDe X T Z W a f1) (hm : X.mg "len" = none) (hK : X.K = T.K := by rfl) (hg : Gl X "len" := by rfl) (he : starEach [a] X.env = (false, eval a X.env) :: starEach [] X.env := by rfl) (hpl : (backTo pos (starEach [] X.env)).any (·.1) = false := by rfl) :
    PDe X T Z W (.Call (.Name "len" p) [a] [] pos) (cbR gLen (arg1 f1)) := pd_callB (r := fun xs H Q => ∃ x n, xs = [x] ∧ LenV T.K x H n ∧ Q (.int n) H) (by rw [← hK]; exact call_len) cs_len hm (by decide +kernel) (ad_cons ha ad_nil he) hg (by decide) (by decide) he hpl
theorem pd_list (ha : PDe X T Z W a f1) (hm : X.mg "list" = none) (hK : X.K = T.K := by rfl) (hg : Gl X "list" := by rfl) (he : starEach [a] X.env = (false, eval a X.env) :: starEach [] X.env := by rfl) (hpl : (backTo pos (starEach [] X.env)).any (·.1) = false := by rfl) :
    PDe X T Z W (.Call (.Name "list" p) [a] [] pos) (cbR gList (arg1 f1)) := pd_callTy (r := fun xs H Q => ∃ p ys, xs = [.ref p] ∧ (SqL T.K H p ys ∨ SqT T.K H p ys) ∧ ∀ l, H l = none → Q (.ref l) (upd H l (.lst ys))) (by rw [← hK]; exact call_list_of) cs_list hm (by decide +kernel) (ad_cons ha ad_nil he) hg (by decide) (by decide) he hpl
theorem pd_intc (ha : PDe X T Z W a f1) (hm : X.mg "int" = none) (hg : Gl X "int" := by rfl) (he : starEach [a] X.env = (false, eval a X.env) :: starEach [] X.env := by rfl) (hpl : (backTo pos (starEach [] X.env)).any (·.1) = false := by rfl) :
    PDe X T Z W (.Call (.Name "int" p) [a] [] pos) (cbR gInt (arg1 f1)) := pd_callTy (CallR.or call_int1 call_int_str) cs_int hm (by decide +kernel) (ad_cons ha ad_nil he) hg (by decide) (by decide) he hpl
theorem pd_strI (ha : PDe X T Z W a f1) (hm : X.mg "str" = none) (hg : Gl X "str" := by rfl) (he : starEach [a] X.env = (false, eval a X.env) :: starEach [] X.env := by rfl) (hpl : (backTo pos (starEach [] X.env)).any (·.1) = false := by rfl) :
    PDe X T Z W (.Call (.Name "str" p) [a] [] pos) (cbR gStrI (arg1 f1)) := pd_callTy call_str_int cs_strI hm (by decide +kernel) (ad_cons ha ad_nil he) hg (by decide) (by decide) he hpl
theorem pd_sum (ha : PDe X T Z W a f1) (hm : X.mg "sum" = none) (hK : X.K = T.K := by rfl) (hc : X.calm = true := by rfl) (hg : Gl X "sum" := by rfl) (he : starEach [a] X.env = (false, eval a X.env) :: starEach [] X.env := by rfl) (hpl : (backTo pos (starEach [] X.env)).any (·.1) = false := by rfl) :
    PDe X T Z W (.Call (.Name "sum" p) [a] [] pos) (cbR gSum (arg1 f1)) := pd_callB (r := rSum T.K) (by rw [← hK]; exact cr_sum hc) cs_sum hm (by decide +kernel) (ad_cons ha ad_nil he) hg (by decide) (by decide) he hpl
theorem pd_all (ha : PDe X T Z W a f1) (hm : X.mg "all" = none) (hK : X.K = T.K := by rfl) (hc : X.calm = true := by rfl) (hg : Gl X "all" := by rfl) (he : starEach [a] X.env = (false, eval a X.env) :: starEach [] X.env := by rfl) (hpl : (backTo pos (starEach [] X.env)).any (·.1) = false := by rfl) :
    PDe X T Z W (.Call (.Name "all" p) [a] [] pos) (cbR gAll (arg1 f1)) := pd_callB (r := rAll T.K) (by rw [← hK]; exact cr_all hc) cs_all hm (by decide +kernel) (ad_cons ha ad_nil he) hg (by decide) (by decide) he hpl
theorem pd_min (ha : PDe X T Z W a f1) (hm : X.mg "min" = none) (hK : X.K = T.K := by rfl) (hc : X.calm = true := by rfl) (hg : Gl X "min" := by rfl) (he : starEach [a] X.env = (false, eval a X.env) :: starEach [] X.env := by rfl) (hpl : (backTo pos (starEach [] X.env)).any (·.1) = false := by rfl) :
    PDe X T Z W (.Call (.Name "min" p) [a] [] pos) (cbR gMin (arg1 f1)) := pd_callB (r := rMin T.K) (by rw [← hK]; exact cr_min hc) cs_min hm (by decide +kernel) (ad_cons ha ad_nil he) hg (by decide) (by decide) he hpl
theorem pd_min2 (ha : PDe X T Z W a f1) (hb : PDe X T Z W b f2) (hm : X.mg "min" = none) (hc : X.calm = true := by rfl) (hg : Gl X "min" := by rfl) (he : starEach [a, b] X.env = (false, eval a X.env) :: starEach [b] X.env := by rfl) (he2 : starEach [b] X.env = (false, eval b X.env) :: starEach [] X.env := by rfl) (hpl : (backTo pos (starEach [b] X.env)).any (·.1) = false := by rfl) :
    PDe X T Z W (.Call (.Name "min" p) [a, b] [] pos) (cbR gMin2 (arg2 f1 f2)) := pd_callB (call_min2 hc) cs_min2 hm (by decide +kernel) (ad_cons ha (ad_cons hb ad_nil he2) he) hg (by decide) (by decide) he hpl
theorem pd_max2 (ha : PDe X T Z W a f1) (hb : PDe X T Z W b f2) (hm : X.mg "max" = none) (hc : X.calm = true := by rfl) (hg : Gl X "max" := by rfl) (he : starEach [a, b] X.env = (false, eval a X.env) :: starEach [b] X.env := by rfl) (he2 : starEach [b] X.env = (false, eval b X.env) :: starEach [] X.env := by rfl) (hpl : (backTo pos (starEach [b] X.env)).any (·.1) = false := by rfl) :
    PDe X T Z W (.Call (.Name "max" p) [a, b] [] pos) (cbR gMax2 (arg2 f1 f2)) := pd_callB (call_max2 hc) cs_max2 hm (by decide +kernel) (ad_cons ha (ad_cons hb ad_nil he2) he) hg (by decide) (by decide) he hpl
end



section
variable {X : Cx} {T : Par} {Z : Hd} {W : WX} {x : Str} {pos : Pos} {t : Tok}
theorem pd_globI {i : Int} (hm : X.mg x = some (.int i t)) (hg : Gl X x := by rfl) (hdb : (x == ("__debug__" : Str)) = false := by decide) : PDe X T Z W (.Name x pos) (conR (.int i)) := pd_glob (v := .int i) hm ⟨t, rfl⟩ rfl hg hdb
theorem pd_globS {s : Str} (hm : X.mg x = some (.str s t)) (hg : Gl X x := by rfl) (hdb : (x == ("__debug__" : Str)) = false := by decide) : PDe X T Z W (.Name x pos) (conR (.str s)) := pd_glob (v := .str s) hm ⟨t, rfl⟩ rfl hg hdb
end

/-! ### tests that are comparisons -/
section
variable {X : Cx} {T : Par} {Z : Hd} {W : WX} {a b c : Expr} {f1 f2 f3 : Dl → Res} {pos : Pos}
theorem EvS.tst {ta : TE} (ea : EvS T Z W ta f1) : EvB T Z W (tB ta) (tstR f1) := by
  intro H0 A δ σ F fp H Q s h
  refine ea H0 A δ σ F fp H _ s ?_
  unfold tstR at h
  cases hf : f1 δ with
  | ok d k =>
    rw [hf] at h
    cases d with
    | bl c =>
      intro v F' H' g r
      have s1 := s.grow g
      have rv := r.rep s1.aH s1.fh
      rw [Rep] at rv
      exact ⟨c, rv, h F' H' g⟩
    | _ => exact h.elim
  | er c => rw [hf] at h; exact h
  | no => rw [hf] at h; exact h.elim
theorem td_cmp {op : CmpOp} {r : R2} {g : D → D → Opt} (ho : OpR X (compareOp op) r) (hr : OpS T r g) (ha : PDe X T Z W a f1) (hb : PDe X T Z W b f2) (hm : behindInMarks op b = false) : PDt X T Z W (.Compare a [op] [b] pos) (tstR (opR g f1 f2)) := by
  obtain ⟨ta, pa, ea⟩ := ha
  obtain ⟨tb, pb, eb⟩ := hb
  exact ⟨_, pt_cmpR ho pa pb hm, (ea.two eb hr).tst⟩
theorem td_lt (ha : PDe X T Z W a f1) (hb : PDe X T Z W b f2) : PDt X T Z W (.Compare a [.Lt] [b] pos) (tstR (opR gLt f1 f2)) := td_cmp op_lt os_lt ha hb (nobehind _ (by decide) (by decide))
theorem td_le (ha : PDe X T Z W a f1) (hb : PDe X T Z W b f2) : PDt X T Z W (.Compare a [.LtE] [b] pos) (tstR (opR gLe f1 f2)) := td_cmp op_le os_le ha hb (nobehind _ (by decide) (by decide))
theorem td_gt (ha : PDe X T Z W a f1) (hb : PDe X T Z W b f2) : PDt X T Z W (.Compare a [.Gt] [b] pos) (tstR (opR gGt f1 f2)) := td_cmp op_gt os_gt ha hb (nobehind _ (by decide) (by decide))
theorem td_ge (ha : PDe X T Z W a f1) (hb : PDe X T Z W b f2) : PDt X T Z W (.Compare a [.GtE] [b] pos) (tstR (opR gGe f1 f2)) := td_cmp op_ge os_ge ha hb (nobehind _ (by decide) (by decide))
theorem td_eq (hu : X.A.units + 64 < cLine) (ha : PDe X T Z W a f1) (hb : PDe X T Z W b f2) (hK : X.K = T.K := by rfl) : PDt X T Z W (.Compare a [.Eq] [b] pos) (tstR (opR gEq f1 f2)) := by
  refine td_cmp (r := rEqA T.K) ?_ os_eq ha hb (nobehind _ (by decide) (by decide))
  rw [← hK]
  exact OpR.or op_eq (op_eqD hu)
theorem td_ne (hu : X.A.units + 64 < cLine) (ha : PDe X T Z W a f1) (hb : PDe X T Z W b f2) (hK : X.K = T.K := by rfl) : PDt X T Z W (.Compare a [.NotEq] [b] pos) (tstR (opR gNe f1 f2)) := by
  refine td_cmp (r := rNeA T.K) ?_ os_ne ha hb (nobehind _ (by decide) (by decide))
  rw [← hK]
  exact OpR.or op_ne (op_neD hu)
theorem td_in (ha : PDe X T Z W a f1) (hb : PDe X T Z W b f2) (hm : behindInMarks .In b = false := by rfl) (hK : X.K = T.K := by rfl) : PDt X T Z W (.Compare a [.In] [b] pos) (tstR (opR gIn f1 f2)) := by
  refine td_cmp (r := rInA T.K false) ?_ os_in ha hb hm
  rw [← hK]
  exact OpR.or op_in_seq op_inSg
theorem td_notIn (ha : PDe X T Z W a f1) (hb : PDe X T Z W b f2) (hm : behindInMarks .NotIn b = false := by rfl) (hK : X.K = T.K := by rfl) : PDt X T Z W (.Compare a [.NotIn] [b] pos) (tstR (opR gNotIn f1 f2)) := by
  refine td_cmp (r := rInA T.K true) ?_ os_notIn ha hb hm
  rw [← hK]
  exact OpR.or op_notIn_seq op_ninSg
theorem td_isN {j pos'} (ha : PDe X T Z W a f1) : PDt X T Z W (.Compare a [.Is] [.Constant .none j pos'] pos) (tstR (unR gIsN f1)) := by
  obtain ⟨ta, pa, ea⟩ := ha
  refine ⟨_, pt_cmp (pc_isN pa), (ea.un (r := fun x H Q => Q (.bl (decide (x = .non))) H) fun A F H Q x d hA hF rx h => ?_).tst⟩
  show Q (.bl (decide (x = .non))) H
  rw [isNon_rep rx]
  exact post_st hF h rfl
theorem td_notN {j pos'} (ha : PDe X T Z W a f1) : PDt X T Z W (.Compare a [.IsNot] [.Constant .none j pos'] pos) (tstR (unR gNotN f1)) := by
  obtain ⟨ta, pa, ea⟩ := ha
  refine ⟨_, pt_cmp (pc_notN pa), (ea.un (r := fun x H Q => Q (.bl (!decide (x = .non))) H) fun A F H Q x d hA hF rx h => ?_).tst⟩
  show Q (.bl (!decide (x = .non))) H
  rw [isNon_rep rx]
  exact post_st hF h rfl
theorem EvS.din {ta tb : TE} (ea : EvS T Z W ta f1) (eb : EvS T Z W tb f2) : EvS T Z W (tDIn ta tb) (opR gDIn f1 f2) := by
  refine EvS.two (r := fun y x H Q => ∃ a o, x = .ref a ∧ DGet H a y o ∧ Q (.bl o.isSome) H) ea eb fun A F H Q y x d e hA hF ry rx h => ?_
  unfold gDIn at h
  cases hb : dgetB e d with
  | none => rw [hb] at h; exact h.elim
  | some r =>
    rw [hb] at h
    obtain ⟨p, rfl, q, _⟩ := dgetB_rule rx ry hb
    refine ⟨p, _, rfl, q, ?_⟩
    rw [Option.isSome_map]
    exact post_st hF h rfl
theorem EvS.dnotin {ta tb : TE} (ea : EvS T Z W ta f1) (eb : EvS T Z W tb f2) : EvS T Z W (tDNotIn ta tb) (opR gDNotIn f1 f2) := by
  refine EvS.two (r := fun y x H Q => ∃ a o, x = .ref a ∧ DGet H a y o ∧ Q (.bl (!o.isSome)) H) ea eb fun A F H Q y x d e hA hF ry rx h => ?_
  unfold gDNotIn at h
  cases hb : dgetB e d with
  | none => rw [hb] at h; exact h.elim
  | some r =>
    rw [hb] at h
    obtain ⟨p, rfl, q, _⟩ := dgetB_rule rx ry hb
    refine ⟨p, _, rfl, q, ?_⟩
    rw [Option.isSome_map]
    exact post_st hF h rfl
theorem td_din (hu : X.A.units + 1 < cLine) (ha : PDe X T Z W a f1) (hb : PDe X T Z W b f2) (h1 : behindInMarks .In b = false := by rfl) : PDt X T Z W (.Compare a [.In] [b] pos) (tstR (opR gDIn f1 f2)) := by
  obtain ⟨ta, pa, ea⟩ := ha
  obtain ⟨tb, pb, eb⟩ := hb
  exact ⟨_, pt_cmp (pc_din hu pa pb) h1, (ea.din eb).tst⟩
theorem td_dnotin (hu : X.A.units + 1 < cLine) (ha : PDe X T Z W a f1) (hb : PDe X T Z W b f2) (h1 : behindInMarks .NotIn b = false := by rfl) : PDt X T Z W (.Compare a [.NotIn] [b] pos) (tstR (opR gDNotIn f1 f2)) := by
  obtain ⟨ta, pa, ea⟩ := ha
  obtain ⟨tb, pb, eb⟩ := hb
  exact ⟨_, pt_cmp (pc_dnotin hu pa pb) h1, (ea.dnotin eb).tst⟩
theorem EvS.chain {r r' : R2} {g g' : D → D → Opt} {ta tb tc : TE} (hr : OpS T r g) (hr' : OpS T r' g') (ea : EvS T Z W ta f1) (eb : EvS T Z W tb f2) (ec : EvS T Z W tc f3) : EvS T Z W (tChain r r' ta tb tc) (chR g g' f1 f2 f3) := by
  intro H0 A δ σ F fp H Q s h
  unfold chR at h
  refine ea.then_ s h _ fun d k v F1 H1 _ g1 s1 r1 h1 => ?_
  have h1' := h1.later g1
  refine eb.then_ s1 h1' _ fun e k2 u F2 H2 _ g2 s2 r2 h2 => ?_
  have q := h2.later g2
  have rv := (r1.rep s1.aH s1.fh).mono g2.hh
  have ru := r2.rep s2.aH s2.fh
  refine hr A F2 H2 _ v u d e s2.aH s2.fh rv ru ?_
  split at q
  · rename_i hg
    rw [hg]
    intro z F3 H3 g3 r3
    have rz : Rep T F3 z (.bl true) := r3
    rw [Rep] at rz
    refine ⟨true, rz, iteT ?_⟩
    have s3 := s2.grow g3
    refine ec.then_ s3 (q.later g3) _ fun e3 k3 w F4 H4 _ g4 s4 r4 h4 => ?_
    exact hr' A F4 H4 Q u w e e3 s4.aH s4.fh ((ru.mono g3.hh).mono g4.hh) (r4.rep s4.aH s4.fh) (h4.later g4).opt
  · rename_i hg
    rw [hg]
    intro z F3 H3 g3 r3
    have rz : Rep T F3 z (.bl false) := r3
    rw [Rep] at rz
    refine ⟨false, rz, iteF ?_⟩
    exact post_st (d := .bl false) g3.fh ((q.later g3 : PostE T A F3 H3 W σ Q (optR (some (.bl false, .st)))).opt) rfl
  · exact q.elim
theorem td_chain {op op' : CmpOp} {r r' : R2} {g g' : D → D → Opt} (ho : OpR X (compareOp op) r) (hr : OpS T r g) (ho' : OpR X (compareOp op') r') (hr' : OpS T r' g') (ha : PDe X T Z W a f1) (hb : PDe X T Z W b f2) (hc : PDe X T Z W c f3)
    (hm : lastMarks [op, op'] [b, c] = false := by with_unfolding_all rfl) : PDt X T Z W (.Compare a [op, op'] [b, c] pos) (tstR (chR g g' f1 f2 f3)) := by
  obtain ⟨ta, pa, ea⟩ := ha
  obtain ⟨tb, pb, eb⟩ := hb
  obtain ⟨tc, pc, ec⟩ := hc
  exact ⟨_, pt_chain ho ho' pa pb pc hm, (EvS.chain hr hr' ea eb ec).tst⟩
end

/-- a def of the top and what it computes -/
structure DefAt (P : Program) (w : World) (K : PySem.W.Frag) (mg : Str → Option Value) (base : Heap) (T : Par) (x : Str) (k : Nat) (ps : List Str) (g : List D → Ret) : Prop where
  ex : ∃ f fd, mg x = some (.ref f) ∧ PySem.W.keepIn K (.ref f) = true ∧ Binds K fd ps [] ∧ FnOk P w K mg base (L2.CX P w) k f fd ps (spOf T g)
section
variable {X : Cx} {T : Par} {Z : Hd} {W : WX} {e : Expr} {es : List Expr} {fa : Dl → ResA} {pos p : Pos} {x : Str} {k k' : Nat} {ps : List Str} {g : List D → Ret}
theorem pd_callD (G : DefAt X.prog X.w X.K X.mg X.base T x k ps g) (hr : Room k' X.A) (hk : k ≤ k') (tk : Takes X W) (ha : PDa X T Z W (e :: es) fa) (hg : Gl X x := by rfl)
    (hdb : (x == ("__debug__" : Str)) = false := by decide) (he : starEach (e :: es) X.env = (false, eval e X.env) :: starEach es X.env := by rfl) (hpl : (backTo pos (starEach es X.env)).any (·.1) = false := by rfl) : PDe X T Z W (.Call (.Name x p) (e :: es) [] pos) (callR g fa) := by
  obtain ⟨f, fd, h1, h2, h3, h4⟩ := G.ex
  exact pd_call h4 (hr.mono hk) h1 h2 h3 tk ha hg hdb he hpl
end

/-- what the top says of an exception's class -/
structure ExcAt (K : PySem.W.Frag) (mg : Str → Option Value) (T : Par) (x : Str) (c : Ex) : Prop where
  g : mg x = some (.ref (T.cx c))
  x : PySem.W.excIn K (T.cx c) [.type "ValueError", .type "Exception", .type "BaseException", .type "object"] "ValueError.__new__" = true
  k : PySem.W.keepIn K (.ref (T.cx c)) = true
  b : PySem.W.subIn K (.ref (T.cx c)) (.type "BaseException") = some true
  t : PySem.W.typeIn K (.ref (T.cx c)) = some (.type "type")
section
variable {X : Cx} {T : Par} {Z : Hd} {W : WX} {x m : Str} {c : Ex} {p p2 pos pos2 : Pos} {j : Nat}
theorem sd_raiseD (E : ExcAt X.K X.mg T x c) (tk : Takes X W) (hc : X.calm = true := by rfl) (hg : Gl X x := by rfl) (hdb : (x == ("__debug__" : Str)) = false := by decide) :
    PDs X T Z W (.Raise (some (.Call (.Name x p) [.Constant (.str m) j p2] [] pos)) none pos2) (raiO c) :=
  sd_raise hc tk (pmk_own PySem.F.excBase_ValueError E.x E.g E.k (raises_own E.b E.t) hg hdb)
end
def seqF (k1 k2 : Dl → Out) : Dl → Out := fun δ => seqO (k1 δ) k2
def frzF (is : List Nat) (k : Dl → Out) : Dl → Out := fun δ => k (frzO is δ)
section
variable {X : Cx} {T : Par} {Z : Hd} {W : WX} {st : Stmt} {rest : List Stmt} {k1 k2 : Dl → Out}
theorem sd_seq (h1 : PDs X T Z W st k1) (h2 : PDss X T Z W rest k2) : PDss X T Z W (st :: rest) (seqF k1 k2) := sd_cons h1 h2
theorem sd_frzF (is : List Nat) (h : PDs X T Z W st k1) : PDs X T Z W st (frzF is k1) := sd_frz is h
end
end
end DD

set_option maxRecDepth 100000
namespace DD
noncomputable section
open PySem L2

def takeAll : Ex → Bool := fun _ => true
def takeOnly (x : Ex) : Ex → Bool := fun c => decide (c = x)
/-- a class that except clauses and isinstance name -/
structure ClsAt (K : PySem.W.Frag) (mg : Str → Option Value) (T : Par) (x : Str) (takes : Ex → Bool) : Prop where
  ex : ∃ C, mg x = some (.ref C) ∧ (∀ c, PySem.W.exmOne K (.ref (T.cx c)) (.ref C) = some (takes c)) ∧ ∀ c, PySem.W.kitOne K (.ref (T.cx c)) (.ref C) = some (takes c)
section
variable {X : Cx} {T : Par} {Z : Hd} {W : WX} {body suite : List Stmt} {b₀ : Stmt} {x n : Str} {np pos pos' : Pos} {k1 k2 : Dl → Out} {takes : Ex → Bool}
theorem sd_tryD (C : ClsAt X.K X.mg T x takes) (tk : Takes X W)
    (hb : ∀ (W' : WX) (pn : List (Addr × Obj)) (xe : Value → Shared → Prop), Takes (X.tr pn xe) W' → PassesOwn (model X.prog X.w) X.A X.env xe → PDss (X.tr pn xe) T Z W' body k1)
    (hsu : ∀ (a : Addr) (oe : Obj) (cls : Value) (d : Option Addr) (pn : List (Addr × Obj)), Zc cls d oe → (∃ vs, oe.data = .fields vs) → PDss (X.suite a ((a, oe) :: pn)) T ⟨a, cls, d⟩ noW (b₀ :: suite) k2)
    (hs : X.stack = X.env :: X.outer := by rfl) (hf : X.env.frame = some X.env.locals := by rfl) (hg : Gl X x := by rfl) (hdb : (x == ("__debug__" : Str)) = false := by decide) :
    PDs X T Z W (.Try body [.ExceptHandler (some (.Name x np)) none (b₀ :: suite) pos'] [] [] pos) (tryO none takes k1 k2) := by
  obtain ⟨C, h1, h2, _⟩ := C.ex
  exact sd_try_only hs hf ⟨hg, hdb, .inl h1⟩ tk h2 hb hsu
theorem sd_tryA (j : Nat) (hN : X.N.Nodup) (C : ClsAt X.K X.mg T x takes) (tk : Takes X W)
    (hb : ∀ (W' : WX) (pn : List (Addr × Obj)) (xe : Value → Shared → Prop), Takes (X.tr pn xe) W' → PassesOwn (model X.prog X.w) X.A X.env xe → PDss (X.tr pn xe) T Z W' body k1)
    (hsu : ∀ (a : Addr) (oe : Obj) (cls : Value) (d : Option Addr) (pn : List (Addr × Obj)), Zc cls d oe → (∃ vs, oe.data = .fields vs) → PDss (X.suite a ((a, oe) :: pn)) T ⟨a, cls, d⟩ noW (b₀ :: suite) k2)
    (hj : X.N[j]? = some n := by rfl) (hln : X.env.kindOf n = some .local := by rfl) (hs : X.stack = X.env :: X.outer := by rfl) (hf : X.env.frame = some X.env.locals := by rfl) (hg : Gl X x := by rfl) (hdb : (x == ("__debug__" : Str)) = false := by decide) :
    PDs X T Z W (.Try body [.ExceptHandler (some (.Name x np)) (some n) (b₀ :: suite) pos'] [] [] pos) (tryO (some j) takes k1 k2) := by
  obtain ⟨C, h1, h2, _⟩ := C.ex
  exact sd_try_as j hs hf hN hj hln ⟨hg, hdb, .inl h1⟩ tk h2 hb hsu
end
section
variable {X : Cx} {T : Par} {W : WX} {a : Addr} {oe : Obj} {pn : List (Addr × Obj)} {cls : Value} {d : Option Addr} {b : Ex → Bool}
theorem pd_isEO (i : Nat) {x y : Str} {p1 p2 p3 pos : Pos} (hz : Zc cls d oe) (hf : ∃ vs, oe.data = .fields vs) (hE : ∀ c, ExcC X.K (T.cx c)) (C : ClsAt X.K X.mg T y b) (hm : X.mg "isinstance" = none)
    (hN : X.N[i]? = some x := by rfl) (hvis : Vis X.env.scope x := by first | exact Or.inl rfl | exact Or.inr (Or.inl rfl) | exact Or.inr (Or.inr rfl)) (hd : (x == ("__debug__" : Str)) = false := by decide)
    (hcd : (x == ("__classdict__" : Str)) = false := by decide) (hg : Gl X "isinstance" := by rfl) (hgy : Gl X y := by rfl) (hdy : (y == ("__debug__" : Str)) = false := by decide)
    (he : starEach [.Name x p1, .Name y p2] X.env = (false, eval (.Name x p1) X.env) :: starEach [.Name y p2] X.env := by rfl) (he2 : starEach [.Name y p2] X.env = (false, eval (.Name y p2) X.env) :: starEach [] X.env := by rfl) (hpl : (backTo pos (starEach [.Name y p2] X.env)).any (·.1) = false := by rfl) :
    PDe (X.suite a ((a, oe) :: pn)) T ⟨a, cls, d⟩ W (.Call (.Name "isinstance" p3) [.Name x p1, .Name y p2] [] pos) (isER i b) := by
  obtain ⟨C, h1, _, h3⟩ := C.ex
  exact pd_isE i (v := .ref C) (cv := .ref C) hz hf hE h3 hm (pe_glob (X := X.suite a ((a, oe) :: pn)) hgy h1 rfl hdy) (fun u r => r) hN hvis hd hcd hg he he2 hpl
theorem pd_isEV (i : Nat) {x : Str} {p1 p2 p3 pos : Pos} (hz : Zc cls d oe) (hf : ∃ vs, oe.data = .fields vs) (hE : ∀ c, ExcC X.K (T.cx c)) (hk : ∀ c, PySem.W.kitOne X.K (.ref (T.cx c)) (.type "ValueError") = some true) (hm : X.mg "isinstance" = none) (hmV : X.mg "ValueError" = none)
    (hN : X.N[i]? = some x := by rfl) (hvis : Vis X.env.scope x := by first | exact Or.inl rfl | exact Or.inr (Or.inl rfl) | exact Or.inr (Or.inr rfl)) (hd : (x == ("__debug__" : Str)) = false := by decide)
    (hcd : (x == ("__classdict__" : Str)) = false := by decide) (hg : Gl X "isinstance" := by rfl) (hgy : Gl X "ValueError" := by rfl)
    (he : starEach [.Name x p1, .Name "ValueError" p2] X.env = (false, eval (.Name x p1) X.env) :: starEach [.Name "ValueError" p2] X.env := by rfl) (he2 : starEach [.Name "ValueError" p2] X.env = (false, eval (.Name "ValueError" p2) X.env) :: starEach [] X.env := by rfl) (hpl : (backTo pos (starEach [.Name "ValueError" p2] X.env)).any (·.1) = false := by rfl) :
    PDe (X.suite a ((a, oe) :: pn)) T ⟨a, cls, d⟩ W (.Call (.Name "isinstance" p3) [.Name x p1, .Name "ValueError" p2] [] pos) (isER i takeAll) :=
  pd_isE i (v := .ty "ValueError") (cv := .type "ValueError") hz hf hE hk hm (pe_bltn (X := X.suite a ((a, oe) :: pn)) hgy hmV (by decide +kernel) rfl (by decide) (by decide)) (fun u r => r) hN hvis hd hcd hg he he2 hpl
end
end
end DD

set_option maxRecDepth 100000
namespace DD
noncomputable section
open PySem L2
/-- the law's promise: a list of at most 63 ints is handed in, True comes out -/
def spL (K : PySem.W.Frag) : Sp := fun vs H Q _ => ∃ (a : Addr) (ns : List Int), vs = [.ref a] ∧ SqL K H a (ns.map V.int) ∧ ns.length ≤ 63 ∧ ∀ H', Q (.bl true) H'
theorem law_ok {P : Program} {w : World} {mg : Str → Option Value} {base : Heap} {T : Par} {f : Addr} {fd : FuncData} {k : Nat} {g : List D → Ret} (G : FnOk P w T.K mg base (L2.CX P w) k f fd ["_law_script"] (spOf T g))
    (ht : ∀ ns : List Int, ns.length ≤ 63 → g [.scr ns] = .ok (.bl true)) : FnOk P w T.K mg base (L2.CX P w) k f fd ["_law_script"] (spL T.K) := G.imp fun vs H Q E h => by
  obtain ⟨a, ns, rfl, h1, h2, h3⟩ := h
  refine ⟨H, [.scr ns], Same.refl _, ?_, ?_⟩
  · rw [Reps, Rep]
    exact ⟨⟨a, rfl, h1⟩, by simp [Reps]⟩
  · rw [ht ns h2]
    intro v F' H' _ _ _ r
    rw [Rep] at r
    subst r
    exact h3 H'
theorem kit_ref {K : PySem.W.Frag} {t : Value} {C : Addr} {b : Bool} (hd : PySem.W.hasDictIn K C = true) (ht : PySem.W.typeIn K (.ref C) = some (.type "type")) (h4 : PySem.W.subIn K t (.ref C) = some b) (hs : PySem.W.subIn K (.ref C) (.ref C) = some true) : PySem.W.kitOne K t (.ref C) = some b := by
  obtain ⟨cd, hc, _⟩ := PySem.W.any_some hd
  unfold PySem.W.kitOne
  by_cases e : (t == Value.ref C) = true
  · rw [if_pos e]
    have e' : t = Value.ref C := beq_iff_eq.mp e
    rw [e', hs] at h4
    exact h4
  · rw [if_neg e]
    have e2 : ((PySem.W.clsIn K C).isSome && PySem.W.typeIn K (.ref C) == some (.type "type")) = true := by rw [hc, ht] <;> rfl
    show (if ((PySem.W.clsIn K C).isSome && PySem.W.typeIn K (.ref C) == some (.type "type")) = true then PySem.W.subIn K t (.ref C) else none) = some b
    rw [if_pos e2]
    exact h4
theorem kit_val {K : PySem.W.Frag} {a : Addr} (h : PySem.W.subIn K (.ref a) (.type "ValueError") = some true) : PySem.W.kitOne K (.ref a) (.type "ValueError") = some true := by
  unfold PySem.W.kitOne
  rw [if_neg (by simp)]
  show (if PySem.W.kitMeta "ValueError" = true then PySem.W.subIn K (.ref a) (.type "ValueError") else none) = some true
  rw [if_pos (by decide +kernel)]
  exact h
end
end DD

set_option maxRecDepth 100000
/-! # What the data functions give: lemmas for all laws -/
namespace DD
open PySem L2
/-- running the data functions -/
local macro_rules | `(tactic| walk_at "ev") => `(tactic| simp only [defR, outR, seqF, seqO, ifO, retO, setO, setS, expO, raiO, tstR, bindR, opR, unR, optR, ixR, slR, someR, noPart, varR, conR, callR, consR, nilR, arg1, arg2, cbR, lstR, tupR, bandR, borR, bnotR, yesR, ifR, andR, orR, stK, kIx, gIx, itemD, imm, imms,
  gAdd, gSub, gMul, gDiv, gMod, gLt, gLe, gGt, gGe, gLen, gInt, gList, gNot, gIsN, gNotN, isNon, chR, List.map_cons, List.map_nil, List.cons_append, List.nil_append, List.replicate_succ, List.replicate_zero, List.length_cons, List.length_nil, List.getElem?_cons_zero, List.getElem?_cons_succ, List.set_cons_zero, List.set_cons_succ,
  if_true, if_false, reduceIte, Bool.and_true, Bool.true_and, Bool.and_false, Bool.false_and, Bool.not_true, Bool.not_false, Nat.reduceAdd, Nat.reduceEqDiff, Bool.false_eq_true])

theorem atI_nn {α : Type} {xs : List α} {i : Int} (h0 : 0 ≤ i) (h1 : i < xs.length) : atI xs i = xs[i.toNat]? := by
  unfold atI ixN
  rw [if_pos h0, if_pos h1]
  rfl
/-- the k-th cell of the script, 0 behind its end -/
def cell (ns : List Int) (k : Int) : Int := ns.getD k.toNat 0
/-! equality -/
theorem eqB_str (a b : Str) : eqB (.str a) (.str b) = some (decide (a = b)) := by
  simp [eqB, flatV?, scal]
theorem eqB_int (a b : Int) : eqB (.int a) (.int b) = some (decide (a = b)) := by
  simp [eqB, flatV?, scal]
theorem eqB_bl (a b : Bool) : eqB (.bl a) (.bl b) = some (decide (a = b)) := by
  simp [eqB, flatV?, scal]
theorem eqB_refl {ds : List D} {xs : List PyData} (h : pys ds = some xs) (hs : SeqAt.shaped (.list xs) = true) : eqB (.lst ds) (.lst ds) = some true := by
  have e : py (.lst ds) = some (.list xs) := by rw [py, h]; rfl
  unfold eqB
  simp only [flatV?, e]
  rw [if_pos ⟨hs, hs⟩]
  exact congrArg some (SeqAt.eqv_refl _ (SeqAt.canLay_of_shaped hs))
/-! lists that comprehensions make -/
theorem compL_all {i : Nat} {f : Dl → Res} {δ : Dl} (h : D → D) : ∀ (ds acc : List D), (∀ d ∈ ds, ∃ k, f (δ.set i (.an d)) = .ok (h d) k ∧ stK (h d) k = true) → acc.length + ds.length ≤ sizeLine →
    compL i yesR f δ ds acc = some (acc ++ ds.map h)
  | [], acc, _, _ => by simp [compL]
  | d :: ds, acc, hf, hl => by
    obtain ⟨k, e1, e2⟩ := hf d (by simp)
    have hl' : acc.length < sizeLine := by simp at hl; omega
    simp only [compL, yesR, e1, e2]
    rw [if_pos ⟨trivial, hl'⟩, compL_all h ds (acc ++ [h d]) (fun x hx => hf x (by simp [hx])) (by simp at hl ⊢; omega)]
    simp
/-- .. with a test -/
theorem compL_if {i : Nat} {p : Dl → ResB} {f : Dl → Res} {δ : Dl} (t : D → Bool) (h : D → D) : ∀ (ds acc : List D), (∀ d ∈ ds, p (δ.set i (.an d)) = .ok (t d)) → (∀ d ∈ ds, t d = true → ∃ k, f (δ.set i (.an d)) = .ok (h d) k ∧ stK (h d) k = true) → acc.length + ds.length ≤ sizeLine →
    compL i p f δ ds acc = some (acc ++ (ds.filter t).map h)
  | [], acc, _, _, _ => by simp [compL]
  | d :: ds, acc, hp, hf, hl => by
    have hl' : acc.length < sizeLine := by simp at hl; omega
    have p1 := hp d (by simp)
    cases ht : t d with
    | false =>
      rw [ht] at p1
      simp only [compL, p1]
      rw [compL_if t h ds acc (fun x hx => hp x (by simp [hx])) (fun x hx => hf x (by simp [hx])) (by simp at hl ⊢; omega)]
      rw [List.filter_cons_of_neg (by simp [ht])]
    | true =>
      rw [ht] at p1
      obtain ⟨k, e1, e2⟩ := hf d (by simp) ht
      simp only [compL, p1, e1, e2]
      rw [if_pos ⟨trivial, hl'⟩, compL_if t h ds (acc ++ [h d]) (fun x hx => hp x (by simp [hx])) (fun x hx => hf x (by simp [hx])) (by simp at hl ⊢; omega)]
      rw [List.filter_cons_of_pos (by simp [ht])]
      simp
/-! loops, by what holds between two turns (I) and what holds where the loop is left (R) -/
theorem forL_inv {i : Nat} {k : Kd} {body : Dl → Out} (I : Nat → Dl → Prop) (R : Out → Prop) : ∀ (ds : List D) (n : Nat) (δ : Dl), I n δ →
    (∀ m d δ, ds[m]? = some d → I (n + m) δ → ∃ x, itemS d k = some x ∧ (match body (δ.set i x) with
      | .nx δ' => I (n + m + 1) δ'
      | .ct δ' => I (n + m + 1) δ'
      | .bk δ' => R (.nx δ')
      | o => R o)) → (∃ δ', forL i k body ds δ = .nx δ' ∧ I (n + ds.length) δ') ∨ R (forL i k body ds δ)
  | [], n, δ, h0, _ => .inl ⟨δ, rfl, h0⟩
  | d :: ds, n, δ, h0, hs => by
    obtain ⟨x, hx, hb⟩ := hs 0 d δ rfl h0
    have next : ∀ δ', I (n + 0 + 1) δ' → (∃ δ2, forL i k body ds δ' = .nx δ2 ∧ I (n + (d :: ds).length) δ2) ∨ R (forL i k body ds δ') := fun δ' h1 => by
      have := forL_inv I R ds (n + 1) δ' h1 fun m d' δ2 e h2 => by
        have := hs (m + 1) d' δ2 (by simpa using e) (by rw [show n + (m + 1) = n + 1 + m by omega]; exact h2)
        rw [show n + (m + 1) + 1 = n + 1 + m + 1 by omega] at this
        exact this
      rw [show n + (d :: ds).length = n + 1 + ds.length by simp; omega]
      exact this
    unfold forL
    rw [hx]
    simp only
    cases hbd : body (δ.set i x) with
    | nx δ' => rw [hbd] at hb; exact next δ' hb
    | ct δ' => rw [hbd] at hb; exact next δ' hb
    | bk δ' => rw [hbd] at hb; exact .inr hb
    | rt d => rw [hbd] at hb; exact .inr hb
    | er c δ' => rw [hbd] at hb; exact .inr hb
    | no => rw [hbd] at hb; exact .inr hb
/-! letters -/
def letters : Str := "abcdefghijklmnopqrstuvwxyz"
theorem letters_l : letters.cps.toList = (List.range 26).map (· + 97) := by decide +kernel
theorem letters_mem (c : Nat) : c ∈ letters.cps.toList ↔ 97 ≤ c ∧ c < 123 := by
  rw [letters_l, List.mem_map]
  constructor
  · rintro ⟨a, h, rfl⟩
    rw [List.mem_range] at h
    omega
  · rintro ⟨h1, h2⟩
    exact ⟨c - 97, by rw [List.mem_range]; omega, by omega⟩
theorem item_letters {i : Int} (h0 : 0 ≤ i) (h1 : i < 26) : itemD (.str letters) i = some (.str ⟨#[97 + i.toNat]⟩) := by
  unfold itemD
  have hl : letters.length = 26 := by decide +kernel
  simp only [hl]
  rw [if_pos (by decide), atI_nn h0 (by rw [letters_l]; simpa using h1), letters_l, List.getElem?_map, List.getElem?_range (by omega)]
  simp
  omega
theorem notIn_letters (c : Nat) : gNotIn (.str ⟨#[c]⟩) (.str letters) = some (.bl (!(decide (97 ≤ c) && decide (c < 123))), .st) := by
  unfold gNotIn inB
  simp only [Option.map_some, Option.some.injEq, Prod.mk.injEq, D.bl.injEq, and_true]
  congr 1
  rw [← Bool.decide_and]
  exact decide_eq_decide.mpr (letters_mem c)
/-- a place -/
def isPl : D → Bool
  | .str s => decide (1 ≤ s.length) && decide (s.length ≤ 12) && s.cps.toList.all fun c => decide (97 ≤ c) && decide (c < 123)
  | _ => false
/-- what stands in a row of things: a text of signs, a number, None -/
def okD : D → Prop
  | .str s => s.length ≤ 100 ∧ ∀ c ∈ s.cps.toList, c < 1114112
  | .int _ => True
  | .non => True
  | _ => False
theorem okD_imm {d : D} (h : okD d) : imm d = true := by
  cases d <;> first | rfl | exact h.elim
theorem okD_imms : ∀ {ds : List D}, (∀ d ∈ ds, okD d) → imms ds = true
  | [], _ => by simp [imms]
  | d :: ds, h => by
    simp only [imms, Bool.and_eq_true]
    exact ⟨okD_imm (h d (by simp)), okD_imms fun x hx => h x (by simp [hx])⟩
theorem strOk_of {s : Str} (h : ∀ c ∈ s.cps.toList, c < 1114112) : PyData.strOk s = true := by
  unfold PyData.strOk
  rw [Array.all_eq_true']
  intro c hc
  simpa using h c (by simpa using hc)
theorem okD_pys : ∀ {ds : List D}, (∀ d ∈ ds, okD d) → ∃ xs, pys ds = some xs ∧ PyData.canLayAll0 xs = true ∧ PyData.depthAll xs = 0
  | [], _ => ⟨[], rfl, rfl, rfl⟩
  | d :: ds, h => by
    obtain ⟨xs, h1, h2, h3⟩ := okD_pys fun x hx => h x (List.mem_cons_of_mem d hx)
    have hd := h d (by simp)
    cases d with
    | str s => exact ⟨.str s :: xs, by simp [pys, py, h1], by simp [PyData.canLayAll0, PyData.canLay0, strOk_of hd.2, h2], by simp [PyData.depthAll, PyData.depth, h3]⟩
    | int s => exact ⟨.int s :: xs, by simp [pys, py, h1], by simp [PyData.canLayAll0, PyData.canLay0, h2], by simp [PyData.depthAll, PyData.depth, h3]⟩
    | non => exact ⟨.none :: xs, by simp [pys, py, h1], by simp [PyData.canLayAll0, PyData.canLay0, h2], by simp [PyData.depthAll, PyData.depth, h3]⟩
    | _ => exact hd.elim
theorem okD_eq {ds : List D} (h : ∀ d ∈ ds, okD d) : eqB (.lst ds) (.lst ds) = some true := by
  obtain ⟨xs, h1, h2, h3⟩ := okD_pys h
  exact eqB_refl h1 (by simp [SeqAt.shaped, PyData.canLay0, PyData.depth, h2, h3])
theorem take_more' {α : Type} : ∀ {l : List α} {i : Nat} {x : α}, l[i]? = some x → l.take (i + 1) = l.take i ++ [x]
  | [], i, x, h => by simp at h
  | a :: l, 0, x, h => by simp at h; simp [h]
  | a :: l, i + 1, x, h => by
    have ih := take_more' (l := l) (i := i) (x := x) (by simpa using h)
    simp [ih]
theorem kitB_str : kitB "str" "str" = some true := by decide +kernel
theorem kitB_int_str : kitB "int" "str" = some false := by decide +kernel
theorem kitB_non_str : kitB "NoneType" "str" = some false := by decide +kernel
theorem kitB_list : kitB "list" "list" = some true := by decide +kernel
theorem isi_str (s : Str) : gIsi "str" (.str s) = some (.bl true, .st) := by simp [gIsi, tyD, kitB_str]
theorem isi_strI (s : Int) : gIsi "str" (.int s) = some (.bl false, .st) := by simp [gIsi, tyD, kitB_int_str]
theorem isi_strN : gIsi "str" .non = some (.bl false, .st) := by simp [gIsi, tyD, kitB_non_str]
theorem isi_list (ds : List D) : gIsi "list" (.lst ds) = some (.bl true, .st) := by simp [gIsi, tyD, kitB_list]
/-! joined texts -/
theorem joinL_nil : ∀ ps : List (List Nat), TL.joinL [] ps = ps.flatten
  | [] => rfl
  | [p] => by simp [TL.joinL]
  | p :: q :: r => by
    have ih := joinL_nil (q :: r)
    show p ++ ([] ++ TL.joinL [] (q :: r)) = _
    rw [ih]
    simp
theorem str_ext {a b : Str} (h : a.cps.toList = b.cps.toList) : a = b := by
  obtain ⟨a⟩ := a
  obtain ⟨b⟩ := b
  congr 1
  apply Array.ext'
  exact h
theorem join_l (ss : List Str) : (Txt.join "" ss).cps.toList = (ss.map fun s => s.cps.toList).flatten := by
  show (Builtin.Str.glued "" ss).cps.toList = _
  rw [PySem.StrLaws.glued_eq_join]
  have := TL.tl_join ("" : Str) ss
  rw [show TL.tl ("" : Str) = [] from rfl, joinL_nil] at this
  exact this
theorem join_one (cs : List Nat) : Txt.join "" (cs.map fun c => (⟨#[c]⟩ : Str)) = ⟨cs.toArray⟩ := by
  apply str_ext
  rw [join_l, List.map_map]
  show (List.map (fun c => [c]) cs).flatten = cs
  induction cs with
  | nil => rfl
  | cons c cs ih => simp [ih]
theorem sum_ones (cs : List Nat) : ((cs.map fun c => (⟨#[c]⟩ : Str)).map (·.length)).sum = cs.length := by
  induction cs with
  | nil => rfl
  | cons c cs ih =>
    simp only [List.map_cons, List.sum_cons, ih, List.length_cons]
    show 1 + cs.length = _
    omega
theorem gJoin_ones (cs : List Nat) (h : cs.length ≤ 1000) : gJoin (.str "") (.lst (cs.map fun c => D.str ⟨#[c]⟩)) = some (.str ⟨cs.toArray⟩, .st) := by
  have e : (cs.map fun c => D.str ⟨#[c]⟩) = (cs.map fun c => (⟨#[c]⟩ : Str)).map D.str := by rw [List.map_map]; rfl
  unfold gJoin
  simp only [e, strsD_map, Option.bind_some]
  rw [sum_ones, join_one, if_pos]
  show cs.length + _ * 0 ≤ _
  omega
theorem size_le {n : Nat} (h : n ≤ 1000) : n ≤ sizeLine := Nat.le_trans h (by decide +kernel)
/-! a name -/
def Nm (s : Str) : Prop := 1 ≤ s.length ∧ s.length ≤ 12 ∧ ∀ c ∈ s.cps.toList, 97 ≤ c ∧ c < 123
theorem Nm.isPl {s : Str} (h : Nm s) : isPl (.str s) = true := by
  unfold DD.isPl
  simp only [Bool.and_eq_true, decide_eq_true_eq, List.all_eq_true]
  exact ⟨⟨h.1, h.2.1⟩, fun c hc => h.2.2 c hc⟩
theorem Nm.ok {s : Str} (h : Nm s) : okD (.str s) := ⟨by have := h.2.1; omega, fun c hc => by have := (h.2.2 c hc).2; omega⟩
theorem str_len (s : Str) : s.length = s.cps.toList.length := by simp [Str.length]
theorem pys_len : ∀ {ds : List D} {xs : List PyData}, pys ds = some xs → xs.length = ds.length
  | [], xs, h => by simp only [pys, Option.some.injEq] at h; subst h; rfl
  | d :: ds, xs, h => by
    rw [pys] at h
    cases e1 : py d with
    | none => rw [e1] at h; cases h
    | some x =>
      cases e2 : pys ds with
      | none => rw [e1, e2] at h; cases h
      | some ys =>
        rw [e1, e2] at h
        simp only [Option.some.injEq] at h
        subst h
        simp [pys_len e2]
/-- is a list empty, by == -/
theorem eqB_nil {ds : List D} {xs : List PyData} (h : pys ds = some xs) (hs : SeqAt.shaped (.list xs) = true) : eqB (.lst ds) (.lst []) = some ds.isEmpty := by
  have e : py (.lst ds) = some (.list xs) := by rw [py, h]; rfl
  have e2 : py (.lst []) = some (.list []) := rfl
  unfold eqB
  simp only [flatV?, e, e2]
  rw [if_pos ⟨hs, by decide +kernel⟩]
  have hl := pys_len h
  cases xs with
  | nil =>
    cases ds with
    | nil => rfl
    | cons d ds => simp at hl
  | cons x xs =>
    cases ds with
    | nil => simp at hl
    | cons d ds => rfl
theorem okD_shaped {ds : List D} (h : ∀ d ∈ ds, okD d) : ∃ xs, pys ds = some xs ∧ SeqAt.shaped (.list xs) = true := by
  obtain ⟨xs, h1, h2, h3⟩ := okD_pys h
  exact ⟨xs, h1, by simp [SeqAt.shaped, PyData.canLay0, PyData.depth, h2, h3]⟩
theorem okD_nil {ds : List D} (h : ∀ d ∈ ds, okD d) : eqB (.lst ds) (.lst []) = some ds.isEmpty := by
  obtain ⟨xs, h1, h2⟩ := okD_shaped h
  exact eqB_nil h1 h2
theorem okD_sgn {c : Nat} (h : c < 1114112) : okD (.str ⟨#[c]⟩) := ⟨by show 1 ≤ 100; decide, fun d hd => by
  have : d = c := by simpa using hd
  rw [this]; exact h⟩
theorem item_letters' {i : Int} (h0 : 0 ≤ i) (h1 : i < 26) : itemD (.str "abcdefghijklmnopqrstuvwxyz") i = some (.str ⟨#[97 + i.toNat]⟩) := item_letters h0 h1
theorem notIn_letters' (c : Nat) : gNotIn (.str ⟨#[c]⟩) (.str "abcdefghijklmnopqrstuvwxyz") = some (.bl (!(decide (97 ≤ c) && decide (c < 123))), .st) := notIn_letters c
theorem menu {ds : List D} {i : Int} (h0 : 0 ≤ i) (h1 : i < ds.length) : ∃ x, x ∈ ds ∧ itemD (.lst ds) i = some x := by
  have hi : i.toNat < ds.length := by omega
  refine ⟨ds[i.toNat], List.getElem_mem hi, ?_⟩
  unfold itemD
  simp only
  rw [atI_nn h0 h1, List.getElem?_eq_getElem hi]
theorem small_of {i : Int} (h : -1000000000000 ≤ i ∧ i ≤ 1000000000000) : smallI i = true := by
  simp [smallI]; omega
theorem smallR_of {i : Int} (h : -1000000000000 ≤ i ∧ i ≤ 1000000000000) : smallR i = true := by
  simp [smallR]; omega
theorem mem_rng {lo c : Int} {n : Nat} {d : D} (h : d ∈ rng lo c n) : ∃ i : Nat, i < n ∧ d = .int (lo + i * c) := by
  simp only [rng, List.mem_map, List.mem_range] at h
  obtain ⟨i, h1, h2⟩ := h
  exact ⟨i, h1, h2.symm⟩
theorem get_rng {lo c : Int} {n m : Nat} {d : D} (h : (rng lo c n)[m]? = some d) : m < n ∧ d = .int (lo + m * c) := by
  simp only [rng, List.getElem?_map, Option.map_eq_some_iff] at h
  obtain ⟨j, h1, h2⟩ := h
  obtain ⟨h3, h4⟩ := List.getElem?_eq_some_iff.mp h1
  simp at h3 h4
  subst h4
  exact ⟨h3, h2.symm⟩
theorem rng_len {lo c : Int} {n : Nat} : (rng lo c n).length = n := by simp [rng]
/-- a name of signs drawn from the letters -/
theorem Nm.of {cs : List Nat} (h1 : 1 ≤ cs.length) (h2 : cs.length ≤ 12) (h : ∀ c ∈ cs, 97 ≤ c ∧ c < 123) : Nm ⟨cs.toArray⟩ := ⟨h1, h2, fun c hc => h c (by simpa using hc)⟩
theorem in_letters (c : Nat) : inB (.str ⟨#[c]⟩) (.str "abcdefghijklmnopqrstuvwxyz") = some (decide (97 ≤ c) && decide (c < 123)) := by
  unfold inB
  simp only [Option.some.injEq]
  rw [← Bool.decide_and]
  exact decide_eq_decide.mpr (letters_mem c)
end DD

set_option maxRecDepth 100000
/-! # How the data functions run: rows to rewrite by -/
namespace DD
noncomputable section
open PySem L2
variable {δ : Dl} {d e u : D} {k k' k2 : Kd} {c : Ex} {i j : Int} {n m : Nat} {f f1 f2 f3 : Dl → Res} {b b' : Bool} {s t : Str} {ds es : List D} {fa : Dl → ResA} {o : Out} {K K1 K2 : Dl → Out} {p p1 p2 : Dl → ResB} {g g' : D → D → Opt}
/-! values -/
def vaX : Option Slot → Res
  | some (.sh d) => .ok d .st
  | some (.bo d) => .ok d .bw
  | some (.ow d) => .ok d .any
  | some (.dp d) => .ok d .any
  | some (.an d) => .ok d .any
  | _ => .no
theorem e_var : varR n δ = vaX δ[n]? := rfl
theorem e_sh : vaX (some (.sh d)) = .ok d .st := rfl
theorem e_bo : vaX (some (.bo d)) = .ok d .bw := rfl
theorem e_ow : vaX (some (.ow d)) = .ok d .any := rfl
theorem e_dp : vaX (some (.dp d)) = .ok d .any := rfl
theorem e_an : vaX (some (.an d)) = .ok d .any := rfl
theorem e_con : conR d δ = .ok d .st := rfl
theorem e_opt : optR (some (d, k)) = .ok d k := rfl
def op2 (g : D → D → Opt) (r1 r2 : Res) : Res := bindR r1 fun d _ => bindR r2 fun e _ => optR (g d e)
theorem e_op : opR g f1 f2 δ = op2 g (f1 δ) (f2 δ) := rfl
theorem e_op2 : op2 g (.ok d k) (.ok e k') = optR (g d e) := rfl
theorem e_op2e : op2 g (.er c) r = .er c := rfl
theorem e_op2f : op2 g (.ok d k) (.er c) = .er c := rfl
def op1 (g : D → Opt) (r1 : Res) : Res := bindR r1 fun d _ => optR (g d)
theorem e_un {g : D → Opt} : unR g f δ = op1 g (f δ) := rfl
theorem e_op1 {g : D → Opt} : op1 g (.ok d k) = optR (g d) := rfl
theorem e_op1e {g : D → Opt} : op1 g (.er c) = .er c := rfl
theorem e_add : gAdd (.int i) (.int j) = some (.int (i + j), .st) := rfl
theorem e_adds : gAdd (.str s) (.str t) = if s.length + t.length ≤ sizeLine then some (.str (s ++ t), .st) else none := rfl
theorem e_addl : gAdd (.lst ds) (.lst es) = if imms ds = true ∧ imms es = true ∧ ds.length + es.length ≤ sizeLine then some (.lst (ds ++ es), .tp) else none := rfl
theorem e_sub : gSub (.int i) (.int j) = some (.int (i - j), .st) := rfl
theorem e_mul : gMul (.int i) (.int j) = if (smallI i || smallI j) = true then some (.int (i * j), .st) else none := rfl
theorem e_muls : gMul (.str s) (.int j) = if s.length ≤ 16 ∧ -(2 ^ 63) ≤ j ∧ j ≤ 1048576 then some (.str (Txt.mul s j), .st) else none := rfl
theorem e_mull : gMul (.lst ds) (.int j) = if imms ds = true ∧ -(2 ^ 63) ≤ j ∧ j < 2 ^ 63 ∧ ds.length * j.toNat ≤ sizeLine then some (.lst (List.replicate j.toNat ds).flatten, .tp) else none := rfl
theorem e_mulI : gMulI (.int i) (.int j) = if (smallI i || smallI j) = true then some (.int (i * j), .st) else none := rfl
theorem e_div : gDiv (.int i) (.int j) = if 0 < j ∧ j < 1073741824 then some (.int (i / j), .st) else none := rfl
theorem e_mod : gMod (.int i) (.int j) = if 0 < j then some (.int (i % j), .st) else none := rfl
theorem e_lt : gLt (.int i) (.int j) = some (.bl (decide (i < j)), .st) := rfl
theorem e_le : gLe (.int i) (.int j) = some (.bl (decide (i ≤ j)), .st) := rfl
theorem e_gt : gGt (.int i) (.int j) = some (.bl (decide (j < i)), .st) := rfl
theorem e_ge : gGe (.int i) (.int j) = some (.bl (decide (j ≤ i)), .st) := rfl
theorem e_neg : gNeg (.int i) = some (.int (-i), .st) := rfl
theorem e_not : gNot (.bl b) = some (.bl (!b), .st) := rfl
theorem e_isn : gIsN d = some (.bl (isNon d), .st) := rfl
theorem e_notn : gNotN d = some (.bl (!isNon d), .st) := rfl
theorem e_nn : isNon .non = true := rfl
theorem e_ni : isNon (.int i) = false := rfl
theorem e_ns : isNon (.str s) = false := rfl
theorem e_nb : isNon (.bl b) = false := rfl
theorem e_nl : isNon (.lst ds) = false := rfl
theorem e_nt : isNon (.tup ds) = false := rfl
theorem e_eqs : eqB (.str s) (.str t) = some (decide (s = t)) := by simp [eqB, flatV?, scal]
theorem e_eqi : eqB (.int i) (.int j) = some (decide (i = j)) := by simp [eqB, flatV?, scal]
theorem e_eqb : eqB (.bl b) (.bl b') = some (decide (b = b')) := by simp [eqB, flatV?, scal]
theorem e_eqn : eqB .non .non = some true := by simp [eqB, flatV?, scal]
theorem e_eqni : eqB .non (.int i) = some false := by simp [eqB, flatV?, scal]
theorem e_eqin : eqB (.int i) .non = some false := by simp [eqB, flatV?, scal]
theorem e_eqns : eqB .non (.str s) = some false := by simp [eqB, flatV?, scal]
theorem e_eqsn : eqB (.str s) .non = some false := by simp [eqB, flatV?, scal]
theorem e_eqsi : eqB (.str s) (.int i) = some false := by simp [eqB, flatV?, scal]
theorem e_eqis : eqB (.int i) (.str s) = some false := by simp [eqB, flatV?, scal]
theorem e_eq : gEq d e = (eqB d e).map fun b => (.bl b, .st) := rfl
theorem e_ne : gNe d e = (eqB d e).map fun b => (.bl (!b), .st) := rfl
theorem e_in : gIn d e = (inB d e).map fun b => (.bl b, .st) := rfl
theorem e_nin : gNotIn d e = (inB d e).map fun b => (.bl (!b), .st) := rfl
theorem e_din : gDIn d e = (dgetB e d).map fun r => (.bl r.isSome, .st) := rfl
theorem e_dnin : gDNotIn d e = (dgetB e d).map fun r => (.bl (!r.isSome), .st) := rfl
theorem e_dget : gDGet d e = (dgetB d e).bind fun r => r.map scD := rfl
theorem e_dget1 : gDGet1 d e = (dgetB d e).map fun r => match r with
  | some s => scD s
  | none => (.non, .st) := rfl
def anX (r : Res) (f2 : Dl → Res) (δ : Dl) : Res := bindR r fun d _ => match d with
  | .bl true => f2 δ
  | .bl false => .ok (.bl false) .st
  | _ => .no
theorem e_and : andR f1 f2 δ = anX (f1 δ) f2 δ := rfl
theorem e_andt : anX (.ok (.bl true) k) f2 δ = f2 δ := rfl
theorem e_andf : anX (.ok (.bl false) k) f2 δ = .ok (.bl false) .st := rfl
theorem e_ande : anX (.er c) f2 δ = .er c := rfl
def orX (r : Res) (f2 : Dl → Res) (δ : Dl) : Res := bindR r fun d _ => match d with
  | .bl false => f2 δ
  | .bl true => .ok (.bl true) .st
  | _ => .no
theorem e_or : orR f1 f2 δ = orX (f1 δ) f2 δ := rfl
theorem e_orf : orX (.ok (.bl false) k) f2 δ = f2 δ := rfl
theorem e_ort : orX (.ok (.bl true) k) f2 δ = .ok (.bl true) .st := rfl
def tsX (r : Res) : ResB := match r with
  | .ok (.bl b) _ => .ok b
  | .er c => .er c
  | _ => .no
theorem e_tst : tstR f δ = tsX (f δ) := rfl
theorem e_ts : tsX (.ok (.bl b) k) = .ok b := rfl
theorem e_tse : tsX (.er c) = .er c := rfl
def baX (r : ResB) (f2 : Dl → ResB) (δ : Dl) : ResB := match r with
  | .ok true => f2 δ
  | r => r
theorem e_band : bandR p1 p2 δ = baX (p1 δ) p2 δ := rfl
theorem e_bat : baX (.ok true) p2 δ = p2 δ := rfl
theorem e_baf : baX (.ok false) p2 δ = .ok false := rfl
theorem e_bae : baX (.er c) p2 δ = .er c := rfl
def boX (r : ResB) (f2 : Dl → ResB) (δ : Dl) : ResB := match r with
  | .ok false => f2 δ
  | r => r
theorem e_bor : borR p1 p2 δ = boX (p1 δ) p2 δ := rfl
theorem e_bof : boX (.ok false) p2 δ = p2 δ := rfl
theorem e_bot : boX (.ok true) p2 δ = .ok true := rfl
theorem e_boe : boX (.er c) p2 δ = .er c := rfl
def bnX (r : ResB) : ResB := match r with
  | .ok b => .ok (!b)
  | r => r
theorem e_bnot : bnotR p δ = bnX (p δ) := rfl
theorem e_bn : bnX (.ok b) = .ok (!b) := rfl
theorem e_bne : bnX (.er c) = .er c := rfl
def ieX (r : ResB) (f g : Dl → Res) (δ : Dl) : Res := match r with
  | .ok true => f δ
  | .ok false => g δ
  | .er c => .er c
  | .no => .no
theorem e_ife : ifR p f1 f2 δ = ieX (p δ) f1 f2 δ := rfl
theorem e_iet : ieX (.ok true) f1 f2 δ = f1 δ := rfl
theorem e_ief : ieX (.ok false) f1 f2 δ = f2 δ := rfl
def chX (r : Opt) (g' : D → D → Opt) (e : D) (f3 : Dl → Res) (δ : Dl) : Res := match r with
  | some (.bl true, .st) => bindR (f3 δ) fun u _ => optR (g' e u)
  | some (.bl false, .st) => .ok (.bl false) .st
  | _ => .no
def ch2 (g g' : D → D → Opt) (r1 r2 : Res) (f3 : Dl → Res) (δ : Dl) : Res := bindR r1 fun d _ => bindR r2 fun e _ => chX (g d e) g' e f3 δ
theorem e_ch : chR g g' f1 f2 f3 δ = ch2 g g' (f1 δ) (f2 δ) f3 δ := rfl
theorem e_ch2 : ch2 g g' (.ok d k) (.ok e k') f3 δ = chX (g d e) g' e f3 δ := rfl
theorem e_cht : chX (some (.bl true, .st)) g' e f3 δ = op1 (g' e) (f3 δ) := rfl
theorem e_chf : chX (some (.bl false, .st)) g' e f3 δ = .ok (.bl false) .st := rfl
theorem e_nil : nilR δ = .ok [] true := rfl
def cnX (r : Res) (q : ResA) : ResA := match r with
  | .ok d k => (match q with
    | .ok ds st => .ok (d :: ds) (stK d k && st)
    | .er c => .er c
    | .no => .no)
  | .er c => .er c
  | .no => .no
theorem e_cons : consR f fa δ = cnX (f δ) (fa δ) := rfl
theorem e_cn : cnX (.ok d k) (.ok ds b) = .ok (d :: ds) (stK d k && b) := rfl
theorem e_cne : cnX (.er c) q = .er c := rfl
theorem e_cnf : cnX (.ok d k) (.er c) = .er c := rfl
theorem e_arg1 : arg1 f δ = cnX (f δ) (.ok [] true) := rfl
theorem e_arg2 : arg2 f1 f2 δ = cnX (f1 δ) (cnX (f2 δ) (.ok [] true)) := rfl
def lsX (r : ResA) : Res := match r with
  | .ok ds st => if st = true ∧ ds.length ≤ sizeLine then .ok (.lst ds) .tp else .no
  | .er c => .er c
  | .no => .no
theorem e_lst : lstR fa δ = lsX (fa δ) := rfl
theorem e_ls (h : ds.length ≤ sizeLine := by exact Nat.le_of_ble_eq_true rfl) : lsX (.ok ds true) = .ok (.lst ds) .tp := by unfold lsX; simp only [h, and_self, if_true]
theorem e_lse : lsX (.er c) = .er c := rfl
theorem le_sz0 : (0 : Nat) ≤ sizeLine := Nat.zero_le _
theorem le_sz {n : Nat} (h : n ≤ 1000) : n ≤ sizeLine := Nat.le_trans h (by decide +kernel)
theorem lt_sz {n : Nat} (h : n ≤ 1000) : n < sizeLine := Nat.lt_of_le_of_lt h (by decide +kernel)
theorem e_ls0 : lsX (.ok [] true) = .ok (.lst []) .tp := e_ls (le_sz0)
theorem e_ls1 {a : D} : lsX (.ok [a] true) = .ok (.lst [a]) .tp := e_ls (le_sz (by simp))
theorem e_ls2 {a1 a2 : D} : lsX (.ok [a1, a2] true) = .ok (.lst [a1, a2]) .tp := e_ls (le_sz (by simp))
theorem e_ls3 {a1 a2 a3 : D} : lsX (.ok [a1, a2, a3] true) = .ok (.lst [a1, a2, a3]) .tp := e_ls (le_sz (by simp))
theorem e_ls4 {a1 a2 a3 a4 : D} : lsX (.ok [a1, a2, a3, a4] true) = .ok (.lst [a1, a2, a3, a4]) .tp := e_ls (le_sz (by simp))
theorem e_ls5 {a1 a2 a3 a4 a5 : D} : lsX (.ok [a1, a2, a3, a4, a5] true) = .ok (.lst [a1, a2, a3, a4, a5]) .tp := e_ls (le_sz (by simp))
theorem e_ls6 {a1 a2 a3 a4 a5 a6 : D} : lsX (.ok [a1, a2, a3, a4, a5, a6] true) = .ok (.lst [a1, a2, a3, a4, a5, a6]) .tp := e_ls (le_sz (by simp))
theorem e_ls7 {a1 a2 a3 a4 a5 a6 a7 : D} : lsX (.ok [a1, a2, a3, a4, a5, a6, a7] true) = .ok (.lst [a1, a2, a3, a4, a5, a6, a7]) .tp := e_ls (le_sz (by simp))
theorem e_ls8 {a1 a2 a3 a4 a5 a6 a7 a8 : D} : lsX (.ok [a1, a2, a3, a4, a5, a6, a7, a8] true) = .ok (.lst [a1, a2, a3, a4, a5, a6, a7, a8]) .tp := e_ls (le_sz (by simp))
def tuX (r : ResA) : Res := match r with
  | .ok ds st => if st = true ∧ ds.length ≤ sizeLine then .ok (.tup ds) .st else .no
  | .er c => .er c
  | .no => .no
theorem e_tup : tupR fa δ = tuX (fa δ) := rfl
theorem e_tu (h : ds.length ≤ sizeLine) : tuX (.ok ds true) = .ok (.tup ds) .st := by unfold tuX; simp only [h, and_self, if_true]
theorem e_tue : tuX (.er c) = .er c := rfl
theorem e_tu0 : tuX (.ok [] true) = .ok (.tup []) .st := e_tu (le_sz0)
theorem e_tu1 {a : D} : tuX (.ok [a] true) = .ok (.tup [a]) .st := e_tu (le_sz (by simp))
theorem e_tu2 {a1 a2 : D} : tuX (.ok [a1, a2] true) = .ok (.tup [a1, a2]) .st := e_tu (le_sz (by simp))
theorem e_tu3 {a1 a2 a3 : D} : tuX (.ok [a1, a2, a3] true) = .ok (.tup [a1, a2, a3]) .st := e_tu (le_sz (by simp))
theorem e_tu4 {a1 a2 a3 a4 : D} : tuX (.ok [a1, a2, a3, a4] true) = .ok (.tup [a1, a2, a3, a4]) .st := e_tu (le_sz (by simp))
theorem e_dnew : gDnew δ = .ok (.dt []) .tp := rfl
def cbX (g : List D → Opt) (r : ResA) : Res := match r with
  | .ok ds _ => optR (g ds)
  | .er c => .er c
  | .no => .no
theorem e_cb {g : List D → Opt} : cbR g fa δ = cbX g (fa δ) := rfl
theorem e_cbo {g : List D → Opt} : cbX g (.ok ds b) = optR (g ds) := rfl
theorem e_cbe {g : List D → Opt} : cbX g (.er c) = .er c := rfl
theorem e_lens : gLen [.str s] = if s.length ≤ sizeLine then some (.int s.length, .st) else none := rfl
theorem e_lenl : gLen [.lst ds] = some (.int ds.length, .st) := rfl
theorem e_lent : gLen [.tup ds] = some (.int ds.length, .st) := rfl
theorem e_lenc {ns : List Int} : gLen [.scr ns] = some (.int ns.length, .st) := rfl
theorem e_list : gList [.lst ds] = if imms ds = true then some (.lst ds, .tp) else none := rfl
theorem e_listt : gList [.tup ds] = if imms ds = true then some (.lst ds, .tp) else none := rfl
theorem e_inti : gInt [.int i] = some (.int i, .st) := rfl
theorem e_intb : gInt [.bl b] = some (.int (if b then 1 else 0), .st) := rfl
theorem e_ints : gInt [.str s] = if s.length ≤ 640 then (PySem.intText? s).map fun n => (.int n, .st) else none := rfl
theorem e_max : gMax2 [.int i, .int j] = some (.int (if j > i then j else i), .st) := rfl
theorem e_min : gMin2 [.int i, .int j] = some (.int (if j < i then j else i), .st) := rfl
/-! holding -/
theorem e_kst : stK d .st = true := rfl
theorem e_ktp : stK d .tp = true := rfl
theorem e_kdp : stK d .dp = true := rfl
theorem e_ki : stK (.int i) k = true := by cases k <;> rfl
theorem e_ks : stK (.str s) k = true := by cases k <;> rfl
theorem e_kb : stK (.bl b) k = true := by cases k <;> rfl
theorem e_kn : stK .non k = true := by cases k <;> rfl
theorem e_ktb : stK (.tup ds) .bw = imms ds := rfl
theorem e_kta : stK (.tup ds) .any = imms ds := rfl
theorem e_xst : kIx d .st = .st := rfl
theorem e_xtp : kIx d .tp = .st := rfl
theorem e_xdp : kIx d .dp = .st := rfl
theorem e_xbw : kIx (.lst ds) .bw = .bw := rfl
theorem e_xan : kIx (.lst ds) .any = .any := rfl
theorem e_xcb {ns : List Int} : kIx (.scr ns) .bw = .bw := rfl
theorem e_xs : kIx (.str s) k = .st := by cases k <;> rfl
theorem e_si : setS (.int i) k = some (.sh (.int i)) := rfl
theorem e_ss : setS (.str s) k = some (.sh (.str s)) := rfl
theorem e_sb : setS (.bl b) k = some (.sh (.bl b)) := rfl
theorem e_sn : setS .non k = some (.sh .non) := rfl
theorem e_slt : setS (.lst ds) .tp = some (.ow (.lst ds)) := rfl
theorem e_sls : setS (.lst ds) .st = some (.sh (.lst ds)) := rfl
theorem e_slb : setS (.lst ds) .bw = some (.bo (.lst ds)) := rfl
theorem e_sld (h : imms ds = true) : setS (.lst ds) .dp = some (.ow (.lst ds)) := by simp only [setS, imm, h, if_true, Bool.false_eq_true, if_false]
theorem e_sdp {kvs} : setS (.dt kvs) .tp = some (.ow (.dt kvs)) := rfl
theorem e_sst : setS d .st = some (.sh d) := by unfold setS; split <;> rfl
theorem e_its : itemS d .st = some (.sh d) := by unfold itemS; split <;> rfl
theorem e_itb (h : imm d = true) : itemS d .bw = some (.sh d) := by unfold itemS; rw [if_pos h]
theorem e_itbl : itemS (.lst ds) .bw = some (.bo (.lst ds)) := rfl
/-! reading -/
def ixX (r1 r2 : Res) : Res := bindR r1 fun d k => bindR r2 fun e _ => optR (gIx d k e)
theorem e_ix : ixR f1 f2 δ = ixX (f1 δ) (f2 δ) := rfl
theorem e_ixo : ixX (.ok d k) (.ok (.int i) k') = optR ((itemD d i).map fun x => (x, kIx d k)) := rfl
theorem e_ixe : ixX (.er c) r = .er c := rfl
theorem e_ixf : ixX (.ok d k) (.er c) = .er c := rfl
theorem e_nop : noPart δ = .ok none := rfl
def smX (r : Res) : ResO := match r with
  | .ok (.int i) _ => .ok (some i)
  | .er c => .er c
  | _ => .no
theorem e_som : someR f δ = smX (f δ) := rfl
theorem e_smo : smX (.ok (.int i) k) = .ok (some i) := rfl
def slX (r : Res) (p q : ResO) : Res := bindR r fun d _ => match p with
  | .ok lo => (match q with
    | .ok hi => optR (gSl d lo hi)
    | .er c => .er c
    | .no => .no)
  | .er c => .er c
  | .no => .no
theorem e_sl {p q : Dl → ResO} : slR f p q δ = slX (f δ) (p δ) (q δ) := rfl
theorem e_slo {lo hi : Option Int} : slX (.ok d k) (.ok lo) (.ok hi) = optR (gSl d lo hi) := rfl
theorem e_gsl {lo hi : Option Int} : gSl (.lst ds) lo hi = if imms ds = true then some (.lst (cutD ds lo hi), .tp) else none := rfl
theorem e_gss {lo hi : Option Int} : gSl (.str s) lo hi = if s.length ≤ sizeLine then some (.str (cutS s lo hi), .st) else none := rfl
theorem e_rev : gRev (.lst ds) = if imms ds = true then some (.lst ds.reverse, .tp) else none := rfl
def d1X (r1 r2 : Res) : Res := bindR r1 fun d _ => if isDic d = true then bindR r2 fun e _ => optR (gDGet1 d e) else .no
theorem e_dg1 : dg1R f1 f2 δ = d1X (f1 δ) (f2 δ) := rfl
theorem e_d1o {kvs} : d1X (.ok (.dt kvs) k) (.ok e k') = optR (gDGet1 (.dt kvs) e) := rfl
theorem e_d1k {kvs} : d1X (.ok (.dk kvs) k) (.ok e k') = optR (gDGet1 (.dk kvs) e) := rfl
def m1X (g : D → D → Opt) (r1 r2 : Res) : Res := bindR r1 fun d _ => if isStr d = true then bindR r2 fun e _ => optR (g d e) else .no
theorem e_m1 : m1R g f1 f2 δ = m1X g (f1 δ) (f2 δ) := rfl
theorem e_m1o : m1X g (.ok (.str s) k) (.ok e k') = optR (g (.str s) e) := rfl
/-! calls -/
def clX (g : List D → Ret) (r : ResA) : Res := match r with
  | .ok ds _ => (match g ds with
    | .ok d => .ok d .dp
    | .er c => .er c
    | .no => .no)
  | .er c => .er c
  | .no => .no
def reX (r : Ret) : Res := match r with
  | .ok d => .ok d .dp
  | .er c => .er c
  | .no => .no
theorem e_call {g : List D → Ret} : callR g fa δ = clX g (fa δ) := rfl
theorem e_cl {g : List D → Ret} : clX g (.ok ds b) = reX (g ds) := rfl
theorem e_cle {g : List D → Ret} : clX g (.er c) = .er c := rfl
theorem e_re : reX (.ok d) = .ok d .dp := rfl
theorem e_ree : reX (.er c) = .er c := rfl
theorem e_rt : outR (.rt d) = .ok d := rfl
theorem e_rnx : outR (.nx δ) = .ok .non := rfl
theorem e_rer : outR (.er c δ) = .er c := rfl
theorem e_def0 : defR 0 m K [] = outR (K (List.replicate m .un)) := rfl
theorem e_def1 {a : D} : defR 1 m K [a] = outR (K (.bo a :: List.replicate m .un)) := rfl
theorem e_def2 {a1 a2 : D} : defR 2 m K [a1, a2] = outR (K (.bo a1 :: .bo a2 :: List.replicate m .un)) := rfl
theorem e_def3 {a1 a2 a3 : D} : defR 3 m K [a1, a2, a3] = outR (K (.bo a1 :: .bo a2 :: .bo a3 :: List.replicate m .un)) := rfl
theorem e_def4 {a1 a2 a3 a4 : D} : defR 4 m K [a1, a2, a3, a4] = outR (K (.bo a1 :: .bo a2 :: .bo a3 :: .bo a4 :: List.replicate m .un)) := rfl
theorem e_def5 {a1 a2 a3 a4 a5 : D} : defR 5 m K [a1, a2, a3, a4, a5] = outR (K (.bo a1 :: .bo a2 :: .bo a3 :: .bo a4 :: .bo a5 :: List.replicate m .un)) := rfl
theorem e_def6 {a1 a2 a3 a4 a5 a6 : D} : defR 6 m K [a1, a2, a3, a4, a5, a6] = outR (K (.bo a1 :: .bo a2 :: .bo a3 :: .bo a4 :: .bo a5 :: .bo a6 :: List.replicate m .un)) := rfl
/-! statements -/
theorem e_seq : seqF K1 K2 δ = seqO (K1 δ) K2 := rfl
theorem e_sqn : seqO (.nx δ) K = K δ := rfl
theorem e_sqr : seqO (.rt d) K = .rt d := rfl
theorem e_sqe : seqO (.er c δ) K = .er c δ := rfl
theorem e_sqb : seqO (.bk δ) K = .bk δ := rfl
theorem e_sqc : seqO (.ct δ) K = .ct δ := rfl
def seX (n : Nat) (r : Res) (δ : Dl) : Out := match r with
  | .ok d k => (match setS d k with
    | some x => .nx (δ.set n x)
    | none => .no)
  | .er c => .er c δ
  | .no => .no
def se2 (n : Nat) (r : Option Slot) (δ : Dl) : Out := match r with
  | some x => .nx (δ.set n x)
  | none => .no
theorem e_set : setO n f δ = seX n (f δ) δ := rfl
theorem e_seo : seX n (.ok d k) δ = se2 n (setS d k) δ := rfl
theorem e_see : seX n (.er c) δ = .er c δ := rfl
theorem e_se2 {x : Slot} : se2 n (some x) δ = .nx (δ.set n x) := rfl
def ifX (r : ResB) (k1 k2 : Dl → Out) (δ : Dl) : Out := match r with
  | .ok true => k1 δ
  | .ok false => k2 δ
  | .er c => .er c δ
  | .no => .no
theorem e_if : ifO p K1 K2 δ = ifX (p δ) K1 K2 δ := rfl
theorem e_ift : ifX (.ok true) K1 K2 δ = K1 δ := rfl
theorem e_iff : ifX (.ok false) K1 K2 δ = K2 δ := rfl
theorem e_ifr : ifX (.er c) K1 K2 δ = .er c δ := rfl
def rtX (r : Res) (δ : Dl) : Out := match r with
  | .ok d k => if stK d k = true then .rt d else .no
  | .er c => .er c δ
  | .no => .no
theorem e_ret : retO f δ = rtX (f δ) δ := rfl
theorem e_rto : rtX (.ok d k) δ = if stK d k = true then .rt d else .no := rfl
theorem e_rte : rtX (.er c) δ = .er c δ := rfl
def epX (r : Res) (δ : Dl) : Out := match r with
  | .ok _ _ => .nx δ
  | .er c => .er c δ
  | .no => .no
theorem e_exp : expO f δ = epX (f δ) δ := rfl
theorem e_epo : epX (.ok d k) δ = .nx δ := rfl
theorem e_epe : epX (.er c) δ = .er c δ := rfl
theorem e_rai : raiO c δ = .er c δ := rfl
theorem e_frz {is : List Nat} : frzF is K δ = K (frzO is δ) := rfl
theorem e_fro : frzO [] δ = δ := rfl
theorem e_frc {is : List Nat} : frzO (n :: is) δ = frzO is (match δ[n]? with
  | some x => δ.set n (frzS x)
  | none => δ) := rfl
theorem e_fzo : frzS (.ow d) = .sh d := rfl
theorem e_fzd : frzS (.dp d) = .sh d := rfl
theorem e_fzs : frzS (.sh d) = .sh d := rfl
theorem e_fzb : frzS (.bo d) = .bo d := rfl
theorem e_fzu : frzS .un = .un := rfl
def foX (r : ItR) (n : Nat) (K : Dl → Out) (δ : Dl) : Out := match r with
  | .ok items k => if k = .st ∨ k = .bw then forL n k K items δ else .no
  | .er c => .er c δ
  | .no => .no
theorem e_for {it : Dl → ItR} : forO it n K δ = foX (it δ) n K δ := rfl
theorem e_fos : foX (.ok ds .st) n K δ = forL n .st K ds δ := rfl
theorem e_fob : foX (.ok ds .bw) n K δ = forL n .bw K ds δ := rfl
theorem e_foe : foX (.er c) n K δ = .er c δ := rfl
def liX (r : Res) : ItR := match r with
  | .ok (.lst ds) k => .ok ds (kIx (.lst ds) k)
  | .er c => .er c
  | _ => .no
theorem e_lii : lstI f δ = liX (f δ) := rfl
theorem e_lio : liX (.ok (.lst ds) k) = .ok ds (kIx (.lst ds) k) := rfl
def tiX (r : Res) : ItR := match r with
  | .ok (.tup ds) k => .ok ds (kIx (.tup ds) k)
  | .er c => .er c
  | _ => .no
theorem e_tii : tupI f δ = tiX (f δ) := rfl
theorem e_tio : tiX (.ok (.tup ds) k) = .ok ds (kIx (.tup ds) k) := rfl
def stX (r : Res) : ItR := match r with
  | .ok (.str s) _ => .ok (sgns s) .st
  | .er c => .er c
  | _ => .no
theorem e_sti : strI f δ = stX (f δ) := rfl
theorem e_sto : stX (.ok (.str s) k) = .ok (sgns s) .st := rfl
def r1X (r : Res) : ItR := match r with
  | .ok (.int j) _ => if smallR j = true then .ok (rng 0 1 j.toNat) .st else .no
  | .er c => .er c
  | _ => .no
theorem e_r1 : rng1I f δ = r1X (f δ) := rfl
theorem e_r1o : r1X (.ok (.int j) k) = if smallR j = true then .ok (rng 0 1 j.toNat) .st else .no := rfl
def r2X (r q : Res) : ItR := match r with
  | .ok (.int i) _ => (match q with
    | .ok (.int j) _ => if smallR i = true ∧ smallR j = true then .ok (rng i 1 (j - i).toNat) .st else .no
    | .er c => .er c
    | _ => .no)
  | .er c => .er c
  | _ => .no
theorem e_r2 : rng2I f1 f2 δ = r2X (f1 δ) (f2 δ) := rfl
theorem e_r2o : r2X (.ok (.int i) k) (.ok (.int j) k') = if smallR i = true ∧ smallR j = true then .ok (rng i 1 (j - i).toNat) .st else .no := rfl
def coX (r : ItR) (n : Nat) (p : Dl → ResB) (f : Dl → Res) (δ : Dl) : Res := match r with
  | .ok items _ => if noAn (δ.set n .un) = true then (match compL n p f (δ.set n .un) items [] with
    | some acc => .ok (.lst acc) .tp
    | none => .no) else .no
  | .er c => .er c
  | .no => .no
def ccX (r : Option (List D)) : Res := match r with
    | some acc => .ok (.lst acc) .tp
    | none => .no
theorem e_comp {it : Dl → ItR} : compR it n p f δ = coX (it δ) n p f δ := rfl
theorem e_coo : coX (.ok ds k) n p f δ = if noAn (δ.set n .un) = true then ccX (compL n p f (δ.set n .un) ds []) else .no := rfl
theorem e_cc : ccX (some ds) = .ok (.lst ds) .tp := rfl
theorem e_yes : yesR δ = .ok true := rfl
theorem e_na0 : noAn [] = true := rfl
theorem e_nas : noAn (.sh d :: δ) = noAn δ := rfl
theorem e_nab : noAn (.bo d :: δ) = noAn δ := rfl
theorem e_nao : noAn (.ow d :: δ) = noAn δ := rfl
theorem e_nad : noAn (.dp d :: δ) = noAn δ := rfl
theorem e_nau : noAn (.un :: δ) = noAn δ := rfl
theorem e_naa : noAn (.an d :: δ) = false := rfl
theorem e_nae : noAn (.ex c :: δ) = noAn δ := rfl
theorem e_ne0 : noEx [] = true := rfl
theorem e_nes : noEx (.sh d :: δ) = noEx δ := rfl
theorem e_neb : noEx (.bo d :: δ) = noEx δ := rfl
theorem e_neo : noEx (.ow d :: δ) = noEx δ := rfl
theorem e_ned : noEx (.dp d :: δ) = noEx δ := rfl
theorem e_neu : noEx (.un :: δ) = noEx δ := rfl
theorem e_nea : noEx (.an d :: δ) = noEx δ := rfl
theorem e_nee : noEx (.ex c :: δ) = false := rfl
def apX (r : Option Slot) (q : Res) (n : Nat) (δ : Dl) : Out := match r with
  | some (.ow (.lst ds)) => (match q with
    | .ok d k => if stK d k = true ∧ ds.length < sizeLine ∧ noAn δ = true then .nx (δ.set n (.ow (.lst (ds ++ [d])))) else .no
    | .er c => .er c δ
    | .no => .no)
  | _ => .no
theorem e_app : appO n f δ = apX δ[n]? (f δ) n δ := rfl
theorem e_apo : apX (some (.ow (.lst ds))) (.ok d k) n δ = if stK d k = true ∧ ds.length < sizeLine ∧ noAn δ = true then .nx (δ.set n (.ow (.lst (ds ++ [d])))) else .no := rfl
def siX (q : Res) (r : Option Slot) (x : Res) (n : Nat) (δ : Dl) : Out := match q with
  | .ok d k => (match r with
    | some (.ow (.lst ds)) => (match x with
      | .ok (.int j) _ => (match ixN ds.length j with
        | some at' => if stK d k = true ∧ noAn δ = true then .nx (δ.set n (.ow (.lst (ds.set at' d)))) else .no
        | none => .no)
      | .er c => .er c δ
      | _ => .no)
    | _ => .no)
  | .er c => .er c δ
  | .no => .no
def si2 (r : Option Nat) (d : D) (k : Kd) (ds : List D) (n : Nat) (δ : Dl) : Out := match r with
        | some at' => if stK d k = true ∧ noAn δ = true then .nx (δ.set n (.ow (.lst (ds.set at' d)))) else .no
        | none => .no
theorem e_sei : setiO n f1 f2 δ = siX (f2 δ) δ[n]? (f1 δ) n δ := rfl
theorem e_sio : siX (.ok d k) (some (.ow (.lst ds))) (.ok (.int j) k') n δ = si2 (ixN ds.length j) d k ds n δ := rfl
theorem e_si2 : si2 (some m) d k ds n δ = if stK d k = true ∧ noAn δ = true then .nx (δ.set n (.ow (.lst (ds.set m d)))) else .no := rfl
def dpX (q : Res) (r : Option Slot) (x : Res) (n : Nat) (δ : Dl) : Out := match q with
  | .ok d _ => (match scOf d with
    | some v => (match r with
      | some (.ow m) => (match x with
        | .ok kd _ => (match dput m kd v with
          | some m' => if noAn δ = true then .nx (δ.set n (.ow m')) else .no
          | none => .no)
        | .er c => .er c δ
        | .no => .no)
      | _ => .no)
    | none => .no)
  | .er c => .er c δ
  | .no => .no
def dp2 (r : Option D) (n : Nat) (δ : Dl) : Out := match r with
          | some m' => if noAn δ = true then .nx (δ.set n (.ow m')) else .no
          | none => .no
theorem e_dput : dputO n f1 f2 δ = dpX (f2 δ) δ[n]? (f1 δ) n δ := rfl
theorem e_dpi {m : D} : dpX (.ok (.int i) k) (some (.ow m)) (.ok e k') n δ = dp2 (dput m e (.int i)) n δ := rfl
theorem e_dpb {m : D} : dpX (.ok (.bl b) k) (some (.ow m)) (.ok e k') n δ = dp2 (dput m e (.bl b)) n δ := rfl
theorem e_dp2 {m : D} : dp2 (some m) n δ = if noAn δ = true then .nx (δ.set n (.ow m)) else .no := rfl
def tyX (o : Out) (j : Option Nat) (takes : Ex → Bool) (K : Dl → Out) : Out := match o with
  | .er c δ' => if takes c = true then (if noEx δ' = true then behO j (K (exO j c δ')) else .no) else .er c δ'
  | o => o
theorem e_try {j : Option Nat} {tk : Ex → Bool} : tryO j tk K1 K2 δ = tyX (K1 δ) j tk K2 := rfl
theorem e_tyn {j : Option Nat} {tk : Ex → Bool} : tyX (.nx δ) j tk K2 = .nx δ := rfl
theorem e_tyr {j : Option Nat} {tk : Ex → Bool} : tyX (.rt d) j tk K2 = .rt d := rfl
theorem e_tye {j : Option Nat} {tk : Ex → Bool} : tyX (.er c δ) j tk K2 = if tk c = true then (if noEx δ = true then behO j (K2 (exO j c δ)) else .no) else .er c δ := rfl
theorem e_exs : exO (some n) c δ = δ.set n (.ex c) := rfl
theorem e_exn : exO none c δ = δ := rfl
theorem e_uns : unO (some n) δ = δ.set n .un := rfl
theorem e_unn : unO none δ = δ := rfl
theorem e_ber {j : Option Nat} : behO j (.rt d) = .rt d := rfl
theorem e_ben {j : Option Nat} : behO j (.nx δ) = (match noEx (unO j δ) with
    | true => .nx (unO j δ)
    | false => .no) := rfl
theorem e_tka : takeAll c = true := rfl
theorem e_tko {c' : Ex} : takeOnly c c' = decide (c' = c) := rfl
def erX (r : Option Slot) (tk : Ex → Bool) : Res := match r with
  | some (.ex c) => .ok (.bl (tk c)) .st
  | _ => .no
theorem e_ise {tk : Ex → Bool} : isER n tk δ = erX δ[n]? tk := rfl
theorem e_ero {tk : Ex → Bool} : erX (some (.ex c)) tk = .ok (.bl (tk c)) .st := rfl
def unX (r : Res) (n m : Nat) (δ : Dl) : Out := match r with
  | .ok (.tup [d, e]) k => if stK (.tup [d, e]) k = true then .nx ((δ.set n (.sh d)).set m (.sh e)) else .no
  | .er c => .er c δ
  | _ => .no
theorem e_unp : unpO n m f δ = unX (f δ) n m δ := rfl
theorem e_unt : unX (.ok (.tup [d, e]) k) n m δ = if stK (.tup [d, e]) k = true then .nx ((δ.set n (.sh d)).set m (.sh e)) else .no := rfl
theorem e_imi : imm (.int i) = true := rfl
theorem e_ims : imm (.str s) = true := rfl
theorem e_imb : imm (.bl b) = true := rfl
theorem e_imn : imm .non = true := rfl
theorem e_imt : imm (.tup ds) = imms ds := rfl
theorem e_im0 : imms [] = true := rfl
theorem e_imc : imms (d :: ds) = (imm d && imms ds) := rfl
theorem e_sml (h1 : -1000000000000 ≤ i) (h2 : i ≤ 1000000000000) : smallI i = true := by
  simp only [smallI, Bool.and_eq_true, decide_eq_true_eq]; omega
theorem e_smr (h1 : -1000000000000 ≤ i) (h2 : i ≤ 1000000000000) : smallR i = true := by
  simp only [smallR, Bool.and_eq_true, decide_eq_true_eq]; omega
theorem get_rng1 {n m : Nat} {d : D} (h : (rng 0 1 n)[m]? = some d) : m < n ∧ d = .int m := by
  simp only [rng, List.getElem?_map, Option.map_eq_some_iff] at h
  obtain ⟨j, h1, h2⟩ := h
  obtain ⟨h3, h4⟩ := List.getElem?_eq_some_iff.mp h1
  simp at h3 h4
  subst h4
  exact ⟨h3, by rw [← h2]; congr 1; omega⟩
theorem item_l (h0 : 0 ≤ i) (h1 : i < ds.length) : itemD (.lst ds) i = ds[i.toNat]? := by
  unfold itemD atI ixN
  simp only
  rw [if_pos h0, if_pos h1]
  rfl
theorem item_t (h0 : 0 ≤ i) (h1 : i < ds.length) : itemD (.tup ds) i = ds[i.toNat]? := by
  unfold itemD atI ixN
  simp only
  rw [if_pos h0, if_pos h1]
  rfl
theorem item_str {L : List Str} (h0 : 0 ≤ i) (h1 : i < L.length) : itemD (.lst (L.map .str)) i = some (.str (L.getD i.toNat "")) := by
  rw [item_l h0 (by simpa using h1), List.getElem?_map, List.getElem?_eq_getElem (by omega), List.getD_eq_getElem?_getD, List.getElem?_eq_getElem (by omega)]
  rfl
theorem e_it0 {a0 : D} : itemD (.lst (a0 :: ds)) 0 = some a0 := by rw [item_l (by decide) (by simp only [List.length_cons]; omega)]; rfl
theorem e_it1 {a0 a1 : D} : itemD (.lst (a0 :: a1 :: ds)) 1 = some a1 := by rw [item_l (by decide) (by simp only [List.length_cons]; omega)]; rfl
theorem e_it2 {a0 a1 a2 : D} : itemD (.lst (a0 :: a1 :: a2 :: ds)) 2 = some a2 := by rw [item_l (by decide) (by simp only [List.length_cons]; omega)]; rfl
theorem e_it3 {a0 a1 a2 a3 : D} : itemD (.lst (a0 :: a1 :: a2 :: a3 :: ds)) 3 = some a3 := by rw [item_l (by decide) (by simp only [List.length_cons]; omega)]; rfl
theorem e_it4 {a0 a1 a2 a3 a4 : D} : itemD (.lst (a0 :: a1 :: a2 :: a3 :: a4 :: ds)) 4 = some a4 := by rw [item_l (by decide) (by simp only [List.length_cons]; omega)]; rfl
theorem e_itt0 {a0 : D} : itemD (.tup (a0 :: ds)) 0 = some a0 := by rw [item_t (by decide) (by simp only [List.length_cons]; omega)]; rfl
theorem e_itt1 {a0 a1 : D} : itemD (.tup (a0 :: a1 :: ds)) 1 = some a1 := by rw [item_t (by decide) (by simp only [List.length_cons]; omega)]; rfl
theorem e_itt2 {a0 a1 a2 : D} : itemD (.tup (a0 :: a1 :: a2 :: ds)) 2 = some a2 := by rw [item_t (by decide) (by simp only [List.length_cons]; omega)]; rfl
theorem e_itt3 {a0 a1 a2 a3 : D} : itemD (.tup (a0 :: a1 :: a2 :: a3 :: ds)) 3 = some a3 := by rw [item_t (by decide) (by simp only [List.length_cons]; omega)]; rfl
theorem e_itt4 {a0 a1 a2 a3 a4 : D} : itemD (.tup (a0 :: a1 :: a2 :: a3 :: a4 :: ds)) 4 = some a4 := by rw [item_t (by decide) (by simp only [List.length_cons]; omega)]; rfl
def plS : Slot → Bool
  | .an _ => false
  | .ex _ => false
  | _ => true
theorem e_pla {x : Slot} (h : plS x = true) : noAn (x :: δ) = noAn δ := by
  cases x <;> first | rfl | cases h
theorem e_ple {x : Slot} (h : plS x = true) : noEx (x :: δ) = noEx δ := by
  cases x <;> first | rfl | cases h
theorem e_pls : plS (.sh d) = true := rfl
theorem e_plu : plS .un = true := rfl
theorem e_plb : plS (.bo d) = true := rfl
theorem e_plo : plS (.ow d) = true := rfl
end
end DD

set_option maxRecDepth 100000
namespace DD
noncomputable section
open PySem L2
def b1_is_place : Dl → Out := (ifO (tstR (opR gNotIn (varR 1) (conR (.str "abcdefghijklmnopqrstuvwxyz")))) (retO (conR (.bl false))) .nx)
/-- is_place: what it computes of the slots 0 thing, 1 sign -/
def d_is_place : Dl → Out := (seqF (ifO (borR (bnotR (tstR (unR (gIsi "str") (varR 0)))) (bnotR (tstR (chR gLe gLe (conR (.int 1)) (cbR gLen (arg1 (varR 0))) (conR (.int 12)))))) (retO (conR (.bl false))) .nx)
  (seqF (forO (strI (varR 0)) 1 b1_is_place)
  (retO (conR (.bl true)))))
def g_is_place : List D → Ret := defR 1 1 d_is_place
def b1_need_journey : Dl → Out := (seqF (ifO (bnotR (tstR (callR g_is_place (consR (varR 2) nilR)))) (raiO .place) .nx)
  (seqF (ifO (tstR (opR gEq (varR 2) (varR 1))) (raiO .journey) .nx)
  (setO 1 (varR 2))))
/-- need_journey: what it computes of the slots 0 places, 1 ahead, 2 place -/
def d_need_journey : Dl → Out := (seqF (ifO (bnotR (tstR (chR gLe gLe (conR (.int 2)) (cbR gLen (arg1 (varR 0))) (conR (.int 40))))) (raiO .journey) .nx)
  (seqF (setO 1 (conR .non))
  (seqF (forO (lstI (varR 0)) 2 b1_need_journey)
  (retO (cbR gList (arg1 (varR 0)))))))
def g_need_journey : List D → Ret := defR 1 2 d_need_journey
/-- _law_cell_at: what it computes of the slots 0 _law_script, 1 _law_k -/
def d_law_cell_at : Dl → Out := (seqF (ifO (tstR (opR gLt (varR 1) (cbR gLen (arg1 (varR 0))))) (retO (ixR (varR 0) (varR 1))) .nx)
  (retO (conR (.int 0))))
def g_law_cell_at : List D → Ret := defR 2 0 d_law_cell_at
def e1_law_place : Dl → Res := (ixR (varR 1) (opR gMod (opR gAdd (opR gDiv (varR 0) (conR (.int 12))) (opR gMul (varR 2) (opR gMod (opR gDiv (varR 0) (conR (.int 312))) (conR (.int 25))))) (conR (.int 26))))
/-- _law_place: what it computes of the slots 0 _law_cell, 1 _law_letters, 2 _law_k -/
def d_law_place : Dl → Out := (seqF (setO 1 (conR (.str "abcdefghijklmnopqrstuvwxyz")))
  (retO (m1R gJoin (conR (.str "")) (compR (rng1I (opR gAdd (conR (.int 1)) (opR gMod (varR 0) (conR (.int 12))))) 2 yesR e1_law_place))))
def g_law_place : List D → Ret := defR 1 2 d_law_place
def b1_law_row : Dl → Out := (seqF (setO 4 (callR g_law_place (consR (opR gAdd (callR g_law_cell_at (consR (varR 0) (consR (opR gAdd (conR (.int 4)) (opR gMod (varR 3) (conR (.int 58)))) nilR))) (opR gMul (conR (.int 97)) (opR gDiv (varR 3) (conR (.int 58))))) nilR)))
  (seqF (ifO (bandR (tstR (opR gGt (varR 3) (conR (.int 0)))) (tstR (opR gEq (varR 4) (ixR (varR 2) (opR gSub (varR 3) (conR (.int 1))))))) (setO 4 (ixR (lstR (consR (conR (.str "a")) (consR (conR (.str "b")) nilR))) (cbR gInt (arg1 (opR gEq (varR 4) (conR (.str "a"))))))) .nx)
  (appO 2 (varR 4))))
/-- _law_row: what it computes of the slots 0 _law_script, 1 _law_size, 2 _law_row_here, 3 _law_k, 4 _law_name -/
def d_law_row : Dl → Out := (seqF (setO 1 (opR gMod (callR g_law_cell_at (consR (varR 0) (consR (conR (.int 0)) nilR))) (conR (.int 43))))
  (seqF (ifO (tstR (opR gEq (opR gMod (opR gDiv (callR g_law_cell_at (consR (varR 0) (consR (conR (.int 0)) nilR))) (conR (.int 43))) (conR (.int 3))) (conR (.int 1)))) (setO 1 (ixR (lstR (consR (conR (.int 0)) (consR (conR (.int 1)) (consR (conR (.int 2)) (consR (conR (.int 39)) (consR (conR (.int 40)) (consR (conR (.int 41)) nilR))))))) (opR gMod (opR gDiv (callR g_law_cell_at (consR (varR 0) (consR (conR (.int 0)) nilR))) (conR (.int 129))) (conR (.int 6))))) .nx)
  (seqF (setO 2 (lstR nilR))
  (seqF (forO (rng1I (varR 1)) 3 b1_law_row)
  (frzF [2] (retO (varR 2)))))))
def g_law_row : List D → Ret := defR 1 4 d_law_row
/-- _law_bad: what it computes of the slots 0 _law_cell, 1 _law_name, 2 _law_at, 3 _law_odd -/
def d_law_bad : Dl → Out := (seqF (setO 2 (opR gMod (opR gDiv (varR 0) (conR (.int 7))) (conR (.int 12))))
  (seqF (setO 3 (opR gAdd (slR (varR 1) noPart (someR (varR 2))) (ixR (conR (.str "AZ09_ -.[`{@/")) (opR gMod (opR gDiv (varR 0) (conR (.int 84))) (conR (.int 13))))))
  (seqF (setO 3 (opR gAdd (varR 3) (slR (slR (varR 1) (someR (varR 2)) noPart) noPart (someR (conR (.int 11))))))
  (retO (ixR (lstR (consR (conR (.str "")) (consR (opR gMul (slR (varR 1) noPart (someR (conR (.int 1)))) (conR (.int 13))) (consR (slR (varR 3) noPart (someR (conR (.int 12)))) (consR (conR .non) (consR (conR (.int 5)) (consR (opR gMul (slR (varR 1) noPart (someR (conR (.int 1)))) (conR (.int 20))) (consR (slR (varR 3) noPart (someR (conR (.int 12)))) nilR)))))))) (opR gMod (varR 0) (conR (.int 7))))))))
def g_law_bad : List D → Ret := defR 2 2 d_law_bad
def t1_law_is_place : Dl → ResB := (tstR (opR gNotIn (varR 1) (conR (.str "abcdefghijklmnopqrstuvwxyz"))))
def e1_law_is_place : Dl → Res := (varR 1)
/-- _law_is_place: what it computes of the slots 0 _law_thing, 1 _law_sign -/
def d_law_is_place : Dl → Out := (seqF (ifO (borR (bnotR (tstR (unR (gIsi "str") (varR 0)))) (bnotR (tstR (chR gLe gLe (conR (.int 1)) (cbR gLen (arg1 (varR 0))) (conR (.int 12)))))) (retO (conR (.bl false))) .nx)
  (retO (opR gEq (compR (strI (varR 0)) 1 t1_law_is_place e1_law_is_place) (lstR nilR))))
def g_law_is_place : List D → Ret := defR 1 1 d_law_is_place
def b1_law_due : Dl → Out := (seqF (ifO (bnotR (tstR (callR g_law_is_place (consR (ixR (varR 0) (varR 1)) nilR)))) (retO (conR (.str "place"))) .nx)
  (ifO (bandR (tstR (opR gGt (varR 1) (conR (.int 0)))) (tstR (opR gEq (ixR (varR 0) (varR 1)) (ixR (varR 0) (opR gSub (varR 1) (conR (.int 1))))))) (retO (conR (.str "journey"))) .nx))
/-- _law_due: what it computes of the slots 0 _law_row_here, 1 _law_k -/
def d_law_due : Dl → Out := (seqF (ifO (bnotR (tstR (chR gLe gLe (conR (.int 2)) (cbR gLen (arg1 (varR 0))) (conR (.int 40))))) (retO (conR (.str "journey"))) .nx)
  (seqF (forO (rng1I (cbR gLen (arg1 (varR 0)))) 1 b1_law_due)
  (retO (conR (.str "")))))
def g_law_due : List D → Ret := defR 1 1 d_law_due
def b1_law : Dl → Out := (ifO (tstR (opR gGt (cbR gLen (arg1 (varR 1))) (conR (.int 0)))) (seqF (setO 4 (opR gMod (callR g_law_cell_at (consR (varR 0) (consR (opR gAdd (conR (.int 2)) (varR 3)) nilR))) (cbR gLen (arg1 (varR 1)))))
  (seqF (setO 5 (callR g_law_cell_at (consR (varR 0) (consR (opR gSub (conR (.int 62)) (varR 3)) nilR))))
  (ifO (borR (tstR (opR gEq (varR 4) (conR (.int 0)))) (tstR (opR gEq (opR gMod (opR gDiv (callR g_law_cell_at (consR (varR 0) (consR (conR (.int 1)) nilR))) (opR gAdd (conR (.int 3)) (varR 3))) (conR (.int 2))) (conR (.int 0))))) (setiO 1 (varR 4) (callR g_law_bad (consR (varR 5) (consR (callR g_law_place (consR (opR gDiv (varR 5) (conR (.int 91))) nilR)) nilR)))) (setiO 1 (varR 4) (ixR (varR 1) (opR gSub (varR 4) (conR (.int 1)))))))) .nx)
def y1_law : Dl → Out := (setO 8 (callR g_need_journey (consR (varR 6) nilR)))
def h1_law : Dl → Out := (seqF (setO 10 (ixR (lstR (consR (conR (.str "place")) (consR (conR (.str "journey")) nilR))) (cbR gInt (arg1 (isER 9 (takeOnly .journey))))))
  (seqF (ifO (borR (tstR (opR gEq (isER 9 (takeOnly .place)) (isER 9 (takeOnly .journey)))) (bnotR (tstR (isER 9 takeAll)))) (retO (conR (.bl false))) .nx)
  (retO (andR (opR gEq (varR 10) (varR 7)) (opR gEq (varR 6) (varR 1))))))
/-- law: what it computes of the slots 0 _law_script, 1 _law_row_here, 2 _law_kind, 3 _law_turn, 4 _law_at, 5 _law_cell, 6 _law_handed, 7 _law_due_here, 8 _law_found, 9 error, 10 _law_told -/
def d_law : Dl → Out := (seqF (setO 1 (callR g_law_row (consR (varR 0) nilR)))
  (seqF (setO 2 (opR gMod (callR g_law_cell_at (consR (varR 0) (consR (conR (.int 1)) nilR))) (conR (.int 3))))
  (seqF (forO (rng1I (varR 2)) 3 b1_law)
  (seqF (setO 6 (cbR gList (arg1 (varR 1))))
  (seqF (setO 7 (callR g_law_due (consR (varR 1) nilR)))
  (seqF (tryO (some 9) takeAll y1_law h1_law)
  (seqF (ifO (borR (bnotR (tstR (unR (gIsi "list") (varR 8)))) (borR (tstR (opR gNe (varR 7) (conR (.str "")))) (tstR (opR gNe (varR 8) (varR 1))))) (retO (conR (.bl false))) .nx)
  (seqF (appO 8 (conR (.str "x")))
  (retO (opR gEq (varR 6) (varR 1)))))))))))
def g_law : List D → Ret := defR 1 10 d_law
end
end DD

set_option maxRecDepth 100000
set_option maxHeartbeats 4000000
namespace DD
open PySem L2
local macro_rules | `(tactic| walk_at "ev0") => `(tactic| simp only [e_var, e_sml, e_smr, e_sh, e_bo, e_ow, e_dp, e_an, e_con, e_opt, e_op, e_op2, e_op2e, e_op2f, e_un, e_op1, e_op1e, e_add, e_adds, e_addl, e_sub, e_mul, e_muls, e_mull, e_mulI, e_div, e_mod, e_lt, e_le, e_gt, e_ge, e_neg, e_not, e_isn, e_notn, e_nn, e_ni, e_ns, e_nb, e_nl, e_nt, e_eqs, e_eqi, e_eqb, e_eqn, e_eqni, e_eqin, e_eqns, e_eqsn, e_eqsi, e_eqis, e_eq, e_ne, e_in, e_nin, e_din, e_dnin, e_dget, e_dget1, e_and, e_andt, e_andf, e_ande, e_or, e_orf, e_ort, e_tst, e_ts, e_tse, e_band, e_bat, e_baf, e_bae, e_bor, e_bof, e_bot, e_boe, e_bnot, e_bn, e_bne, e_ife, e_iet, e_ief, e_ch, e_ch2, e_cht, e_chf, e_nil, e_cons, e_cn, e_cne, e_cnf, e_arg1, e_arg2, e_lst, e_lse, e_ls0, e_ls1, e_ls2, e_ls3, e_ls4, e_ls5, e_ls6, e_ls7, e_ls8, e_tup, e_tue, e_tu0, e_tu1, e_tu2, e_tu3, e_tu4, e_dnew, e_cb, e_cbo, e_cbe, e_lens, e_lenl, e_lent, e_lenc, e_list, e_listt, e_inti, e_intb, e_ints, e_max, e_min, e_kst, e_ktp, e_kdp, e_ki, e_ks, e_kb, e_kn, e_ktb, e_kta, e_xst, e_xtp, e_xdp, e_xbw, e_xan, e_xcb, e_xs, e_si, e_ss, e_sb, e_sn, e_slt, e_sls, e_slb, e_sdp, e_sst, e_its, e_itbl, e_ix, e_ixo, e_ixe, e_ixf, e_nop, e_som, e_smo, e_sl, e_slo, e_gsl, e_gss, e_rev, e_dg1, e_d1o, e_d1k, e_m1, e_m1o, e_call, e_cl, e_cle, e_re, e_ree, e_rt, e_rnx, e_rer, e_def0, e_def1, e_def2, e_def3, e_def4, e_def5, e_def6, e_seq, e_sqn, e_sqr, e_sqe, e_sqb, e_sqc, e_set, e_seo, e_see, e_se2, e_if, e_ift, e_iff, e_ifr, e_ret, e_rto, e_rte, e_exp, e_epo, e_epe, e_rai, e_frz, e_fro, e_frc, e_fzo, e_fzd, e_fzs, e_fzb, e_fzu, e_for, e_fos, e_fob, e_foe, e_lii, e_lio, e_tii, e_tio, e_sti, e_sto, e_r1, e_r1o, e_r2, e_r2o, e_comp, e_coo, e_cc, e_yes, e_na0, e_nas, e_nab, e_nao, e_nad, e_nau, e_naa, e_nae, e_ne0, e_nes, e_neb, e_neo, e_ned, e_neu, e_nea, e_nee, e_app, e_apo, e_sei, e_sio, e_si2, e_dput, e_dpi, e_dpb, e_dp2, e_try, e_tyn, e_tyr, e_tye, e_exs, e_exn, e_uns, e_unn, e_ber, e_ben, e_tka, e_tko, e_ise, e_ero, e_unp, e_unt, e_imi, e_ims, e_imb, e_imn, e_imt, e_im0, e_imc, List.map_cons, List.map_nil, List.cons_append, List.nil_append, List.replicate_succ, List.replicate_zero, List.length_cons, List.length_nil, List.getElem?_cons_zero, List.getElem?_cons_succ, List.set_cons_zero, List.set_cons_succ, Option.map_some, Option.map_none, Option.bind_some, Option.isSome_some, Option.isSome_none, if_true, if_false, reduceIte, Bool.and_true, Bool.true_and, Bool.and_false, Bool.false_and, Bool.or_true, Bool.true_or, Bool.or_false, Bool.false_or, Bool.not_true, Bool.not_false, Nat.reduceAdd, Nat.reduceEqDiff, Bool.false_eq_true, decide_true, decide_false, reduceCtorEq, and_self, true_and, and_true, true_or, or_true, false_or, or_false, or_self, Nat.reducePow, Nat.reduceLeDiff, Nat.reduceSub, Int.reduceLT, Int.reduceLE, Int.reduceAdd, Int.reduceSub, Int.reduceMul, Int.reduceNeg, Int.reduceEq, List.length_map, List.length_append, e_it0, e_it1, e_it2, e_it3, e_it4, e_itt0, e_itt1, e_itt2, e_itt3, e_itt4, eq_self, Int.reduceToNat, false_and, and_false, Int.reducePow, e_pla, e_ple])
theorem cell_ok (ns : List Int) (k : Int) (hk : 0 ≤ k) : g_law_cell_at [.scr ns, .int k] = .ok (.int (cell ns k)) := by
  unfold g_law_cell_at d_law_cell_at
  walk_at "ev0"
  by_cases h : k < ns.length
  · have e : ns[k.toNat]? = some (cell ns k) := by
      unfold cell
      rw [List.getElem?_eq_getElem (by omega), List.getD_eq_getElem?_getD, List.getElem?_eq_getElem (by omega)]; rfl
    rw [decide_eq_true h]
    walk_at "ev0"
    rw [show itemD (.scr ns) k = some (.int (cell ns k)) by simp only [itemD, atI_nn hk h, e, Option.map_some]]
    walk_at "ev0"
  · rw [decide_eq_false h]
    walk_at "ev0"
    unfold cell
    rw [List.getD_eq_getElem?_getD, List.getElem?_eq_none (by omega)]
    rfl
theorem isPl_str (s : Str) : isPl (.str s) = (decide (1 ≤ s.length) && decide (s.length ≤ 12) && s.cps.toList.all fun c => decide (97 ≤ c) && decide (c < 123)) := rfl
-- is a thing a place: the program's answer
local macro_rules | `(tactic| walk_at "ev1") => `(tactic| simp only [e_var, e_sml, e_smr, e_sh, e_bo, e_ow, e_dp, e_an, e_con, e_opt, e_op, e_op2, e_op2e, e_op2f, e_un, e_op1, e_op1e, e_add, e_adds, e_addl, e_sub, e_mul, e_muls, e_mull, e_mulI, e_div, e_mod, e_lt, e_le, e_gt, e_ge, e_neg, e_not, e_isn, e_notn, e_nn, e_ni, e_ns, e_nb, e_nl, e_nt, e_eqs, e_eqi, e_eqb, e_eqn, e_eqni, e_eqin, e_eqns, e_eqsn, e_eqsi, e_eqis, e_eq, e_ne, e_in, e_nin, e_din, e_dnin, e_dget, e_dget1, e_and, e_andt, e_andf, e_ande, e_or, e_orf, e_ort, e_tst, e_ts, e_tse, e_band, e_bat, e_baf, e_bae, e_bor, e_bof, e_bot, e_boe, e_bnot, e_bn, e_bne, e_ife, e_iet, e_ief, e_ch, e_ch2, e_cht, e_chf, e_nil, e_cons, e_cn, e_cne, e_cnf, e_arg1, e_arg2, e_lst, e_lse, e_ls0, e_ls1, e_ls2, e_ls3, e_ls4, e_ls5, e_ls6, e_ls7, e_ls8, e_tup, e_tue, e_tu0, e_tu1, e_tu2, e_tu3, e_tu4, e_dnew, e_cb, e_cbo, e_cbe, e_lens, e_lenl, e_lent, e_lenc, e_list, e_listt, e_inti, e_intb, e_ints, e_max, e_min, e_kst, e_ktp, e_kdp, e_ki, e_ks, e_kb, e_kn, e_ktb, e_kta, e_xst, e_xtp, e_xdp, e_xbw, e_xan, e_xcb, e_xs, e_si, e_ss, e_sb, e_sn, e_slt, e_sls, e_slb, e_sdp, e_sst, e_its, e_itbl, e_ix, e_ixo, e_ixe, e_ixf, e_nop, e_som, e_smo, e_sl, e_slo, e_gsl, e_gss, e_rev, e_dg1, e_d1o, e_d1k, e_m1, e_m1o, e_call, e_cl, e_cle, e_re, e_ree, e_rt, e_rnx, e_rer, e_def0, e_def1, e_def2, e_def3, e_def4, e_def5, e_def6, e_seq, e_sqn, e_sqr, e_sqe, e_sqb, e_sqc, e_set, e_seo, e_see, e_se2, e_if, e_ift, e_iff, e_ifr, e_ret, e_rto, e_rte, e_exp, e_epo, e_epe, e_rai, e_frz, e_fro, e_frc, e_fzo, e_fzd, e_fzs, e_fzb, e_fzu, e_for, e_fos, e_fob, e_foe, e_lii, e_lio, e_tii, e_tio, e_sti, e_sto, e_r1, e_r1o, e_r2, e_r2o, e_comp, e_coo, e_cc, e_yes, e_na0, e_nas, e_nab, e_nao, e_nad, e_nau, e_naa, e_nae, e_ne0, e_nes, e_neb, e_neo, e_ned, e_neu, e_nea, e_nee, e_app, e_apo, e_sei, e_sio, e_si2, e_dput, e_dpi, e_dpb, e_dp2, e_try, e_tyn, e_tyr, e_tye, e_exs, e_exn, e_uns, e_unn, e_ber, e_ben, e_tka, e_tko, e_ise, e_ero, e_unp, e_unt, e_imi, e_ims, e_imb, e_imn, e_imt, e_im0, e_imc, List.map_cons, List.map_nil, List.cons_append, List.nil_append, List.replicate_succ, List.replicate_zero, List.length_cons, List.length_nil, List.getElem?_cons_zero, List.getElem?_cons_succ, List.set_cons_zero, List.set_cons_succ, Option.map_some, Option.map_none, Option.bind_some, Option.isSome_some, Option.isSome_none, if_true, if_false, reduceIte, Bool.and_true, Bool.true_and, Bool.and_false, Bool.false_and, Bool.or_true, Bool.true_or, Bool.or_false, Bool.false_or, Bool.not_true, Bool.not_false, Nat.reduceAdd, Nat.reduceEqDiff, Bool.false_eq_true, decide_true, decide_false, reduceCtorEq, and_self, true_and, and_true, true_or, or_true, false_or, or_false, or_self, Nat.reducePow, Nat.reduceLeDiff, Nat.reduceSub, Int.reduceLT, Int.reduceLE, Int.reduceAdd, Int.reduceSub, Int.reduceMul, Int.reduceNeg, Int.reduceEq, List.length_map, List.length_append, e_it0, e_it1, e_it2, e_it3, e_it4, e_itt0, e_itt1, e_itt2, e_itt3, e_itt4, eq_self, Int.reduceToNat, false_and, and_false, Int.reducePow, e_pla, e_ple, in_letters])
theorem is_place_ok (d : D) (h : okD d) : g_is_place [d] = .ok (.bl (isPl d)) := by
  unfold g_is_place d_is_place
  cases d with
  | int i => walk_at "ev0"; rw [isi_strI]; walk_at "ev0"; rfl
  | non => walk_at "ev0"; rw [isi_strN]; walk_at "ev0"; rfl
  | str s =>
    have hl : s.length ≤ sizeLine := Nat.le_trans h.1 (by decide)
    have key := forL_inv (i := 1) (k := .st) (body := b1_is_place)
      (fun n δ => (∃ x, δ = [.bo (.str s), x]) ∧ (s.cps.toList.take n).all fun c => decide (97 ≤ c) && decide (c < 123)) (fun o => o = .rt (.bl false) ∧ (s.cps.toList.all fun c => decide (97 ≤ c) && decide (c < 123)) = false)
      (sgns s) 0 [.bo (.str s), .un] ⟨⟨_, rfl⟩, by simp⟩ (by
        rintro m d δ hd ⟨⟨x, rfl⟩, hm⟩
        rw [Nat.zero_add] at hm ⊢
        simp only [sgns, List.getElem?_map, Option.map_eq_some_iff] at hd
        obtain ⟨c, hc, rfl⟩ := hd
        refine ⟨_, rfl, ?_⟩
        unfold b1_is_place
        walk_at "ev1"
        cases hb : (decide (97 ≤ c) && decide (c < 123)) with
        | true =>
          walk_at "ev0"
          refine ⟨⟨_, rfl⟩, ?_⟩
          have := take_more' hc
          rw [this, List.all_append, hm]
          simp [hb]
        | false =>
          walk_at "ev0"
          rw [List.all_eq_false]
          exact ⟨c, List.mem_of_getElem? hc, by simp [hb]⟩)
    walk_at "ev0"
    rw [isi_str]
    walk_at "ev0"
    rw [if_pos hl]
    walk_at "ev0"
    by_cases h1 : (1 : Int) ≤ s.length
    · rw [decide_eq_true h1]
      walk_at "ev0"
      by_cases h2 : (s.length : Int) ≤ 12
      · rw [decide_eq_true h2]
        walk_at "ev0"
        have e : isPl (.str s) = s.cps.toList.all fun c => decide (97 ≤ c) && decide (c < 123) := by
          rw [isPl_str, decide_eq_true (by omega), decide_eq_true (by omega)]
          rfl
        rw [e]
        rcases key with ⟨δ', k1, ⟨x, rfl⟩, k2⟩ | ⟨k1, k2⟩
        · rw [k1]
          walk_at "ev0"
          rw [Nat.zero_add, show (sgns s).length = s.cps.toList.length by simp [sgns], List.take_length] at k2
          rw [k2]
        · rw [k1, k2]
          walk_at "ev0"
      · rw [decide_eq_false h2]
        walk_at "ev0"
        rw [isPl_str, decide_eq_false (show ¬ s.length ≤ 12 by omega)]
        simp
    · rw [decide_eq_false h1]
      walk_at "ev0"
      rw [isPl_str, decide_eq_false (show ¬ 1 ≤ s.length by omega)]
      simp
  | _ => exact h.elim

-- .. the law's
theorem law_is_place_ok (d : D) (h : okD d) : g_law_is_place [d] = .ok (.bl (isPl d)) := by
  unfold g_law_is_place d_law_is_place
  cases d with
  | int i => walk_at "ev0"; rw [isi_strI]; walk_at "ev0"; rfl
  | non => walk_at "ev0"; rw [isi_strN]; walk_at "ev0"; rfl
  | str s =>
    have hl : s.length ≤ sizeLine := Nat.le_trans h.1 (by decide)
    have key := compL_if (i := 1) (p := t1_law_is_place) (f := e1_law_is_place) (δ := [.bo (.str s), .un]) (fun d => match d with
        | .str z => !(z.cps.toList.all fun c => decide (97 ≤ c) && decide (c < 123))
        | _ => false) (fun d => d) (sgns s) [] (by
      intro d hd
      simp only [sgns, List.mem_map] at hd
      obtain ⟨c, hc, rfl⟩ := hd
      unfold t1_law_is_place
      walk_at "ev1"
      simp) (by
      intro d hd ht
      simp only [sgns, List.mem_map] at hd
      obtain ⟨c, hc, rfl⟩ := hd
      refine ⟨.any, ?_, rfl⟩
      unfold e1_law_is_place
      walk_at "ev0") (by simp [sgns]; exact hl)
    walk_at "ev0"
    rw [isi_str]
    walk_at "ev0"
    rw [if_pos hl]
    walk_at "ev0"
    by_cases h1 : (1 : Int) ≤ s.length
    · rw [decide_eq_true h1]
      walk_at "ev0"
      by_cases h2 : (s.length : Int) ≤ 12
      · rw [decide_eq_true h2]
        walk_at "ev0"
        have e : isPl (.str s) = s.cps.toList.all fun c => decide (97 ≤ c) && decide (c < 123) := by
          rw [isPl_str, decide_eq_true (by omega), decide_eq_true (by omega)]
          rfl
        rw [e, key]
        walk_at "ev0"
        rw [okD_nil]
        · walk_at "ev0"
          congr 2
          rw [List.map_id']
          rw [Bool.eq_iff_iff, List.isEmpty_iff, List.filter_eq_nil_iff, List.all_eq_true]
          constructor
          · intro q c hc
            have := q (.str ⟨#[c]⟩) (by simp only [sgns, List.mem_map]; exact ⟨c, hc, rfl⟩)
            simpa using this
          · intro q d hd
            simp only [sgns, List.mem_map] at hd
            obtain ⟨c, hc, rfl⟩ := hd
            have := q c hc
            simpa using this
        · intro d hd
          rw [List.map_id'] at hd
          have := (List.mem_filter.mp hd).1
          simp only [sgns, List.mem_map] at this
          obtain ⟨c, hc, rfl⟩ := this
          exact okD_sgn (h.2 c hc)
      · rw [decide_eq_false h2]
        walk_at "ev0"
        rw [isPl_str, decide_eq_false (show ¬ s.length ≤ 12 by omega)]
        simp
    · rw [decide_eq_false h1]
      walk_at "ev0"
      rw [isPl_str, decide_eq_false (show ¬ 1 ≤ s.length by omega)]
      simp
  | _ => exact h.elim

def nmOf (c : Int) : List Nat := (List.range (1 + c % 12).toNat).map fun i => 97 + ((c / 12 + (0 + (i : Nat) * 1) * (c / 312 % 25)) % 26).toNat
theorem nmOf_ok (c : Int) : Nm ⟨(nmOf c).toArray⟩ := Nm.of (by unfold nmOf; simp; omega) (by unfold nmOf; simp; omega) (fun x hx => by
  unfold nmOf at hx
  simp only [List.mem_map] at hx
  obtain ⟨i, _, rfl⟩ := hx
  omega)
def sgOf (c : Int) : D → D := fun d => match d with
        | .int j => .str ⟨#[97 + ((c / 12 + j * (c / 312 % 25)) % 26).toNat]⟩
        | d => d
theorem place_key (c : Int) : compL 2 yesR e1_law_place [.bo (.int c), .sh (.str "abcdefghijklmnopqrstuvwxyz"), .un] (rng 0 1 (1 + c % 12).toNat) [] = some ((rng 0 1 (1 + c % 12).toNat).map (sgOf c)) := 
  compL_all (sgOf c) _ [] (by
      intro d hd
      obtain ⟨i, hi, rfl⟩ := mem_rng hd
      refine ⟨.st, ?_, rfl⟩
      unfold e1_law_place
      walk_at "ev0"
      rw [small_of (i := c / 312 % 25) (by omega)]
      walk_at "ev0"
      rw [item_letters' (by omega) (by omega)]
      walk_at "ev0"
      rfl) (size_le (by rw [rng_len]; simp; omega))
theorem place_map (c : Int) : (rng 0 1 (1 + c % 12).toNat).map (sgOf c) = (nmOf c).map fun c => D.str ⟨#[c]⟩ := by
      simp only [rng, List.map_map, nmOf]
      rfl
theorem nmOf_len (c : Int) : (nmOf c).length ≤ 12 := by unfold nmOf; simp; omega
def plc (c : Int) : Str := ⟨(nmOf c).toArray⟩
theorem plc_nm (c : Int) : Nm (plc c) := nmOf_ok c
theorem place_ok (c : Int) : g_law_place [.int c] = .ok (.str (plc c)) := by
  unfold g_law_place d_law_place
  walk_at "ev0"
  rw [e_smr (by omega) (by omega)]
  walk_at "ev0"
  rw [place_key, place_map]
  walk_at "ev0"
  rw [gJoin_ones _ (Nat.le_trans (nmOf_len c) (by decide))]
  walk_at "ev0"
  rfl
theorem imms_str : ∀ L : List Str, imms (L.map .str) = true
  | [] => rfl
  | s :: L => by rw [List.map_cons, imms, imms_str L]; rfl
theorem nm_a : Nm (Str.ofString "a") := ⟨by decide +kernel, by decide +kernel, by decide +kernel⟩
theorem nm_b : Nm (Str.ofString "b") := ⟨by decide +kernel, by decide +kernel, by decide +kernel⟩
theorem row_ok (ns : List Int) : ∃ L : List Str, (∀ s ∈ L, Nm s) ∧ L.length ≤ 42 ∧ g_law_row [.scr ns] = .ok (.lst (L.map .str)) := by
  have rest : ∀ m : Int, 0 ≤ m → m ≤ 42 → ∃ L : List Str, (∀ s ∈ L, Nm s) ∧ L.length ≤ 42 ∧ seqF (setO 2 (lstR nilR)) (seqF (forO (rng1I (varR 1)) 3 b1_law_row) (frzF [2] (retO (varR 2)))) [.bo (.scr ns), .sh (.int m), .un, .un, .un] = .rt (.lst (L.map .str)) := by
    intro m h0 h1
    have key := forL_inv (i := 3) (k := .st) (body := b1_law_row)
      (fun n δ => ∃ L x y, δ = [.bo (.scr ns), .sh (.int m), .ow (.lst (L.map .str)), x, y] ∧ L.length = n ∧ ∀ s ∈ L, Nm s) (fun o => False)
      (rng 0 1 m.toNat) 0 [.bo (.scr ns), .sh (.int m), .ow (.lst []), .un, .un] ⟨[], _, _, rfl, rfl, by simp⟩ (by
        rintro k d δ hd ⟨L, x, y, rfl, hL, hN⟩
        obtain ⟨hk, rfl⟩ := get_rng1 hd
        refine ⟨_, e_its, ?_⟩
        have hc := cell_ok ns (4 + (k : Int) % 58) (by omega)
        have hlt : L.length < sizeLine := lt_sz (by omega)
        have fin : ∀ (x y : Slot) (s : Str), Nm s → ∃ (L' : List Str) (x' y' : Slot), [Slot.bo (.scr ns), .sh (.int m), .ow (.lst (L.map .str ++ [.str s])), x, y] = [Slot.bo (.scr ns), .sh (.int m), .ow (.lst (L'.map .str)), x', y'] ∧ L'.length = 0 + k + 1 ∧ ∀ s ∈ L', Nm s := fun x y s hs =>
          ⟨L ++ [s], x, y, by simp, by simp [hL], fun t ht => by
            rcases List.mem_append.mp ht with h | h
            · exact hN t h
            · simp at h; rw [h]; exact hs⟩
        unfold b1_law_row
        simp only [e_var, e_sml, e_smr, e_sh, e_bo, e_ow, e_dp, e_an, e_con, e_opt, e_op, e_op2, e_op2e, e_op2f, e_un, e_op1, e_op1e, e_add, e_adds, e_addl, e_sub, e_mul, e_muls, e_mull, e_mulI, e_div, e_mod, e_lt, e_le, e_gt, e_ge, e_neg, e_not, e_isn, e_notn, e_nn, e_ni, e_ns, e_nb, e_nl, e_nt, e_eqs, e_eqi, e_eqb, e_eqn, e_eqni, e_eqin, e_eqns, e_eqsn, e_eqsi, e_eqis, e_eq, e_ne, e_in, e_nin, e_din, e_dnin, e_dget, e_dget1, e_and, e_andt, e_andf, e_ande, e_or, e_orf, e_ort, e_tst, e_ts, e_tse, e_band, e_bat, e_baf, e_bae, e_bor, e_bof, e_bot, e_boe, e_bnot, e_bn, e_bne, e_ife, e_iet, e_ief, e_ch, e_ch2, e_cht, e_chf, e_nil, e_cons, e_cn, e_cne, e_cnf, e_arg1, e_arg2, e_lst, e_lse, e_ls0, e_ls1, e_ls2, e_ls3, e_ls4, e_ls5, e_ls6, e_ls7, e_ls8, e_tup, e_tue, e_tu0, e_tu1, e_tu2, e_tu3, e_tu4, e_dnew, e_cb, e_cbo, e_cbe, e_lens, e_lenl, e_lent, e_lenc, e_list, e_listt, e_inti, e_intb, e_ints, e_max, e_min, e_kst, e_ktp, e_kdp, e_ki, e_ks, e_kb, e_kn, e_ktb, e_kta, e_xst, e_xtp, e_xdp, e_xbw, e_xan, e_xcb, e_xs, e_si, e_ss, e_sb, e_sn, e_slt, e_sls, e_slb, e_sdp, e_sst, e_its, e_itbl, e_ix, e_ixo, e_ixe, e_ixf, e_nop, e_som, e_smo, e_sl, e_slo, e_gsl, e_gss, e_rev, e_dg1, e_d1o, e_d1k, e_m1, e_m1o, e_call, e_cl, e_cle, e_re, e_ree, e_rt, e_rnx, e_rer, e_def0, e_def1, e_def2, e_def3, e_def4, e_def5, e_def6, e_seq, e_sqn, e_sqr, e_sqe, e_sqb, e_sqc, e_set, e_seo, e_see, e_se2, e_if, e_ift, e_iff, e_ifr, e_ret, e_rto, e_rte, e_exp, e_epo, e_epe, e_rai, e_frz, e_fro, e_frc, e_fzo, e_fzd, e_fzs, e_fzb, e_fzu, e_for, e_fos, e_fob, e_foe, e_lii, e_lio, e_tii, e_tio, e_sti, e_sto, e_r1, e_r1o, e_r2, e_r2o, e_comp, e_coo, e_cc, e_yes, e_na0, e_nas, e_nab, e_nao, e_nad, e_nau, e_naa, e_nae, e_ne0, e_nes, e_neb, e_neo, e_ned, e_neu, e_nea, e_nee, e_app, e_apo, e_sei, e_sio, e_si2, e_dput, e_dpi, e_dpb, e_dp2, e_try, e_tyn, e_tyr, e_tye, e_exs, e_exn, e_uns, e_unn, e_ber, e_ben, e_tka, e_tko, e_ise, e_ero, e_unp, e_unt, e_imi, e_ims, e_imb, e_imn, e_imt, e_im0, e_imc, List.map_cons, List.map_nil, List.cons_append, List.nil_append, List.replicate_succ, List.replicate_zero, List.length_cons, List.length_nil, List.getElem?_cons_zero, List.getElem?_cons_succ, List.set_cons_zero, List.set_cons_succ, Option.map_some, Option.map_none, Option.bind_some, Option.isSome_some, Option.isSome_none, if_true, if_false, reduceIte, Bool.and_true, Bool.true_and, Bool.and_false, Bool.false_and, Bool.or_true, Bool.true_or, Bool.or_false, Bool.false_or, Bool.not_true, Bool.not_false, Nat.reduceAdd, Nat.reduceEqDiff, Bool.false_eq_true, decide_true, decide_false, reduceCtorEq, and_self, true_and, and_true, true_or, or_true, false_or, or_false, or_self, Nat.reducePow, Nat.reduceLeDiff, Nat.reduceSub, Int.reduceLT, Int.reduceLE, Int.reduceAdd, Int.reduceSub, Int.reduceMul, Int.reduceNeg, Int.reduceEq, List.length_map, List.length_append, e_it0, e_it1, e_it2, e_it3, e_it4, e_itt0, e_itt1, e_itt2, e_itt3, e_itt4, eq_self, Int.reduceToNat, false_and, and_false, Int.reducePow, e_pla, e_ple, hc, place_ok]
        by_cases hk0 : (0 : Int) < k
        · have hi := item_str (L := L) (i := (k : Int) - 1) (by omega) (by omega)
          simp only [e_var, e_sml, e_smr, e_sh, e_bo, e_ow, e_dp, e_an, e_con, e_opt, e_op, e_op2, e_op2e, e_op2f, e_un, e_op1, e_op1e, e_add, e_adds, e_addl, e_sub, e_mul, e_muls, e_mull, e_mulI, e_div, e_mod, e_lt, e_le, e_gt, e_ge, e_neg, e_not, e_isn, e_notn, e_nn, e_ni, e_ns, e_nb, e_nl, e_nt, e_eqs, e_eqi, e_eqb, e_eqn, e_eqni, e_eqin, e_eqns, e_eqsn, e_eqsi, e_eqis, e_eq, e_ne, e_in, e_nin, e_din, e_dnin, e_dget, e_dget1, e_and, e_andt, e_andf, e_ande, e_or, e_orf, e_ort, e_tst, e_ts, e_tse, e_band, e_bat, e_baf, e_bae, e_bor, e_bof, e_bot, e_boe, e_bnot, e_bn, e_bne, e_ife, e_iet, e_ief, e_ch, e_ch2, e_cht, e_chf, e_nil, e_cons, e_cn, e_cne, e_cnf, e_arg1, e_arg2, e_lst, e_lse, e_ls0, e_ls1, e_ls2, e_ls3, e_ls4, e_ls5, e_ls6, e_ls7, e_ls8, e_tup, e_tue, e_tu0, e_tu1, e_tu2, e_tu3, e_tu4, e_dnew, e_cb, e_cbo, e_cbe, e_lens, e_lenl, e_lent, e_lenc, e_list, e_listt, e_inti, e_intb, e_ints, e_max, e_min, e_kst, e_ktp, e_kdp, e_ki, e_ks, e_kb, e_kn, e_ktb, e_kta, e_xst, e_xtp, e_xdp, e_xbw, e_xan, e_xcb, e_xs, e_si, e_ss, e_sb, e_sn, e_slt, e_sls, e_slb, e_sdp, e_sst, e_its, e_itbl, e_ix, e_ixo, e_ixe, e_ixf, e_nop, e_som, e_smo, e_sl, e_slo, e_gsl, e_gss, e_rev, e_dg1, e_d1o, e_d1k, e_m1, e_m1o, e_call, e_cl, e_cle, e_re, e_ree, e_rt, e_rnx, e_rer, e_def0, e_def1, e_def2, e_def3, e_def4, e_def5, e_def6, e_seq, e_sqn, e_sqr, e_sqe, e_sqb, e_sqc, e_set, e_seo, e_see, e_se2, e_if, e_ift, e_iff, e_ifr, e_ret, e_rto, e_rte, e_exp, e_epo, e_epe, e_rai, e_frz, e_fro, e_frc, e_fzo, e_fzd, e_fzs, e_fzb, e_fzu, e_for, e_fos, e_fob, e_foe, e_lii, e_lio, e_tii, e_tio, e_sti, e_sto, e_r1, e_r1o, e_r2, e_r2o, e_comp, e_coo, e_cc, e_yes, e_na0, e_nas, e_nab, e_nao, e_nad, e_nau, e_naa, e_nae, e_ne0, e_nes, e_neb, e_neo, e_ned, e_neu, e_nea, e_nee, e_app, e_apo, e_sei, e_sio, e_si2, e_dput, e_dpi, e_dpb, e_dp2, e_try, e_tyn, e_tyr, e_tye, e_exs, e_exn, e_uns, e_unn, e_ber, e_ben, e_tka, e_tko, e_ise, e_ero, e_unp, e_unt, e_imi, e_ims, e_imb, e_imn, e_imt, e_im0, e_imc, List.map_cons, List.map_nil, List.cons_append, List.nil_append, List.replicate_succ, List.replicate_zero, List.length_cons, List.length_nil, List.getElem?_cons_zero, List.getElem?_cons_succ, List.set_cons_zero, List.set_cons_succ, Option.map_some, Option.map_none, Option.bind_some, Option.isSome_some, Option.isSome_none, if_true, if_false, reduceIte, Bool.and_true, Bool.true_and, Bool.and_false, Bool.false_and, Bool.or_true, Bool.true_or, Bool.or_false, Bool.false_or, Bool.not_true, Bool.not_false, Nat.reduceAdd, Nat.reduceEqDiff, Bool.false_eq_true, decide_true, decide_false, reduceCtorEq, and_self, true_and, and_true, true_or, or_true, false_or, or_false, or_self, Nat.reducePow, Nat.reduceLeDiff, Nat.reduceSub, Int.reduceLT, Int.reduceLE, Int.reduceAdd, Int.reduceSub, Int.reduceMul, Int.reduceNeg, Int.reduceEq, List.length_map, List.length_append, e_it0, e_it1, e_it2, e_it3, e_it4, e_itt0, e_itt1, e_itt2, e_itt3, e_itt4, eq_self, Int.reduceToNat, false_and, and_false, Int.reducePow, e_pla, e_ple, hk0, hi]
          by_cases he : plc (cell ns (4 + (k : Int) % 58) + 97 * ((k : Int) / 58)) = L.getD ((k : Int) - 1).toNat ""
          · by_cases ha : plc (cell ns (4 + (k : Int) % 58) + 97 * ((k : Int) / 58)) = Str.ofString "a"
            · have he' := he
              rw [ha] at he'
              simp only [e_var, e_sml, e_smr, e_sh, e_bo, e_ow, e_dp, e_an, e_con, e_opt, e_op, e_op2, e_op2e, e_op2f, e_un, e_op1, e_op1e, e_add, e_adds, e_addl, e_sub, e_mul, e_muls, e_mull, e_mulI, e_div, e_mod, e_lt, e_le, e_gt, e_ge, e_neg, e_not, e_isn, e_notn, e_nn, e_ni, e_ns, e_nb, e_nl, e_nt, e_eqs, e_eqi, e_eqb, e_eqn, e_eqni, e_eqin, e_eqns, e_eqsn, e_eqsi, e_eqis, e_eq, e_ne, e_in, e_nin, e_din, e_dnin, e_dget, e_dget1, e_and, e_andt, e_andf, e_ande, e_or, e_orf, e_ort, e_tst, e_ts, e_tse, e_band, e_bat, e_baf, e_bae, e_bor, e_bof, e_bot, e_boe, e_bnot, e_bn, e_bne, e_ife, e_iet, e_ief, e_ch, e_ch2, e_cht, e_chf, e_nil, e_cons, e_cn, e_cne, e_cnf, e_arg1, e_arg2, e_lst, e_lse, e_ls0, e_ls1, e_ls2, e_ls3, e_ls4, e_ls5, e_ls6, e_ls7, e_ls8, e_tup, e_tue, e_tu0, e_tu1, e_tu2, e_tu3, e_tu4, e_dnew, e_cb, e_cbo, e_cbe, e_lens, e_lenl, e_lent, e_lenc, e_list, e_listt, e_inti, e_intb, e_ints, e_max, e_min, e_kst, e_ktp, e_kdp, e_ki, e_ks, e_kb, e_kn, e_ktb, e_kta, e_xst, e_xtp, e_xdp, e_xbw, e_xan, e_xcb, e_xs, e_si, e_ss, e_sb, e_sn, e_slt, e_sls, e_slb, e_sdp, e_sst, e_its, e_itbl, e_ix, e_ixo, e_ixe, e_ixf, e_nop, e_som, e_smo, e_sl, e_slo, e_gsl, e_gss, e_rev, e_dg1, e_d1o, e_d1k, e_m1, e_m1o, e_call, e_cl, e_cle, e_re, e_ree, e_rt, e_rnx, e_rer, e_def0, e_def1, e_def2, e_def3, e_def4, e_def5, e_def6, e_seq, e_sqn, e_sqr, e_sqe, e_sqb, e_sqc, e_set, e_seo, e_see, e_se2, e_if, e_ift, e_iff, e_ifr, e_ret, e_rto, e_rte, e_exp, e_epo, e_epe, e_rai, e_frz, e_fro, e_frc, e_fzo, e_fzd, e_fzs, e_fzb, e_fzu, e_for, e_fos, e_fob, e_foe, e_lii, e_lio, e_tii, e_tio, e_sti, e_sto, e_r1, e_r1o, e_r2, e_r2o, e_comp, e_coo, e_cc, e_yes, e_na0, e_nas, e_nab, e_nao, e_nad, e_nau, e_naa, e_nae, e_ne0, e_nes, e_neb, e_neo, e_ned, e_neu, e_nea, e_nee, e_app, e_apo, e_sei, e_sio, e_si2, e_dput, e_dpi, e_dpb, e_dp2, e_try, e_tyn, e_tyr, e_tye, e_exs, e_exn, e_uns, e_unn, e_ber, e_ben, e_tka, e_tko, e_ise, e_ero, e_unp, e_unt, e_imi, e_ims, e_imb, e_imn, e_imt, e_im0, e_imc, List.map_cons, List.map_nil, List.cons_append, List.nil_append, List.replicate_succ, List.replicate_zero, List.length_cons, List.length_nil, List.getElem?_cons_zero, List.getElem?_cons_succ, List.set_cons_zero, List.set_cons_succ, Option.map_some, Option.map_none, Option.bind_some, Option.isSome_some, Option.isSome_none, if_true, if_false, reduceIte, Bool.and_true, Bool.true_and, Bool.and_false, Bool.false_and, Bool.or_true, Bool.true_or, Bool.or_false, Bool.false_or, Bool.not_true, Bool.not_false, Nat.reduceAdd, Nat.reduceEqDiff, Bool.false_eq_true, decide_true, decide_false, reduceCtorEq, and_self, true_and, and_true, true_or, or_true, false_or, or_false, or_self, Nat.reducePow, Nat.reduceLeDiff, Nat.reduceSub, Int.reduceLT, Int.reduceLE, Int.reduceAdd, Int.reduceSub, Int.reduceMul, Int.reduceNeg, Int.reduceEq, List.length_map, List.length_append, e_it0, e_it1, e_it2, e_it3, e_it4, e_itt0, e_itt1, e_itt2, e_itt3, e_itt4, eq_self, Int.reduceToNat, false_and, and_false, Int.reducePow, e_pla, e_ple, ha, he', hlt]
              exact fin _ _ _ nm_b
            · rw [he] at ha
              simp only [e_var, e_sml, e_smr, e_sh, e_bo, e_ow, e_dp, e_an, e_con, e_opt, e_op, e_op2, e_op2e, e_op2f, e_un, e_op1, e_op1e, e_add, e_adds, e_addl, e_sub, e_mul, e_muls, e_mull, e_mulI, e_div, e_mod, e_lt, e_le, e_gt, e_ge, e_neg, e_not, e_isn, e_notn, e_nn, e_ni, e_ns, e_nb, e_nl, e_nt, e_eqs, e_eqi, e_eqb, e_eqn, e_eqni, e_eqin, e_eqns, e_eqsn, e_eqsi, e_eqis, e_eq, e_ne, e_in, e_nin, e_din, e_dnin, e_dget, e_dget1, e_and, e_andt, e_andf, e_ande, e_or, e_orf, e_ort, e_tst, e_ts, e_tse, e_band, e_bat, e_baf, e_bae, e_bor, e_bof, e_bot, e_boe, e_bnot, e_bn, e_bne, e_ife, e_iet, e_ief, e_ch, e_ch2, e_cht, e_chf, e_nil, e_cons, e_cn, e_cne, e_cnf, e_arg1, e_arg2, e_lst, e_lse, e_ls0, e_ls1, e_ls2, e_ls3, e_ls4, e_ls5, e_ls6, e_ls7, e_ls8, e_tup, e_tue, e_tu0, e_tu1, e_tu2, e_tu3, e_tu4, e_dnew, e_cb, e_cbo, e_cbe, e_lens, e_lenl, e_lent, e_lenc, e_list, e_listt, e_inti, e_intb, e_ints, e_max, e_min, e_kst, e_ktp, e_kdp, e_ki, e_ks, e_kb, e_kn, e_ktb, e_kta, e_xst, e_xtp, e_xdp, e_xbw, e_xan, e_xcb, e_xs, e_si, e_ss, e_sb, e_sn, e_slt, e_sls, e_slb, e_sdp, e_sst, e_its, e_itbl, e_ix, e_ixo, e_ixe, e_ixf, e_nop, e_som, e_smo, e_sl, e_slo, e_gsl, e_gss, e_rev, e_dg1, e_d1o, e_d1k, e_m1, e_m1o, e_call, e_cl, e_cle, e_re, e_ree, e_rt, e_rnx, e_rer, e_def0, e_def1, e_def2, e_def3, e_def4, e_def5, e_def6, e_seq, e_sqn, e_sqr, e_sqe, e_sqb, e_sqc, e_set, e_seo, e_see, e_se2, e_if, e_ift, e_iff, e_ifr, e_ret, e_rto, e_rte, e_exp, e_epo, e_epe, e_rai, e_frz, e_fro, e_frc, e_fzo, e_fzd, e_fzs, e_fzb, e_fzu, e_for, e_fos, e_fob, e_foe, e_lii, e_lio, e_tii, e_tio, e_sti, e_sto, e_r1, e_r1o, e_r2, e_r2o, e_comp, e_coo, e_cc, e_yes, e_na0, e_nas, e_nab, e_nao, e_nad, e_nau, e_naa, e_nae, e_ne0, e_nes, e_neb, e_neo, e_ned, e_neu, e_nea, e_nee, e_app, e_apo, e_sei, e_sio, e_si2, e_dput, e_dpi, e_dpb, e_dp2, e_try, e_tyn, e_tyr, e_tye, e_exs, e_exn, e_uns, e_unn, e_ber, e_ben, e_tka, e_tko, e_ise, e_ero, e_unp, e_unt, e_imi, e_ims, e_imb, e_imn, e_imt, e_im0, e_imc, List.map_cons, List.map_nil, List.cons_append, List.nil_append, List.replicate_succ, List.replicate_zero, List.length_cons, List.length_nil, List.getElem?_cons_zero, List.getElem?_cons_succ, List.set_cons_zero, List.set_cons_succ, Option.map_some, Option.map_none, Option.bind_some, Option.isSome_some, Option.isSome_none, if_true, if_false, reduceIte, Bool.and_true, Bool.true_and, Bool.and_false, Bool.false_and, Bool.or_true, Bool.true_or, Bool.or_false, Bool.false_or, Bool.not_true, Bool.not_false, Nat.reduceAdd, Nat.reduceEqDiff, Bool.false_eq_true, decide_true, decide_false, reduceCtorEq, and_self, true_and, and_true, true_or, or_true, false_or, or_false, or_self, Nat.reducePow, Nat.reduceLeDiff, Nat.reduceSub, Int.reduceLT, Int.reduceLE, Int.reduceAdd, Int.reduceSub, Int.reduceMul, Int.reduceNeg, Int.reduceEq, List.length_map, List.length_append, e_it0, e_it1, e_it2, e_it3, e_it4, e_itt0, e_itt1, e_itt2, e_itt3, e_itt4, eq_self, Int.reduceToNat, false_and, and_false, Int.reducePow, e_pla, e_ple, he, ha, hlt]
              exact fin _ _ _ nm_a
          · simp only [e_var, e_sml, e_smr, e_sh, e_bo, e_ow, e_dp, e_an, e_con, e_opt, e_op, e_op2, e_op2e, e_op2f, e_un, e_op1, e_op1e, e_add, e_adds, e_addl, e_sub, e_mul, e_muls, e_mull, e_mulI, e_div, e_mod, e_lt, e_le, e_gt, e_ge, e_neg, e_not, e_isn, e_notn, e_nn, e_ni, e_ns, e_nb, e_nl, e_nt, e_eqs, e_eqi, e_eqb, e_eqn, e_eqni, e_eqin, e_eqns, e_eqsn, e_eqsi, e_eqis, e_eq, e_ne, e_in, e_nin, e_din, e_dnin, e_dget, e_dget1, e_and, e_andt, e_andf, e_ande, e_or, e_orf, e_ort, e_tst, e_ts, e_tse, e_band, e_bat, e_baf, e_bae, e_bor, e_bof, e_bot, e_boe, e_bnot, e_bn, e_bne, e_ife, e_iet, e_ief, e_ch, e_ch2, e_cht, e_chf, e_nil, e_cons, e_cn, e_cne, e_cnf, e_arg1, e_arg2, e_lst, e_lse, e_ls0, e_ls1, e_ls2, e_ls3, e_ls4, e_ls5, e_ls6, e_ls7, e_ls8, e_tup, e_tue, e_tu0, e_tu1, e_tu2, e_tu3, e_tu4, e_dnew, e_cb, e_cbo, e_cbe, e_lens, e_lenl, e_lent, e_lenc, e_list, e_listt, e_inti, e_intb, e_ints, e_max, e_min, e_kst, e_ktp, e_kdp, e_ki, e_ks, e_kb, e_kn, e_ktb, e_kta, e_xst, e_xtp, e_xdp, e_xbw, e_xan, e_xcb, e_xs, e_si, e_ss, e_sb, e_sn, e_slt, e_sls, e_slb, e_sdp, e_sst, e_its, e_itbl, e_ix, e_ixo, e_ixe, e_ixf, e_nop, e_som, e_smo, e_sl, e_slo, e_gsl, e_gss, e_rev, e_dg1, e_d1o, e_d1k, e_m1, e_m1o, e_call, e_cl, e_cle, e_re, e_ree, e_rt, e_rnx, e_rer, e_def0, e_def1, e_def2, e_def3, e_def4, e_def5, e_def6, e_seq, e_sqn, e_sqr, e_sqe, e_sqb, e_sqc, e_set, e_seo, e_see, e_se2, e_if, e_ift, e_iff, e_ifr, e_ret, e_rto, e_rte, e_exp, e_epo, e_epe, e_rai, e_frz, e_fro, e_frc, e_fzo, e_fzd, e_fzs, e_fzb, e_fzu, e_for, e_fos, e_fob, e_foe, e_lii, e_lio, e_tii, e_tio, e_sti, e_sto, e_r1, e_r1o, e_r2, e_r2o, e_comp, e_coo, e_cc, e_yes, e_na0, e_nas, e_nab, e_nao, e_nad, e_nau, e_naa, e_nae, e_ne0, e_nes, e_neb, e_neo, e_ned, e_neu, e_nea, e_nee, e_app, e_apo, e_sei, e_sio, e_si2, e_dput, e_dpi, e_dpb, e_dp2, e_try, e_tyn, e_tyr, e_tye, e_exs, e_exn, e_uns, e_unn, e_ber, e_ben, e_tka, e_tko, e_ise, e_ero, e_unp, e_unt, e_imi, e_ims, e_imb, e_imn, e_imt, e_im0, e_imc, List.map_cons, List.map_nil, List.cons_append, List.nil_append, List.replicate_succ, List.replicate_zero, List.length_cons, List.length_nil, List.getElem?_cons_zero, List.getElem?_cons_succ, List.set_cons_zero, List.set_cons_succ, Option.map_some, Option.map_none, Option.bind_some, Option.isSome_some, Option.isSome_none, if_true, if_false, reduceIte, Bool.and_true, Bool.true_and, Bool.and_false, Bool.false_and, Bool.or_true, Bool.true_or, Bool.or_false, Bool.false_or, Bool.not_true, Bool.not_false, Nat.reduceAdd, Nat.reduceEqDiff, Bool.false_eq_true, decide_true, decide_false, reduceCtorEq, and_self, true_and, and_true, true_or, or_true, false_or, or_false, or_self, Nat.reducePow, Nat.reduceLeDiff, Nat.reduceSub, Int.reduceLT, Int.reduceLE, Int.reduceAdd, Int.reduceSub, Int.reduceMul, Int.reduceNeg, Int.reduceEq, List.length_map, List.length_append, e_it0, e_it1, e_it2, e_it3, e_it4, e_itt0, e_itt1, e_itt2, e_itt3, e_itt4, eq_self, Int.reduceToNat, false_and, and_false, Int.reducePow, e_pla, e_ple, he, hlt]
            exact fin _ _ _ (plc_nm _)
        · simp only [e_var, e_sml, e_smr, e_sh, e_bo, e_ow, e_dp, e_an, e_con, e_opt, e_op, e_op2, e_op2e, e_op2f, e_un, e_op1, e_op1e, e_add, e_adds, e_addl, e_sub, e_mul, e_muls, e_mull, e_mulI, e_div, e_mod, e_lt, e_le, e_gt, e_ge, e_neg, e_not, e_isn, e_notn, e_nn, e_ni, e_ns, e_nb, e_nl, e_nt, e_eqs, e_eqi, e_eqb, e_eqn, e_eqni, e_eqin, e_eqns, e_eqsn, e_eqsi, e_eqis, e_eq, e_ne, e_in, e_nin, e_din, e_dnin, e_dget, e_dget1, e_and, e_andt, e_andf, e_ande, e_or, e_orf, e_ort, e_tst, e_ts, e_tse, e_band, e_bat, e_baf, e_bae, e_bor, e_bof, e_bot, e_boe, e_bnot, e_bn, e_bne, e_ife, e_iet, e_ief, e_ch, e_ch2, e_cht, e_chf, e_nil, e_cons, e_cn, e_cne, e_cnf, e_arg1, e_arg2, e_lst, e_lse, e_ls0, e_ls1, e_ls2, e_ls3, e_ls4, e_ls5, e_ls6, e_ls7, e_ls8, e_tup, e_tue, e_tu0, e_tu1, e_tu2, e_tu3, e_tu4, e_dnew, e_cb, e_cbo, e_cbe, e_lens, e_lenl, e_lent, e_lenc, e_list, e_listt, e_inti, e_intb, e_ints, e_max, e_min, e_kst, e_ktp, e_kdp, e_ki, e_ks, e_kb, e_kn, e_ktb, e_kta, e_xst, e_xtp, e_xdp, e_xbw, e_xan, e_xcb, e_xs, e_si, e_ss, e_sb, e_sn, e_slt, e_sls, e_slb, e_sdp, e_sst, e_its, e_itbl, e_ix, e_ixo, e_ixe, e_ixf, e_nop, e_som, e_smo, e_sl, e_slo, e_gsl, e_gss, e_rev, e_dg1, e_d1o, e_d1k, e_m1, e_m1o, e_call, e_cl, e_cle, e_re, e_ree, e_rt, e_rnx, e_rer, e_def0, e_def1, e_def2, e_def3, e_def4, e_def5, e_def6, e_seq, e_sqn, e_sqr, e_sqe, e_sqb, e_sqc, e_set, e_seo, e_see, e_se2, e_if, e_ift, e_iff, e_ifr, e_ret, e_rto, e_rte, e_exp, e_epo, e_epe, e_rai, e_frz, e_fro, e_frc, e_fzo, e_fzd, e_fzs, e_fzb, e_fzu, e_for, e_fos, e_fob, e_foe, e_lii, e_lio, e_tii, e_tio, e_sti, e_sto, e_r1, e_r1o, e_r2, e_r2o, e_comp, e_coo, e_cc, e_yes, e_na0, e_nas, e_nab, e_nao, e_nad, e_nau, e_naa, e_nae, e_ne0, e_nes, e_neb, e_neo, e_ned, e_neu, e_nea, e_nee, e_app, e_apo, e_sei, e_sio, e_si2, e_dput, e_dpi, e_dpb, e_dp2, e_try, e_tyn, e_tyr, e_tye, e_exs, e_exn, e_uns, e_unn, e_ber, e_ben, e_tka, e_tko, e_ise, e_ero, e_unp, e_unt, e_imi, e_ims, e_imb, e_imn, e_imt, e_im0, e_imc, List.map_cons, List.map_nil, List.cons_append, List.nil_append, List.replicate_succ, List.replicate_zero, List.length_cons, List.length_nil, List.getElem?_cons_zero, List.getElem?_cons_succ, List.set_cons_zero, List.set_cons_succ, Option.map_some, Option.map_none, Option.bind_some, Option.isSome_some, Option.isSome_none, if_true, if_false, reduceIte, Bool.and_true, Bool.true_and, Bool.and_false, Bool.false_and, Bool.or_true, Bool.true_or, Bool.or_false, Bool.false_or, Bool.not_true, Bool.not_false, Nat.reduceAdd, Nat.reduceEqDiff, Bool.false_eq_true, decide_true, decide_false, reduceCtorEq, and_self, true_and, and_true, true_or, or_true, false_or, or_false, or_self, Nat.reducePow, Nat.reduceLeDiff, Nat.reduceSub, Int.reduceLT, Int.reduceLE, Int.reduceAdd, Int.reduceSub, Int.reduceMul, Int.reduceNeg, Int.reduceEq, List.length_map, List.length_append, e_it0, e_it1, e_it2, e_it3, e_it4, e_itt0, e_itt1, e_itt2, e_itt3, e_itt4, eq_self, Int.reduceToNat, false_and, and_false, Int.reducePow, e_pla, e_ple, hk0, hlt]
          exact fin _ _ _ (plc_nm _))
    rcases key with ⟨δ', k1, L, x, y, rfl, hL, hN⟩ | h
    · rw [rng_len, Nat.zero_add] at hL
      refine ⟨L, hN, by omega, ?_⟩
      have hm := e_smr (i := m) (by omega) (by omega)
      simp only [e_var, e_sml, e_smr, e_sh, e_bo, e_ow, e_dp, e_an, e_con, e_opt, e_op, e_op2, e_op2e, e_op2f, e_un, e_op1, e_op1e, e_add, e_adds, e_addl, e_sub, e_mul, e_muls, e_mull, e_mulI, e_div, e_mod, e_lt, e_le, e_gt, e_ge, e_neg, e_not, e_isn, e_notn, e_nn, e_ni, e_ns, e_nb, e_nl, e_nt, e_eqs, e_eqi, e_eqb, e_eqn, e_eqni, e_eqin, e_eqns, e_eqsn, e_eqsi, e_eqis, e_eq, e_ne, e_in, e_nin, e_din, e_dnin, e_dget, e_dget1, e_and, e_andt, e_andf, e_ande, e_or, e_orf, e_ort, e_tst, e_ts, e_tse, e_band, e_bat, e_baf, e_bae, e_bor, e_bof, e_bot, e_boe, e_bnot, e_bn, e_bne, e_ife, e_iet, e_ief, e_ch, e_ch2, e_cht, e_chf, e_nil, e_cons, e_cn, e_cne, e_cnf, e_arg1, e_arg2, e_lst, e_lse, e_ls0, e_ls1, e_ls2, e_ls3, e_ls4, e_ls5, e_ls6, e_ls7, e_ls8, e_tup, e_tue, e_tu0, e_tu1, e_tu2, e_tu3, e_tu4, e_dnew, e_cb, e_cbo, e_cbe, e_lens, e_lenl, e_lent, e_lenc, e_list, e_listt, e_inti, e_intb, e_ints, e_max, e_min, e_kst, e_ktp, e_kdp, e_ki, e_ks, e_kb, e_kn, e_ktb, e_kta, e_xst, e_xtp, e_xdp, e_xbw, e_xan, e_xcb, e_xs, e_si, e_ss, e_sb, e_sn, e_slt, e_sls, e_slb, e_sdp, e_sst, e_its, e_itbl, e_ix, e_ixo, e_ixe, e_ixf, e_nop, e_som, e_smo, e_sl, e_slo, e_gsl, e_gss, e_rev, e_dg1, e_d1o, e_d1k, e_m1, e_m1o, e_call, e_cl, e_cle, e_re, e_ree, e_rt, e_rnx, e_rer, e_def0, e_def1, e_def2, e_def3, e_def4, e_def5, e_def6, e_seq, e_sqn, e_sqr, e_sqe, e_sqb, e_sqc, e_set, e_seo, e_see, e_se2, e_if, e_ift, e_iff, e_ifr, e_ret, e_rto, e_rte, e_exp, e_epo, e_epe, e_rai, e_frz, e_fro, e_frc, e_fzo, e_fzd, e_fzs, e_fzb, e_fzu, e_for, e_fos, e_fob, e_foe, e_lii, e_lio, e_tii, e_tio, e_sti, e_sto, e_r1, e_r1o, e_r2, e_r2o, e_comp, e_coo, e_cc, e_yes, e_na0, e_nas, e_nab, e_nao, e_nad, e_nau, e_naa, e_nae, e_ne0, e_nes, e_neb, e_neo, e_ned, e_neu, e_nea, e_nee, e_app, e_apo, e_sei, e_sio, e_si2, e_dput, e_dpi, e_dpb, e_dp2, e_try, e_tyn, e_tyr, e_tye, e_exs, e_exn, e_uns, e_unn, e_ber, e_ben, e_tka, e_tko, e_ise, e_ero, e_unp, e_unt, e_imi, e_ims, e_imb, e_imn, e_imt, e_im0, e_imc, List.map_cons, List.map_nil, List.cons_append, List.nil_append, List.replicate_succ, List.replicate_zero, List.length_cons, List.length_nil, List.getElem?_cons_zero, List.getElem?_cons_succ, List.set_cons_zero, List.set_cons_succ, Option.map_some, Option.map_none, Option.bind_some, Option.isSome_some, Option.isSome_none, if_true, if_false, reduceIte, Bool.and_true, Bool.true_and, Bool.and_false, Bool.false_and, Bool.or_true, Bool.true_or, Bool.or_false, Bool.false_or, Bool.not_true, Bool.not_false, Nat.reduceAdd, Nat.reduceEqDiff, Bool.false_eq_true, decide_true, decide_false, reduceCtorEq, and_self, true_and, and_true, true_or, or_true, false_or, or_false, or_self, Nat.reducePow, Nat.reduceLeDiff, Nat.reduceSub, Int.reduceLT, Int.reduceLE, Int.reduceAdd, Int.reduceSub, Int.reduceMul, Int.reduceNeg, Int.reduceEq, List.length_map, List.length_append, e_it0, e_it1, e_it2, e_it3, e_it4, e_itt0, e_itt1, e_itt2, e_itt3, e_itt4, eq_self, Int.reduceToNat, false_and, and_false, Int.reducePow, e_pla, e_ple, hm, k1]
    · exact h.elim
  unfold g_law_row d_law_row
  have hc := cell_ok ns 0 (by decide)
  revert rest
  generalize seqF (setO 2 (lstR nilR)) (seqF (forO (rng1I (varR 1)) 3 b1_law_row) (frzF [2] (retO (varR 2)))) = K
  intro rest
  simp only [e_var, e_sml, e_smr, e_sh, e_bo, e_ow, e_dp, e_an, e_con, e_opt, e_op, e_op2, e_op2e, e_op2f, e_un, e_op1, e_op1e, e_add, e_adds, e_addl, e_sub, e_mul, e_muls, e_mull, e_mulI, e_div, e_mod, e_lt, e_le, e_gt, e_ge, e_neg, e_not, e_isn, e_notn, e_nn, e_ni, e_ns, e_nb, e_nl, e_nt, e_eqs, e_eqi, e_eqb, e_eqn, e_eqni, e_eqin, e_eqns, e_eqsn, e_eqsi, e_eqis, e_eq, e_ne, e_in, e_nin, e_din, e_dnin, e_dget, e_dget1, e_and, e_andt, e_andf, e_ande, e_or, e_orf, e_ort, e_tst, e_ts, e_tse, e_band, e_bat, e_baf, e_bae, e_bor, e_bof, e_bot, e_boe, e_bnot, e_bn, e_bne, e_ife, e_iet, e_ief, e_ch, e_ch2, e_cht, e_chf, e_nil, e_cons, e_cn, e_cne, e_cnf, e_arg1, e_arg2, e_lst, e_lse, e_ls0, e_ls1, e_ls2, e_ls3, e_ls4, e_ls5, e_ls6, e_ls7, e_ls8, e_tup, e_tue, e_tu0, e_tu1, e_tu2, e_tu3, e_tu4, e_dnew, e_cb, e_cbo, e_cbe, e_lens, e_lenl, e_lent, e_lenc, e_list, e_listt, e_inti, e_intb, e_ints, e_max, e_min, e_kst, e_ktp, e_kdp, e_ki, e_ks, e_kb, e_kn, e_ktb, e_kta, e_xst, e_xtp, e_xdp, e_xbw, e_xan, e_xcb, e_xs, e_si, e_ss, e_sb, e_sn, e_slt, e_sls, e_slb, e_sdp, e_sst, e_its, e_itbl, e_ix, e_ixo, e_ixe, e_ixf, e_nop, e_som, e_smo, e_sl, e_slo, e_gsl, e_gss, e_rev, e_dg1, e_d1o, e_d1k, e_m1, e_m1o, e_call, e_cl, e_cle, e_re, e_ree, e_rt, e_rnx, e_rer, e_def0, e_def1, e_def2, e_def3, e_def4, e_def5, e_def6, e_seq, e_sqn, e_sqr, e_sqe, e_sqb, e_sqc, e_set, e_seo, e_see, e_se2, e_if, e_ift, e_iff, e_ifr, e_ret, e_rto, e_rte, e_exp, e_epo, e_epe, e_rai, e_frz, e_fro, e_frc, e_fzo, e_fzd, e_fzs, e_fzb, e_fzu, e_for, e_fos, e_fob, e_foe, e_lii, e_lio, e_tii, e_tio, e_sti, e_sto, e_r1, e_r1o, e_r2, e_r2o, e_comp, e_coo, e_cc, e_yes, e_na0, e_nas, e_nab, e_nao, e_nad, e_nau, e_naa, e_nae, e_ne0, e_nes, e_neb, e_neo, e_ned, e_neu, e_nea, e_nee, e_app, e_apo, e_sei, e_sio, e_si2, e_dput, e_dpi, e_dpb, e_dp2, e_try, e_tyn, e_tyr, e_tye, e_exs, e_exn, e_uns, e_unn, e_ber, e_ben, e_tka, e_tko, e_ise, e_ero, e_unp, e_unt, e_imi, e_ims, e_imb, e_imn, e_imt, e_im0, e_imc, List.map_cons, List.map_nil, List.cons_append, List.nil_append, List.replicate_succ, List.replicate_zero, List.length_cons, List.length_nil, List.getElem?_cons_zero, List.getElem?_cons_succ, List.set_cons_zero, List.set_cons_succ, Option.map_some, Option.map_none, Option.bind_some, Option.isSome_some, Option.isSome_none, if_true, if_false, reduceIte, Bool.and_true, Bool.true_and, Bool.and_false, Bool.false_and, Bool.or_true, Bool.true_or, Bool.or_false, Bool.false_or, Bool.not_true, Bool.not_false, Nat.reduceAdd, Nat.reduceEqDiff, Bool.false_eq_true, decide_true, decide_false, reduceCtorEq, and_self, true_and, and_true, true_or, or_true, false_or, or_false, or_self, Nat.reducePow, Nat.reduceLeDiff, Nat.reduceSub, Int.reduceLT, Int.reduceLE, Int.reduceAdd, Int.reduceSub, Int.reduceMul, Int.reduceNeg, Int.reduceEq, List.length_map, List.length_append, e_it0, e_it1, e_it2, e_it3, e_it4, e_itt0, e_itt1, e_itt2, e_itt3, e_itt4, eq_self, Int.reduceToNat, false_and, and_false, Int.reducePow, e_pla, e_ple, hc]
  by_cases h3 : cell ns 0 / 43 % 3 = 1
  · have hi : ∃ v, 0 ≤ v ∧ v ≤ 42 ∧ itemD (.lst [.int 0, .int 1, .int 2, .int 39, .int 40, .int 41]) (cell ns 0 / 129 % 6) = some (.int v) := by
      obtain ⟨x, hx, e⟩ := menu (ds := [.int 0, .int 1, .int 2, .int 39, .int 40, .int 41]) (i := cell ns 0 / 129 % 6) (by omega) (by simp; omega)
      simp only [List.mem_cons, List.not_mem_nil, or_false] at hx
      rcases hx with rfl | rfl | rfl | rfl | rfl | rfl <;> exact ⟨_, by decide, by decide, e⟩
    obtain ⟨v, h0, h1, hi⟩ := hi
    obtain ⟨L, hN, hL, e⟩ := rest v h0 h1
    refine ⟨L, hN, hL, ?_⟩
    simp only [e_var, e_sml, e_smr, e_sh, e_bo, e_ow, e_dp, e_an, e_con, e_opt, e_op, e_op2, e_op2e, e_op2f, e_un, e_op1, e_op1e, e_add, e_adds, e_addl, e_sub, e_mul, e_muls, e_mull, e_mulI, e_div, e_mod, e_lt, e_le, e_gt, e_ge, e_neg, e_not, e_isn, e_notn, e_nn, e_ni, e_ns, e_nb, e_nl, e_nt, e_eqs, e_eqi, e_eqb, e_eqn, e_eqni, e_eqin, e_eqns, e_eqsn, e_eqsi, e_eqis, e_eq, e_ne, e_in, e_nin, e_din, e_dnin, e_dget, e_dget1, e_and, e_andt, e_andf, e_ande, e_or, e_orf, e_ort, e_tst, e_ts, e_tse, e_band, e_bat, e_baf, e_bae, e_bor, e_bof, e_bot, e_boe, e_bnot, e_bn, e_bne, e_ife, e_iet, e_ief, e_ch, e_ch2, e_cht, e_chf, e_nil, e_cons, e_cn, e_cne, e_cnf, e_arg1, e_arg2, e_lst, e_lse, e_ls0, e_ls1, e_ls2, e_ls3, e_ls4, e_ls5, e_ls6, e_ls7, e_ls8, e_tup, e_tue, e_tu0, e_tu1, e_tu2, e_tu3, e_tu4, e_dnew, e_cb, e_cbo, e_cbe, e_lens, e_lenl, e_lent, e_lenc, e_list, e_listt, e_inti, e_intb, e_ints, e_max, e_min, e_kst, e_ktp, e_kdp, e_ki, e_ks, e_kb, e_kn, e_ktb, e_kta, e_xst, e_xtp, e_xdp, e_xbw, e_xan, e_xcb, e_xs, e_si, e_ss, e_sb, e_sn, e_slt, e_sls, e_slb, e_sdp, e_sst, e_its, e_itbl, e_ix, e_ixo, e_ixe, e_ixf, e_nop, e_som, e_smo, e_sl, e_slo, e_gsl, e_gss, e_rev, e_dg1, e_d1o, e_d1k, e_m1, e_m1o, e_call, e_cl, e_cle, e_re, e_ree, e_rt, e_rnx, e_rer, e_def0, e_def1, e_def2, e_def3, e_def4, e_def5, e_def6, e_seq, e_sqn, e_sqr, e_sqe, e_sqb, e_sqc, e_set, e_seo, e_see, e_se2, e_if, e_ift, e_iff, e_ifr, e_ret, e_rto, e_rte, e_exp, e_epo, e_epe, e_rai, e_frz, e_fro, e_frc, e_fzo, e_fzd, e_fzs, e_fzb, e_fzu, e_for, e_fos, e_fob, e_foe, e_lii, e_lio, e_tii, e_tio, e_sti, e_sto, e_r1, e_r1o, e_r2, e_r2o, e_comp, e_coo, e_cc, e_yes, e_na0, e_nas, e_nab, e_nao, e_nad, e_nau, e_naa, e_nae, e_ne0, e_nes, e_neb, e_neo, e_ned, e_neu, e_nea, e_nee, e_app, e_apo, e_sei, e_sio, e_si2, e_dput, e_dpi, e_dpb, e_dp2, e_try, e_tyn, e_tyr, e_tye, e_exs, e_exn, e_uns, e_unn, e_ber, e_ben, e_tka, e_tko, e_ise, e_ero, e_unp, e_unt, e_imi, e_ims, e_imb, e_imn, e_imt, e_im0, e_imc, List.map_cons, List.map_nil, List.cons_append, List.nil_append, List.replicate_succ, List.replicate_zero, List.length_cons, List.length_nil, List.getElem?_cons_zero, List.getElem?_cons_succ, List.set_cons_zero, List.set_cons_succ, Option.map_some, Option.map_none, Option.bind_some, Option.isSome_some, Option.isSome_none, if_true, if_false, reduceIte, Bool.and_true, Bool.true_and, Bool.and_false, Bool.false_and, Bool.or_true, Bool.true_or, Bool.or_false, Bool.false_or, Bool.not_true, Bool.not_false, Nat.reduceAdd, Nat.reduceEqDiff, Bool.false_eq_true, decide_true, decide_false, reduceCtorEq, and_self, true_and, and_true, true_or, or_true, false_or, or_false, or_self, Nat.reducePow, Nat.reduceLeDiff, Nat.reduceSub, Int.reduceLT, Int.reduceLE, Int.reduceAdd, Int.reduceSub, Int.reduceMul, Int.reduceNeg, Int.reduceEq, List.length_map, List.length_append, e_it0, e_it1, e_it2, e_it3, e_it4, e_itt0, e_itt1, e_itt2, e_itt3, e_itt4, eq_self, Int.reduceToNat, false_and, and_false, Int.reducePow, e_pla, e_ple, h3, hc, hi]
    rw [e]
    walk_at "ev0"
  · obtain ⟨L, hN, hL, e⟩ := rest (cell ns 0 % 43) (by omega) (by omega)
    refine ⟨L, hN, hL, ?_⟩
    simp only [e_var, e_sml, e_smr, e_sh, e_bo, e_ow, e_dp, e_an, e_con, e_opt, e_op, e_op2, e_op2e, e_op2f, e_un, e_op1, e_op1e, e_add, e_adds, e_addl, e_sub, e_mul, e_muls, e_mull, e_mulI, e_div, e_mod, e_lt, e_le, e_gt, e_ge, e_neg, e_not, e_isn, e_notn, e_nn, e_ni, e_ns, e_nb, e_nl, e_nt, e_eqs, e_eqi, e_eqb, e_eqn, e_eqni, e_eqin, e_eqns, e_eqsn, e_eqsi, e_eqis, e_eq, e_ne, e_in, e_nin, e_din, e_dnin, e_dget, e_dget1, e_and, e_andt, e_andf, e_ande, e_or, e_orf, e_ort, e_tst, e_ts, e_tse, e_band, e_bat, e_baf, e_bae, e_bor, e_bof, e_bot, e_boe, e_bnot, e_bn, e_bne, e_ife, e_iet, e_ief, e_ch, e_ch2, e_cht, e_chf, e_nil, e_cons, e_cn, e_cne, e_cnf, e_arg1, e_arg2, e_lst, e_lse, e_ls0, e_ls1, e_ls2, e_ls3, e_ls4, e_ls5, e_ls6, e_ls7, e_ls8, e_tup, e_tue, e_tu0, e_tu1, e_tu2, e_tu3, e_tu4, e_dnew, e_cb, e_cbo, e_cbe, e_lens, e_lenl, e_lent, e_lenc, e_list, e_listt, e_inti, e_intb, e_ints, e_max, e_min, e_kst, e_ktp, e_kdp, e_ki, e_ks, e_kb, e_kn, e_ktb, e_kta, e_xst, e_xtp, e_xdp, e_xbw, e_xan, e_xcb, e_xs, e_si, e_ss, e_sb, e_sn, e_slt, e_sls, e_slb, e_sdp, e_sst, e_its, e_itbl, e_ix, e_ixo, e_ixe, e_ixf, e_nop, e_som, e_smo, e_sl, e_slo, e_gsl, e_gss, e_rev, e_dg1, e_d1o, e_d1k, e_m1, e_m1o, e_call, e_cl, e_cle, e_re, e_ree, e_rt, e_rnx, e_rer, e_def0, e_def1, e_def2, e_def3, e_def4, e_def5, e_def6, e_seq, e_sqn, e_sqr, e_sqe, e_sqb, e_sqc, e_set, e_seo, e_see, e_se2, e_if, e_ift, e_iff, e_ifr, e_ret, e_rto, e_rte, e_exp, e_epo, e_epe, e_rai, e_frz, e_fro, e_frc, e_fzo, e_fzd, e_fzs, e_fzb, e_fzu, e_for, e_fos, e_fob, e_foe, e_lii, e_lio, e_tii, e_tio, e_sti, e_sto, e_r1, e_r1o, e_r2, e_r2o, e_comp, e_coo, e_cc, e_yes, e_na0, e_nas, e_nab, e_nao, e_nad, e_nau, e_naa, e_nae, e_ne0, e_nes, e_neb, e_neo, e_ned, e_neu, e_nea, e_nee, e_app, e_apo, e_sei, e_sio, e_si2, e_dput, e_dpi, e_dpb, e_dp2, e_try, e_tyn, e_tyr, e_tye, e_exs, e_exn, e_uns, e_unn, e_ber, e_ben, e_tka, e_tko, e_ise, e_ero, e_unp, e_unt, e_imi, e_ims, e_imb, e_imn, e_imt, e_im0, e_imc, List.map_cons, List.map_nil, List.cons_append, List.nil_append, List.replicate_succ, List.replicate_zero, List.length_cons, List.length_nil, List.getElem?_cons_zero, List.getElem?_cons_succ, List.set_cons_zero, List.set_cons_succ, Option.map_some, Option.map_none, Option.bind_some, Option.isSome_some, Option.isSome_none, if_true, if_false, reduceIte, Bool.and_true, Bool.true_and, Bool.and_false, Bool.false_and, Bool.or_true, Bool.true_or, Bool.or_false, Bool.false_or, Bool.not_true, Bool.not_false, Nat.reduceAdd, Nat.reduceEqDiff, Bool.false_eq_true, decide_true, decide_false, reduceCtorEq, and_self, true_and, and_true, true_or, or_true, false_or, or_false, or_self, Nat.reducePow, Nat.reduceLeDiff, Nat.reduceSub, Int.reduceLT, Int.reduceLE, Int.reduceAdd, Int.reduceSub, Int.reduceMul, Int.reduceNeg, Int.reduceEq, List.length_map, List.length_append, e_it0, e_it1, e_it2, e_it3, e_it4, e_itt0, e_itt1, e_itt2, e_itt3, e_itt4, eq_self, Int.reduceToNat, false_and, and_false, Int.reducePow, e_pla, e_ple, h3]
    rw [e]
    walk_at "ev0"
-- the first thing wrong
def eqT (d e : D) : Bool := match eqB d e with
  | some b => b
  | none => false
theorem eqT_of {d e : D} {b : Bool} (h : eqB d e = some b) : eqT d e = b := by unfold eqT; rw [h]
def chk : Option D → List D → Option Ex
  | _, [] => none
  | a, d :: ds => if isPl d = false then some .place else if eqT d (a.getD .non) = true then some .journey else chk (some d) ds
def duE (ds : List D) : Option Ex := if 2 ≤ ds.length ∧ ds.length ≤ 40 then chk none ds else some .journey
theorem eqB_okD {d e : D} (hd : okD d) (he : okD e) : ∃ b, eqB d e = some b := by
  cases d <;> first | exact hd.elim | (cases e <;> first | exact he.elim | exact ⟨_, e_eqs⟩ | exact ⟨_, e_eqi⟩ | exact ⟨_, e_eqn⟩ | exact ⟨_, e_eqni⟩ | exact ⟨_, e_eqin⟩ | exact ⟨_, e_eqns⟩ | exact ⟨_, e_eqsn⟩ | exact ⟨_, e_eqsi⟩ | exact ⟨_, e_eqis⟩)
theorem okD_set {d : D} {k : Kd} (h : okD d) : setS d k = some (.sh d) := by
  cases d <;> first | exact h.elim | rfl
theorem okD_k {d : D} {k : Kd} (h : okD d) : stK d k = true := by
  cases d <;> first | exact h.elim | (cases k <;> rfl)
theorem okD_it {d : D} {k : Kd} (h : okD d) (hk : k = .bw) : itemS d k = some (.sh d) := by
  subst hk; exact e_itb (okD_imm h)
theorem need_loop (ds0 : D) : ∀ (ds : List D) (a : D) (x : Slot), (∀ d ∈ ds, okD d) → okD a → (match chk (some a) ds with
    | none => ∃ y z, forL 2 .bw b1_need_journey ds [.bo ds0, .sh a, x] = .nx [.bo ds0, y, z]
    | some c => ∃ δ, forL 2 .bw b1_need_journey ds [.bo ds0, .sh a, x] = .er c δ)
  | [], a, x, _, _ => ⟨_, _, rfl⟩
  | d :: ds, a, x, h, ha => by
    have hd := h d (by simp)
    have hi := is_place_ok d hd
    have ih := need_loop ds0 ds d (.sh d) (fun e he => h e (by simp [he])) hd
    have hs := okD_set (k := .st) hd
    obtain ⟨b, hb⟩ := eqB_okD hd ha
    have hq := eqT_of hb
    unfold chk forL
    rw [okD_it hd rfl]
    unfold b1_need_journey at ih ⊢
    cases hp : isPl d with
    | false =>
      rw [hp] at hi
      simp only [e_var, e_sml, e_smr, e_sh, e_bo, e_ow, e_dp, e_an, e_con, e_opt, e_op, e_op2, e_op2e, e_op2f, e_un, e_op1, e_op1e, e_add, e_adds, e_addl, e_sub, e_mul, e_muls, e_mull, e_mulI, e_div, e_mod, e_lt, e_le, e_gt, e_ge, e_neg, e_not, e_isn, e_notn, e_nn, e_ni, e_ns, e_nb, e_nl, e_nt, e_eqs, e_eqi, e_eqb, e_eqn, e_eqni, e_eqin, e_eqns, e_eqsn, e_eqsi, e_eqis, e_eq, e_ne, e_in, e_nin, e_din, e_dnin, e_dget, e_dget1, e_and, e_andt, e_andf, e_ande, e_or, e_orf, e_ort, e_tst, e_ts, e_tse, e_band, e_bat, e_baf, e_bae, e_bor, e_bof, e_bot, e_boe, e_bnot, e_bn, e_bne, e_ife, e_iet, e_ief, e_ch, e_ch2, e_cht, e_chf, e_nil, e_cons, e_cn, e_cne, e_cnf, e_arg1, e_arg2, e_lst, e_lse, e_ls0, e_ls1, e_ls2, e_ls3, e_ls4, e_ls5, e_ls6, e_ls7, e_ls8, e_tup, e_tue, e_tu0, e_tu1, e_tu2, e_tu3, e_tu4, e_dnew, e_cb, e_cbo, e_cbe, e_lens, e_lenl, e_lent, e_lenc, e_list, e_listt, e_inti, e_intb, e_ints, e_max, e_min, e_kst, e_ktp, e_kdp, e_ki, e_ks, e_kb, e_kn, e_ktb, e_kta, e_xst, e_xtp, e_xdp, e_xbw, e_xan, e_xcb, e_xs, e_si, e_ss, e_sb, e_sn, e_slt, e_sls, e_slb, e_sdp, e_sst, e_its, e_itbl, e_ix, e_ixo, e_ixe, e_ixf, e_nop, e_som, e_smo, e_sl, e_slo, e_gsl, e_gss, e_rev, e_dg1, e_d1o, e_d1k, e_m1, e_m1o, e_call, e_cl, e_cle, e_re, e_ree, e_rt, e_rnx, e_rer, e_def0, e_def1, e_def2, e_def3, e_def4, e_def5, e_def6, e_seq, e_sqn, e_sqr, e_sqe, e_sqb, e_sqc, e_set, e_seo, e_see, e_se2, e_if, e_ift, e_iff, e_ifr, e_ret, e_rto, e_rte, e_exp, e_epo, e_epe, e_rai, e_frz, e_fro, e_frc, e_fzo, e_fzd, e_fzs, e_fzb, e_fzu, e_for, e_fos, e_fob, e_foe, e_lii, e_lio, e_tii, e_tio, e_sti, e_sto, e_r1, e_r1o, e_r2, e_r2o, e_comp, e_coo, e_cc, e_yes, e_na0, e_nas, e_nab, e_nao, e_nad, e_nau, e_naa, e_nae, e_ne0, e_nes, e_neb, e_neo, e_ned, e_neu, e_nea, e_nee, e_app, e_apo, e_sei, e_sio, e_si2, e_dput, e_dpi, e_dpb, e_dp2, e_try, e_tyn, e_tyr, e_tye, e_exs, e_exn, e_uns, e_unn, e_ber, e_ben, e_tka, e_tko, e_ise, e_ero, e_unp, e_unt, e_imi, e_ims, e_imb, e_imn, e_imt, e_im0, e_imc, List.map_cons, List.map_nil, List.cons_append, List.nil_append, List.replicate_succ, List.replicate_zero, List.length_cons, List.length_nil, List.getElem?_cons_zero, List.getElem?_cons_succ, List.set_cons_zero, List.set_cons_succ, Option.map_some, Option.map_none, Option.bind_some, Option.isSome_some, Option.isSome_none, if_true, if_false, reduceIte, Bool.and_true, Bool.true_and, Bool.and_false, Bool.false_and, Bool.or_true, Bool.true_or, Bool.or_false, Bool.false_or, Bool.not_true, Bool.not_false, Nat.reduceAdd, Nat.reduceEqDiff, Bool.false_eq_true, decide_true, decide_false, reduceCtorEq, and_self, true_and, and_true, true_or, or_true, false_or, or_false, or_self, Nat.reducePow, Nat.reduceLeDiff, Nat.reduceSub, Int.reduceLT, Int.reduceLE, Int.reduceAdd, Int.reduceSub, Int.reduceMul, Int.reduceNeg, Int.reduceEq, List.length_map, List.length_append, e_it0, e_it1, e_it2, e_it3, e_it4, e_itt0, e_itt1, e_itt2, e_itt3, e_itt4, eq_self, Int.reduceToNat, false_and, and_false, Int.reducePow, e_pla, e_ple, hi]
      exact ⟨_, rfl⟩
    | true =>
      rw [hp] at hi
      cases b with
      | true =>
        simp only [e_var, e_sml, e_smr, e_sh, e_bo, e_ow, e_dp, e_an, e_con, e_opt, e_op, e_op2, e_op2e, e_op2f, e_un, e_op1, e_op1e, e_add, e_adds, e_addl, e_sub, e_mul, e_muls, e_mull, e_mulI, e_div, e_mod, e_lt, e_le, e_gt, e_ge, e_neg, e_not, e_isn, e_notn, e_nn, e_ni, e_ns, e_nb, e_nl, e_nt, e_eqs, e_eqi, e_eqb, e_eqn, e_eqni, e_eqin, e_eqns, e_eqsn, e_eqsi, e_eqis, e_eq, e_ne, e_in, e_nin, e_din, e_dnin, e_dget, e_dget1, e_and, e_andt, e_andf, e_ande, e_or, e_orf, e_ort, e_tst, e_ts, e_tse, e_band, e_bat, e_baf, e_bae, e_bor, e_bof, e_bot, e_boe, e_bnot, e_bn, e_bne, e_ife, e_iet, e_ief, e_ch, e_ch2, e_cht, e_chf, e_nil, e_cons, e_cn, e_cne, e_cnf, e_arg1, e_arg2, e_lst, e_lse, e_ls0, e_ls1, e_ls2, e_ls3, e_ls4, e_ls5, e_ls6, e_ls7, e_ls8, e_tup, e_tue, e_tu0, e_tu1, e_tu2, e_tu3, e_tu4, e_dnew, e_cb, e_cbo, e_cbe, e_lens, e_lenl, e_lent, e_lenc, e_list, e_listt, e_inti, e_intb, e_ints, e_max, e_min, e_kst, e_ktp, e_kdp, e_ki, e_ks, e_kb, e_kn, e_ktb, e_kta, e_xst, e_xtp, e_xdp, e_xbw, e_xan, e_xcb, e_xs, e_si, e_ss, e_sb, e_sn, e_slt, e_sls, e_slb, e_sdp, e_sst, e_its, e_itbl, e_ix, e_ixo, e_ixe, e_ixf, e_nop, e_som, e_smo, e_sl, e_slo, e_gsl, e_gss, e_rev, e_dg1, e_d1o, e_d1k, e_m1, e_m1o, e_call, e_cl, e_cle, e_re, e_ree, e_rt, e_rnx, e_rer, e_def0, e_def1, e_def2, e_def3, e_def4, e_def5, e_def6, e_seq, e_sqn, e_sqr, e_sqe, e_sqb, e_sqc, e_set, e_seo, e_see, e_se2, e_if, e_ift, e_iff, e_ifr, e_ret, e_rto, e_rte, e_exp, e_epo, e_epe, e_rai, e_frz, e_fro, e_frc, e_fzo, e_fzd, e_fzs, e_fzb, e_fzu, e_for, e_fos, e_fob, e_foe, e_lii, e_lio, e_tii, e_tio, e_sti, e_sto, e_r1, e_r1o, e_r2, e_r2o, e_comp, e_coo, e_cc, e_yes, e_na0, e_nas, e_nab, e_nao, e_nad, e_nau, e_naa, e_nae, e_ne0, e_nes, e_neb, e_neo, e_ned, e_neu, e_nea, e_nee, e_app, e_apo, e_sei, e_sio, e_si2, e_dput, e_dpi, e_dpb, e_dp2, e_try, e_tyn, e_tyr, e_tye, e_exs, e_exn, e_uns, e_unn, e_ber, e_ben, e_tka, e_tko, e_ise, e_ero, e_unp, e_unt, e_imi, e_ims, e_imb, e_imn, e_imt, e_im0, e_imc, List.map_cons, List.map_nil, List.cons_append, List.nil_append, List.replicate_succ, List.replicate_zero, List.length_cons, List.length_nil, List.getElem?_cons_zero, List.getElem?_cons_succ, List.set_cons_zero, List.set_cons_succ, Option.map_some, Option.map_none, Option.bind_some, Option.isSome_some, Option.isSome_none, if_true, if_false, reduceIte, Bool.and_true, Bool.true_and, Bool.and_false, Bool.false_and, Bool.or_true, Bool.true_or, Bool.or_false, Bool.false_or, Bool.not_true, Bool.not_false, Nat.reduceAdd, Nat.reduceEqDiff, Bool.false_eq_true, decide_true, decide_false, reduceCtorEq, and_self, true_and, and_true, true_or, or_true, false_or, or_false, or_self, Nat.reducePow, Nat.reduceLeDiff, Nat.reduceSub, Int.reduceLT, Int.reduceLE, Int.reduceAdd, Int.reduceSub, Int.reduceMul, Int.reduceNeg, Int.reduceEq, List.length_map, List.length_append, e_it0, e_it1, e_it2, e_it3, e_it4, e_itt0, e_itt1, e_itt2, e_itt3, e_itt4, eq_self, Int.reduceToNat, false_and, and_false, Int.reducePow, e_pla, e_ple, hi, hb, hq, Option.getD_some]
        exact ⟨_, rfl⟩
      | false =>
        simp only [e_var, e_sml, e_smr, e_sh, e_bo, e_ow, e_dp, e_an, e_con, e_opt, e_op, e_op2, e_op2e, e_op2f, e_un, e_op1, e_op1e, e_add, e_adds, e_addl, e_sub, e_mul, e_muls, e_mull, e_mulI, e_div, e_mod, e_lt, e_le, e_gt, e_ge, e_neg, e_not, e_isn, e_notn, e_nn, e_ni, e_ns, e_nb, e_nl, e_nt, e_eqs, e_eqi, e_eqb, e_eqn, e_eqni, e_eqin, e_eqns, e_eqsn, e_eqsi, e_eqis, e_eq, e_ne, e_in, e_nin, e_din, e_dnin, e_dget, e_dget1, e_and, e_andt, e_andf, e_ande, e_or, e_orf, e_ort, e_tst, e_ts, e_tse, e_band, e_bat, e_baf, e_bae, e_bor, e_bof, e_bot, e_boe, e_bnot, e_bn, e_bne, e_ife, e_iet, e_ief, e_ch, e_ch2, e_cht, e_chf, e_nil, e_cons, e_cn, e_cne, e_cnf, e_arg1, e_arg2, e_lst, e_lse, e_ls0, e_ls1, e_ls2, e_ls3, e_ls4, e_ls5, e_ls6, e_ls7, e_ls8, e_tup, e_tue, e_tu0, e_tu1, e_tu2, e_tu3, e_tu4, e_dnew, e_cb, e_cbo, e_cbe, e_lens, e_lenl, e_lent, e_lenc, e_list, e_listt, e_inti, e_intb, e_ints, e_max, e_min, e_kst, e_ktp, e_kdp, e_ki, e_ks, e_kb, e_kn, e_ktb, e_kta, e_xst, e_xtp, e_xdp, e_xbw, e_xan, e_xcb, e_xs, e_si, e_ss, e_sb, e_sn, e_slt, e_sls, e_slb, e_sdp, e_sst, e_its, e_itbl, e_ix, e_ixo, e_ixe, e_ixf, e_nop, e_som, e_smo, e_sl, e_slo, e_gsl, e_gss, e_rev, e_dg1, e_d1o, e_d1k, e_m1, e_m1o, e_call, e_cl, e_cle, e_re, e_ree, e_rt, e_rnx, e_rer, e_def0, e_def1, e_def2, e_def3, e_def4, e_def5, e_def6, e_seq, e_sqn, e_sqr, e_sqe, e_sqb, e_sqc, e_set, e_seo, e_see, e_se2, e_if, e_ift, e_iff, e_ifr, e_ret, e_rto, e_rte, e_exp, e_epo, e_epe, e_rai, e_frz, e_fro, e_frc, e_fzo, e_fzd, e_fzs, e_fzb, e_fzu, e_for, e_fos, e_fob, e_foe, e_lii, e_lio, e_tii, e_tio, e_sti, e_sto, e_r1, e_r1o, e_r2, e_r2o, e_comp, e_coo, e_cc, e_yes, e_na0, e_nas, e_nab, e_nao, e_nad, e_nau, e_naa, e_nae, e_ne0, e_nes, e_neb, e_neo, e_ned, e_neu, e_nea, e_nee, e_app, e_apo, e_sei, e_sio, e_si2, e_dput, e_dpi, e_dpb, e_dp2, e_try, e_tyn, e_tyr, e_tye, e_exs, e_exn, e_uns, e_unn, e_ber, e_ben, e_tka, e_tko, e_ise, e_ero, e_unp, e_unt, e_imi, e_ims, e_imb, e_imn, e_imt, e_im0, e_imc, List.map_cons, List.map_nil, List.cons_append, List.nil_append, List.replicate_succ, List.replicate_zero, List.length_cons, List.length_nil, List.getElem?_cons_zero, List.getElem?_cons_succ, List.set_cons_zero, List.set_cons_succ, Option.map_some, Option.map_none, Option.bind_some, Option.isSome_some, Option.isSome_none, if_true, if_false, reduceIte, Bool.and_true, Bool.true_and, Bool.and_false, Bool.false_and, Bool.or_true, Bool.true_or, Bool.or_false, Bool.false_or, Bool.not_true, Bool.not_false, Nat.reduceAdd, Nat.reduceEqDiff, Bool.false_eq_true, decide_true, decide_false, reduceCtorEq, and_self, true_and, and_true, true_or, or_true, false_or, or_false, or_self, Nat.reducePow, Nat.reduceLeDiff, Nat.reduceSub, Int.reduceLT, Int.reduceLE, Int.reduceAdd, Int.reduceSub, Int.reduceMul, Int.reduceNeg, Int.reduceEq, List.length_map, List.length_append, e_it0, e_it1, e_it2, e_it3, e_it4, e_itt0, e_itt1, e_itt2, e_itt3, e_itt4, eq_self, Int.reduceToNat, false_and, and_false, Int.reducePow, e_pla, e_ple, hi, hb, hq, hs, Option.getD_some, Option.some.injEq]
        exact ih
theorem need_ok (ds : List D) (h : ∀ d ∈ ds, okD d) : g_need_journey [.lst ds] = (match duE ds with
    | none => .ok (.lst ds)
    | some c => .er c) := by
  unfold g_need_journey d_need_journey duE
  walk_at "ev0"
  by_cases h1 : 2 ≤ ds.length
  · by_cases h2 : ds.length ≤ 40
    · have h1' : (2 : Int) ≤ ds.length := by omega
      have h2' : (ds.length : Int) ≤ 40 := by omega
      have key := need_loop (.lst ds) ds .non .un h trivial
      have him := okD_imms h
      have e : chk none ds = chk (some .non) ds := by cases ds <;> rfl
      rw [e]
      simp only [e_var, e_sml, e_smr, e_sh, e_bo, e_ow, e_dp, e_an, e_con, e_opt, e_op, e_op2, e_op2e, e_op2f, e_un, e_op1, e_op1e, e_add, e_adds, e_addl, e_sub, e_mul, e_muls, e_mull, e_mulI, e_div, e_mod, e_lt, e_le, e_gt, e_ge, e_neg, e_not, e_isn, e_notn, e_nn, e_ni, e_ns, e_nb, e_nl, e_nt, e_eqs, e_eqi, e_eqb, e_eqn, e_eqni, e_eqin, e_eqns, e_eqsn, e_eqsi, e_eqis, e_eq, e_ne, e_in, e_nin, e_din, e_dnin, e_dget, e_dget1, e_and, e_andt, e_andf, e_ande, e_or, e_orf, e_ort, e_tst, e_ts, e_tse, e_band, e_bat, e_baf, e_bae, e_bor, e_bof, e_bot, e_boe, e_bnot, e_bn, e_bne, e_ife, e_iet, e_ief, e_ch, e_ch2, e_cht, e_chf, e_nil, e_cons, e_cn, e_cne, e_cnf, e_arg1, e_arg2, e_lst, e_lse, e_ls0, e_ls1, e_ls2, e_ls3, e_ls4, e_ls5, e_ls6, e_ls7, e_ls8, e_tup, e_tue, e_tu0, e_tu1, e_tu2, e_tu3, e_tu4, e_dnew, e_cb, e_cbo, e_cbe, e_lens, e_lenl, e_lent, e_lenc, e_list, e_listt, e_inti, e_intb, e_ints, e_max, e_min, e_kst, e_ktp, e_kdp, e_ki, e_ks, e_kb, e_kn, e_ktb, e_kta, e_xst, e_xtp, e_xdp, e_xbw, e_xan, e_xcb, e_xs, e_si, e_ss, e_sb, e_sn, e_slt, e_sls, e_slb, e_sdp, e_sst, e_its, e_itbl, e_ix, e_ixo, e_ixe, e_ixf, e_nop, e_som, e_smo, e_sl, e_slo, e_gsl, e_gss, e_rev, e_dg1, e_d1o, e_d1k, e_m1, e_m1o, e_call, e_cl, e_cle, e_re, e_ree, e_rt, e_rnx, e_rer, e_def0, e_def1, e_def2, e_def3, e_def4, e_def5, e_def6, e_seq, e_sqn, e_sqr, e_sqe, e_sqb, e_sqc, e_set, e_seo, e_see, e_se2, e_if, e_ift, e_iff, e_ifr, e_ret, e_rto, e_rte, e_exp, e_epo, e_epe, e_rai, e_frz, e_fro, e_frc, e_fzo, e_fzd, e_fzs, e_fzb, e_fzu, e_for, e_fos, e_fob, e_foe, e_lii, e_lio, e_tii, e_tio, e_sti, e_sto, e_r1, e_r1o, e_r2, e_r2o, e_comp, e_coo, e_cc, e_yes, e_na0, e_nas, e_nab, e_nao, e_nad, e_nau, e_naa, e_nae, e_ne0, e_nes, e_neb, e_neo, e_ned, e_neu, e_nea, e_nee, e_app, e_apo, e_sei, e_sio, e_si2, e_dput, e_dpi, e_dpb, e_dp2, e_try, e_tyn, e_tyr, e_tye, e_exs, e_exn, e_uns, e_unn, e_ber, e_ben, e_tka, e_tko, e_ise, e_ero, e_unp, e_unt, e_imi, e_ims, e_imb, e_imn, e_imt, e_im0, e_imc, List.map_cons, List.map_nil, List.cons_append, List.nil_append, List.replicate_succ, List.replicate_zero, List.length_cons, List.length_nil, List.getElem?_cons_zero, List.getElem?_cons_succ, List.set_cons_zero, List.set_cons_succ, Option.map_some, Option.map_none, Option.bind_some, Option.isSome_some, Option.isSome_none, if_true, if_false, reduceIte, Bool.and_true, Bool.true_and, Bool.and_false, Bool.false_and, Bool.or_true, Bool.true_or, Bool.or_false, Bool.false_or, Bool.not_true, Bool.not_false, Nat.reduceAdd, Nat.reduceEqDiff, Bool.false_eq_true, decide_true, decide_false, reduceCtorEq, and_self, true_and, and_true, true_or, or_true, false_or, or_false, or_self, Nat.reducePow, Nat.reduceLeDiff, Nat.reduceSub, Int.reduceLT, Int.reduceLE, Int.reduceAdd, Int.reduceSub, Int.reduceMul, Int.reduceNeg, Int.reduceEq, List.length_map, List.length_append, e_it0, e_it1, e_it2, e_it3, e_it4, e_itt0, e_itt1, e_itt2, e_itt3, e_itt4, eq_self, Int.reduceToNat, false_and, and_false, Int.reducePow, e_pla, e_ple, h1, h2, h1', h2']
      cases hc : chk (some .non) ds with
      | none =>
        rw [hc] at key
        obtain ⟨y, x, k1⟩ := key
        simp only [e_var, e_sml, e_smr, e_sh, e_bo, e_ow, e_dp, e_an, e_con, e_opt, e_op, e_op2, e_op2e, e_op2f, e_un, e_op1, e_op1e, e_add, e_adds, e_addl, e_sub, e_mul, e_muls, e_mull, e_mulI, e_div, e_mod, e_lt, e_le, e_gt, e_ge, e_neg, e_not, e_isn, e_notn, e_nn, e_ni, e_ns, e_nb, e_nl, e_nt, e_eqs, e_eqi, e_eqb, e_eqn, e_eqni, e_eqin, e_eqns, e_eqsn, e_eqsi, e_eqis, e_eq, e_ne, e_in, e_nin, e_din, e_dnin, e_dget, e_dget1, e_and, e_andt, e_andf, e_ande, e_or, e_orf, e_ort, e_tst, e_ts, e_tse, e_band, e_bat, e_baf, e_bae, e_bor, e_bof, e_bot, e_boe, e_bnot, e_bn, e_bne, e_ife, e_iet, e_ief, e_ch, e_ch2, e_cht, e_chf, e_nil, e_cons, e_cn, e_cne, e_cnf, e_arg1, e_arg2, e_lst, e_lse, e_ls0, e_ls1, e_ls2, e_ls3, e_ls4, e_ls5, e_ls6, e_ls7, e_ls8, e_tup, e_tue, e_tu0, e_tu1, e_tu2, e_tu3, e_tu4, e_dnew, e_cb, e_cbo, e_cbe, e_lens, e_lenl, e_lent, e_lenc, e_list, e_listt, e_inti, e_intb, e_ints, e_max, e_min, e_kst, e_ktp, e_kdp, e_ki, e_ks, e_kb, e_kn, e_ktb, e_kta, e_xst, e_xtp, e_xdp, e_xbw, e_xan, e_xcb, e_xs, e_si, e_ss, e_sb, e_sn, e_slt, e_sls, e_slb, e_sdp, e_sst, e_its, e_itbl, e_ix, e_ixo, e_ixe, e_ixf, e_nop, e_som, e_smo, e_sl, e_slo, e_gsl, e_gss, e_rev, e_dg1, e_d1o, e_d1k, e_m1, e_m1o, e_call, e_cl, e_cle, e_re, e_ree, e_rt, e_rnx, e_rer, e_def0, e_def1, e_def2, e_def3, e_def4, e_def5, e_def6, e_seq, e_sqn, e_sqr, e_sqe, e_sqb, e_sqc, e_set, e_seo, e_see, e_se2, e_if, e_ift, e_iff, e_ifr, e_ret, e_rto, e_rte, e_exp, e_epo, e_epe, e_rai, e_frz, e_fro, e_frc, e_fzo, e_fzd, e_fzs, e_fzb, e_fzu, e_for, e_fos, e_fob, e_foe, e_lii, e_lio, e_tii, e_tio, e_sti, e_sto, e_r1, e_r1o, e_r2, e_r2o, e_comp, e_coo, e_cc, e_yes, e_na0, e_nas, e_nab, e_nao, e_nad, e_nau, e_naa, e_nae, e_ne0, e_nes, e_neb, e_neo, e_ned, e_neu, e_nea, e_nee, e_app, e_apo, e_sei, e_sio, e_si2, e_dput, e_dpi, e_dpb, e_dp2, e_try, e_tyn, e_tyr, e_tye, e_exs, e_exn, e_uns, e_unn, e_ber, e_ben, e_tka, e_tko, e_ise, e_ero, e_unp, e_unt, e_imi, e_ims, e_imb, e_imn, e_imt, e_im0, e_imc, List.map_cons, List.map_nil, List.cons_append, List.nil_append, List.replicate_succ, List.replicate_zero, List.length_cons, List.length_nil, List.getElem?_cons_zero, List.getElem?_cons_succ, List.set_cons_zero, List.set_cons_succ, Option.map_some, Option.map_none, Option.bind_some, Option.isSome_some, Option.isSome_none, if_true, if_false, reduceIte, Bool.and_true, Bool.true_and, Bool.and_false, Bool.false_and, Bool.or_true, Bool.true_or, Bool.or_false, Bool.false_or, Bool.not_true, Bool.not_false, Nat.reduceAdd, Nat.reduceEqDiff, Bool.false_eq_true, decide_true, decide_false, reduceCtorEq, and_self, true_and, and_true, true_or, or_true, false_or, or_false, or_self, Nat.reducePow, Nat.reduceLeDiff, Nat.reduceSub, Int.reduceLT, Int.reduceLE, Int.reduceAdd, Int.reduceSub, Int.reduceMul, Int.reduceNeg, Int.reduceEq, List.length_map, List.length_append, e_it0, e_it1, e_it2, e_it3, e_it4, e_itt0, e_itt1, e_itt2, e_itt3, e_itt4, eq_self, Int.reduceToNat, false_and, and_false, Int.reducePow, e_pla, e_ple, k1, him]
      | some c =>
        rw [hc] at key
        obtain ⟨δ, k1⟩ := key
        simp only [e_var, e_sml, e_smr, e_sh, e_bo, e_ow, e_dp, e_an, e_con, e_opt, e_op, e_op2, e_op2e, e_op2f, e_un, e_op1, e_op1e, e_add, e_adds, e_addl, e_sub, e_mul, e_muls, e_mull, e_mulI, e_div, e_mod, e_lt, e_le, e_gt, e_ge, e_neg, e_not, e_isn, e_notn, e_nn, e_ni, e_ns, e_nb, e_nl, e_nt, e_eqs, e_eqi, e_eqb, e_eqn, e_eqni, e_eqin, e_eqns, e_eqsn, e_eqsi, e_eqis, e_eq, e_ne, e_in, e_nin, e_din, e_dnin, e_dget, e_dget1, e_and, e_andt, e_andf, e_ande, e_or, e_orf, e_ort, e_tst, e_ts, e_tse, e_band, e_bat, e_baf, e_bae, e_bor, e_bof, e_bot, e_boe, e_bnot, e_bn, e_bne, e_ife, e_iet, e_ief, e_ch, e_ch2, e_cht, e_chf, e_nil, e_cons, e_cn, e_cne, e_cnf, e_arg1, e_arg2, e_lst, e_lse, e_ls0, e_ls1, e_ls2, e_ls3, e_ls4, e_ls5, e_ls6, e_ls7, e_ls8, e_tup, e_tue, e_tu0, e_tu1, e_tu2, e_tu3, e_tu4, e_dnew, e_cb, e_cbo, e_cbe, e_lens, e_lenl, e_lent, e_lenc, e_list, e_listt, e_inti, e_intb, e_ints, e_max, e_min, e_kst, e_ktp, e_kdp, e_ki, e_ks, e_kb, e_kn, e_ktb, e_kta, e_xst, e_xtp, e_xdp, e_xbw, e_xan, e_xcb, e_xs, e_si, e_ss, e_sb, e_sn, e_slt, e_sls, e_slb, e_sdp, e_sst, e_its, e_itbl, e_ix, e_ixo, e_ixe, e_ixf, e_nop, e_som, e_smo, e_sl, e_slo, e_gsl, e_gss, e_rev, e_dg1, e_d1o, e_d1k, e_m1, e_m1o, e_call, e_cl, e_cle, e_re, e_ree, e_rt, e_rnx, e_rer, e_def0, e_def1, e_def2, e_def3, e_def4, e_def5, e_def6, e_seq, e_sqn, e_sqr, e_sqe, e_sqb, e_sqc, e_set, e_seo, e_see, e_se2, e_if, e_ift, e_iff, e_ifr, e_ret, e_rto, e_rte, e_exp, e_epo, e_epe, e_rai, e_frz, e_fro, e_frc, e_fzo, e_fzd, e_fzs, e_fzb, e_fzu, e_for, e_fos, e_fob, e_foe, e_lii, e_lio, e_tii, e_tio, e_sti, e_sto, e_r1, e_r1o, e_r2, e_r2o, e_comp, e_coo, e_cc, e_yes, e_na0, e_nas, e_nab, e_nao, e_nad, e_nau, e_naa, e_nae, e_ne0, e_nes, e_neb, e_neo, e_ned, e_neu, e_nea, e_nee, e_app, e_apo, e_sei, e_sio, e_si2, e_dput, e_dpi, e_dpb, e_dp2, e_try, e_tyn, e_tyr, e_tye, e_exs, e_exn, e_uns, e_unn, e_ber, e_ben, e_tka, e_tko, e_ise, e_ero, e_unp, e_unt, e_imi, e_ims, e_imb, e_imn, e_imt, e_im0, e_imc, List.map_cons, List.map_nil, List.cons_append, List.nil_append, List.replicate_succ, List.replicate_zero, List.length_cons, List.length_nil, List.getElem?_cons_zero, List.getElem?_cons_succ, List.set_cons_zero, List.set_cons_succ, Option.map_some, Option.map_none, Option.bind_some, Option.isSome_some, Option.isSome_none, if_true, if_false, reduceIte, Bool.and_true, Bool.true_and, Bool.and_false, Bool.false_and, Bool.or_true, Bool.true_or, Bool.or_false, Bool.false_or, Bool.not_true, Bool.not_false, Nat.reduceAdd, Nat.reduceEqDiff, Bool.false_eq_true, decide_true, decide_false, reduceCtorEq, and_self, true_and, and_true, true_or, or_true, false_or, or_false, or_self, Nat.reducePow, Nat.reduceLeDiff, Nat.reduceSub, Int.reduceLT, Int.reduceLE, Int.reduceAdd, Int.reduceSub, Int.reduceMul, Int.reduceNeg, Int.reduceEq, List.length_map, List.length_append, e_it0, e_it1, e_it2, e_it3, e_it4, e_itt0, e_itt1, e_itt2, e_itt3, e_itt4, eq_self, Int.reduceToNat, false_and, and_false, Int.reducePow, e_pla, e_ple, k1]
    · have h1' : (2 : Int) ≤ ds.length := by omega
      have h2' : ¬ (ds.length : Int) ≤ 40 := by omega
      simp only [e_var, e_sml, e_smr, e_sh, e_bo, e_ow, e_dp, e_an, e_con, e_opt, e_op, e_op2, e_op2e, e_op2f, e_un, e_op1, e_op1e, e_add, e_adds, e_addl, e_sub, e_mul, e_muls, e_mull, e_mulI, e_div, e_mod, e_lt, e_le, e_gt, e_ge, e_neg, e_not, e_isn, e_notn, e_nn, e_ni, e_ns, e_nb, e_nl, e_nt, e_eqs, e_eqi, e_eqb, e_eqn, e_eqni, e_eqin, e_eqns, e_eqsn, e_eqsi, e_eqis, e_eq, e_ne, e_in, e_nin, e_din, e_dnin, e_dget, e_dget1, e_and, e_andt, e_andf, e_ande, e_or, e_orf, e_ort, e_tst, e_ts, e_tse, e_band, e_bat, e_baf, e_bae, e_bor, e_bof, e_bot, e_boe, e_bnot, e_bn, e_bne, e_ife, e_iet, e_ief, e_ch, e_ch2, e_cht, e_chf, e_nil, e_cons, e_cn, e_cne, e_cnf, e_arg1, e_arg2, e_lst, e_lse, e_ls0, e_ls1, e_ls2, e_ls3, e_ls4, e_ls5, e_ls6, e_ls7, e_ls8, e_tup, e_tue, e_tu0, e_tu1, e_tu2, e_tu3, e_tu4, e_dnew, e_cb, e_cbo, e_cbe, e_lens, e_lenl, e_lent, e_lenc, e_list, e_listt, e_inti, e_intb, e_ints, e_max, e_min, e_kst, e_ktp, e_kdp, e_ki, e_ks, e_kb, e_kn, e_ktb, e_kta, e_xst, e_xtp, e_xdp, e_xbw, e_xan, e_xcb, e_xs, e_si, e_ss, e_sb, e_sn, e_slt, e_sls, e_slb, e_sdp, e_sst, e_its, e_itbl, e_ix, e_ixo, e_ixe, e_ixf, e_nop, e_som, e_smo, e_sl, e_slo, e_gsl, e_gss, e_rev, e_dg1, e_d1o, e_d1k, e_m1, e_m1o, e_call, e_cl, e_cle, e_re, e_ree, e_rt, e_rnx, e_rer, e_def0, e_def1, e_def2, e_def3, e_def4, e_def5, e_def6, e_seq, e_sqn, e_sqr, e_sqe, e_sqb, e_sqc, e_set, e_seo, e_see, e_se2, e_if, e_ift, e_iff, e_ifr, e_ret, e_rto, e_rte, e_exp, e_epo, e_epe, e_rai, e_frz, e_fro, e_frc, e_fzo, e_fzd, e_fzs, e_fzb, e_fzu, e_for, e_fos, e_fob, e_foe, e_lii, e_lio, e_tii, e_tio, e_sti, e_sto, e_r1, e_r1o, e_r2, e_r2o, e_comp, e_coo, e_cc, e_yes, e_na0, e_nas, e_nab, e_nao, e_nad, e_nau, e_naa, e_nae, e_ne0, e_nes, e_neb, e_neo, e_ned, e_neu, e_nea, e_nee, e_app, e_apo, e_sei, e_sio, e_si2, e_dput, e_dpi, e_dpb, e_dp2, e_try, e_tyn, e_tyr, e_tye, e_exs, e_exn, e_uns, e_unn, e_ber, e_ben, e_tka, e_tko, e_ise, e_ero, e_unp, e_unt, e_imi, e_ims, e_imb, e_imn, e_imt, e_im0, e_imc, List.map_cons, List.map_nil, List.cons_append, List.nil_append, List.replicate_succ, List.replicate_zero, List.length_cons, List.length_nil, List.getElem?_cons_zero, List.getElem?_cons_succ, List.set_cons_zero, List.set_cons_succ, Option.map_some, Option.map_none, Option.bind_some, Option.isSome_some, Option.isSome_none, if_true, if_false, reduceIte, Bool.and_true, Bool.true_and, Bool.and_false, Bool.false_and, Bool.or_true, Bool.true_or, Bool.or_false, Bool.false_or, Bool.not_true, Bool.not_false, Nat.reduceAdd, Nat.reduceEqDiff, Bool.false_eq_true, decide_true, decide_false, reduceCtorEq, and_self, true_and, and_true, true_or, or_true, false_or, or_false, or_self, Nat.reducePow, Nat.reduceLeDiff, Nat.reduceSub, Int.reduceLT, Int.reduceLE, Int.reduceAdd, Int.reduceSub, Int.reduceMul, Int.reduceNeg, Int.reduceEq, List.length_map, List.length_append, e_it0, e_it1, e_it2, e_it3, e_it4, e_itt0, e_itt1, e_itt2, e_itt3, e_itt4, eq_self, Int.reduceToNat, false_and, and_false, Int.reducePow, e_pla, e_ple, h1, h2, h1', h2']
  · have h1' : ¬ (2 : Int) ≤ ds.length := by omega
    simp only [e_var, e_sml, e_smr, e_sh, e_bo, e_ow, e_dp, e_an, e_con, e_opt, e_op, e_op2, e_op2e, e_op2f, e_un, e_op1, e_op1e, e_add, e_adds, e_addl, e_sub, e_mul, e_muls, e_mull, e_mulI, e_div, e_mod, e_lt, e_le, e_gt, e_ge, e_neg, e_not, e_isn, e_notn, e_nn, e_ni, e_ns, e_nb, e_nl, e_nt, e_eqs, e_eqi, e_eqb, e_eqn, e_eqni, e_eqin, e_eqns, e_eqsn, e_eqsi, e_eqis, e_eq, e_ne, e_in, e_nin, e_din, e_dnin, e_dget, e_dget1, e_and, e_andt, e_andf, e_ande, e_or, e_orf, e_ort, e_tst, e_ts, e_tse, e_band, e_bat, e_baf, e_bae, e_bor, e_bof, e_bot, e_boe, e_bnot, e_bn, e_bne, e_ife, e_iet, e_ief, e_ch, e_ch2, e_cht, e_chf, e_nil, e_cons, e_cn, e_cne, e_cnf, e_arg1, e_arg2, e_lst, e_lse, e_ls0, e_ls1, e_ls2, e_ls3, e_ls4, e_ls5, e_ls6, e_ls7, e_ls8, e_tup, e_tue, e_tu0, e_tu1, e_tu2, e_tu3, e_tu4, e_dnew, e_cb, e_cbo, e_cbe, e_lens, e_lenl, e_lent, e_lenc, e_list, e_listt, e_inti, e_intb, e_ints, e_max, e_min, e_kst, e_ktp, e_kdp, e_ki, e_ks, e_kb, e_kn, e_ktb, e_kta, e_xst, e_xtp, e_xdp, e_xbw, e_xan, e_xcb, e_xs, e_si, e_ss, e_sb, e_sn, e_slt, e_sls, e_slb, e_sdp, e_sst, e_its, e_itbl, e_ix, e_ixo, e_ixe, e_ixf, e_nop, e_som, e_smo, e_sl, e_slo, e_gsl, e_gss, e_rev, e_dg1, e_d1o, e_d1k, e_m1, e_m1o, e_call, e_cl, e_cle, e_re, e_ree, e_rt, e_rnx, e_rer, e_def0, e_def1, e_def2, e_def3, e_def4, e_def5, e_def6, e_seq, e_sqn, e_sqr, e_sqe, e_sqb, e_sqc, e_set, e_seo, e_see, e_se2, e_if, e_ift, e_iff, e_ifr, e_ret, e_rto, e_rte, e_exp, e_epo, e_epe, e_rai, e_frz, e_fro, e_frc, e_fzo, e_fzd, e_fzs, e_fzb, e_fzu, e_for, e_fos, e_fob, e_foe, e_lii, e_lio, e_tii, e_tio, e_sti, e_sto, e_r1, e_r1o, e_r2, e_r2o, e_comp, e_coo, e_cc, e_yes, e_na0, e_nas, e_nab, e_nao, e_nad, e_nau, e_naa, e_nae, e_ne0, e_nes, e_neb, e_neo, e_ned, e_neu, e_nea, e_nee, e_app, e_apo, e_sei, e_sio, e_si2, e_dput, e_dpi, e_dpb, e_dp2, e_try, e_tyn, e_tyr, e_tye, e_exs, e_exn, e_uns, e_unn, e_ber, e_ben, e_tka, e_tko, e_ise, e_ero, e_unp, e_unt, e_imi, e_ims, e_imb, e_imn, e_imt, e_im0, e_imc, List.map_cons, List.map_nil, List.cons_append, List.nil_append, List.replicate_succ, List.replicate_zero, List.length_cons, List.length_nil, List.getElem?_cons_zero, List.getElem?_cons_succ, List.set_cons_zero, List.set_cons_succ, Option.map_some, Option.map_none, Option.bind_some, Option.isSome_some, Option.isSome_none, if_true, if_false, reduceIte, Bool.and_true, Bool.true_and, Bool.and_false, Bool.false_and, Bool.or_true, Bool.true_or, Bool.or_false, Bool.false_or, Bool.not_true, Bool.not_false, Nat.reduceAdd, Nat.reduceEqDiff, Bool.false_eq_true, decide_true, decide_false, reduceCtorEq, and_self, true_and, and_true, true_or, or_true, false_or, or_false, or_self, Nat.reducePow, Nat.reduceLeDiff, Nat.reduceSub, Int.reduceLT, Int.reduceLE, Int.reduceAdd, Int.reduceSub, Int.reduceMul, Int.reduceNeg, Int.reduceEq, List.length_map, List.length_append, e_it0, e_it1, e_it2, e_it3, e_it4, e_itt0, e_itt1, e_itt2, e_itt3, e_itt4, eq_self, Int.reduceToNat, false_and, and_false, Int.reducePow, e_pla, e_ple, h1, h1']

theorem item_ok {ds : List D} (h : ∀ d ∈ ds, okD d) {i : Nat} (hi : i < ds.length) : ∃ d, ds[i]? = some d ∧ okD d ∧ itemD (.lst ds) i = some d := by
  refine ⟨ds[i], List.getElem?_eq_getElem hi, h _ (List.getElem_mem hi), ?_⟩
  rw [item_l (by omega) (by omega)]
  simp [List.getElem?_eq_getElem hi]
def duS : Option Ex → Str
  | none => ""
  | some .place => "place"
  | _ => "journey"
theorem chk_app (a : Option D) (ds : List D) (d : D) (h : chk a ds = none) : chk a (ds ++ [d]) = (if isPl d = false then some .place else if eqT d ((ds.getLast?.or a).getD .non) = true then some .journey else none) := by
  induction ds generalizing a with
  | nil => rfl
  | cons e ds ih =>
    unfold chk at h
    split at h
    · cases h
    · rename_i h1
      split at h
      · cases h
      · rename_i h2
        have := ih (some e) h
        show (if isPl e = false then some Ex.place else if eqT e (a.getD .non) = true then some Ex.journey else chk (some e) (ds ++ [d])) = _
        rw [if_neg h1, if_neg h2, this]
        cases ds with
        | nil => rfl
        | cons x ds =>
          have e1 : ((x :: ds).getLast?.or (some e)) = (x :: ds).getLast? := by rw [List.getLast?_eq_some_getLast (by simp)]; rfl
          have e2 : ((e :: x :: ds).getLast?.or a) = (x :: ds).getLast? := by rw [List.getLast?_cons_cons, List.getLast?_eq_some_getLast (by simp)]; rfl
          rw [e1, e2]
theorem chk_pre (a : Option D) (ds es : List D) (c : Ex) (h : chk a ds = some c) : chk a (ds ++ es) = some c := by
  induction ds generalizing a with
  | nil => cases h
  | cons e ds ih =>
    unfold chk at h
    show (if isPl e = false then some Ex.place else if eqT e (a.getD .non) = true then some Ex.journey else chk (some e) (ds ++ es)) = _
    split at h
    · rename_i h1; rw [if_pos h1]; exact h
    · rename_i h1
      rw [if_neg h1]
      split at h
      · rename_i h2; rw [if_pos h2]; exact h
      · rename_i h2; rw [if_neg h2]; exact ih (some e) h
theorem law_due_ok (ds : List D) (h : ∀ d ∈ ds, okD d) : g_law_due [.lst ds] = .ok (.str (duS (duE ds))) := by
  unfold g_law_due d_law_due duE
  by_cases h1 : 2 ≤ ds.length
  · by_cases h2 : ds.length ≤ 40
    · have h1' : (2 : Int) ≤ ds.length := by omega
      have h2' : (ds.length : Int) ≤ 40 := by omega
      have hs := e_smr (i := ds.length) (by omega) (by omega)
      have key := forL_inv (i := 1) (k := .st) (body := b1_law_due)
        (fun n δ => (∃ x, δ = [.bo (.lst ds), x]) ∧ chk none (ds.take n) = none) (fun o => ∃ c, o = .rt (.str (duS (some c))) ∧ chk none ds = some c)
        (rng 0 1 (ds.length : Int).toNat) 0 [.bo (.lst ds), .un] ⟨⟨_, rfl⟩, by simp [chk]⟩ (by
          rintro k d δ hd ⟨⟨x, rfl⟩, hk⟩
          obtain ⟨hk2, rfl⟩ := get_rng1 hd
          rw [Nat.zero_add] at hk ⊢
          obtain ⟨d, hd1, hd2, hd3⟩ := item_ok h (i := k) (by omega)
          have hi := law_is_place_ok d hd2
          have ht := take_more' hd1
          have ha := chk_app none (ds.take k) d hk
          rw [← ht] at ha
          have hfin : ∀ c, chk none (ds.take (k + 1)) = some c → chk none ds = some c := fun c hc => by
            have := chk_pre none (ds.take (k + 1)) (ds.drop (k + 1)) c hc
            rwa [List.take_append_drop] at this
          refine ⟨_, e_its, ?_⟩
          unfold b1_law_due
          cases hp : isPl d with
          | false =>
            rw [hp] at hi ha
            simp only [e_var, e_sml, e_smr, e_sh, e_bo, e_ow, e_dp, e_an, e_con, e_opt, e_op, e_op2, e_op2e, e_op2f, e_un, e_op1, e_op1e, e_add, e_adds, e_addl, e_sub, e_mul, e_muls, e_mull, e_mulI, e_div, e_mod, e_lt, e_le, e_gt, e_ge, e_neg, e_not, e_isn, e_notn, e_nn, e_ni, e_ns, e_nb, e_nl, e_nt, e_eqs, e_eqi, e_eqb, e_eqn, e_eqni, e_eqin, e_eqns, e_eqsn, e_eqsi, e_eqis, e_eq, e_ne, e_in, e_nin, e_din, e_dnin, e_dget, e_dget1, e_and, e_andt, e_andf, e_ande, e_or, e_orf, e_ort, e_tst, e_ts, e_tse, e_band, e_bat, e_baf, e_bae, e_bor, e_bof, e_bot, e_boe, e_bnot, e_bn, e_bne, e_ife, e_iet, e_ief, e_ch, e_ch2, e_cht, e_chf, e_nil, e_cons, e_cn, e_cne, e_cnf, e_arg1, e_arg2, e_lst, e_lse, e_ls0, e_ls1, e_ls2, e_ls3, e_ls4, e_ls5, e_ls6, e_ls7, e_ls8, e_tup, e_tue, e_tu0, e_tu1, e_tu2, e_tu3, e_tu4, e_dnew, e_cb, e_cbo, e_cbe, e_lens, e_lenl, e_lent, e_lenc, e_list, e_listt, e_inti, e_intb, e_ints, e_max, e_min, e_kst, e_ktp, e_kdp, e_ki, e_ks, e_kb, e_kn, e_ktb, e_kta, e_xst, e_xtp, e_xdp, e_xbw, e_xan, e_xcb, e_xs, e_si, e_ss, e_sb, e_sn, e_slt, e_sls, e_slb, e_sdp, e_sst, e_its, e_itbl, e_ix, e_ixo, e_ixe, e_ixf, e_nop, e_som, e_smo, e_sl, e_slo, e_gsl, e_gss, e_rev, e_dg1, e_d1o, e_d1k, e_m1, e_m1o, e_call, e_cl, e_cle, e_re, e_ree, e_rt, e_rnx, e_rer, e_def0, e_def1, e_def2, e_def3, e_def4, e_def5, e_def6, e_seq, e_sqn, e_sqr, e_sqe, e_sqb, e_sqc, e_set, e_seo, e_see, e_se2, e_if, e_ift, e_iff, e_ifr, e_ret, e_rto, e_rte, e_exp, e_epo, e_epe, e_rai, e_frz, e_fro, e_frc, e_fzo, e_fzd, e_fzs, e_fzb, e_fzu, e_for, e_fos, e_fob, e_foe, e_lii, e_lio, e_tii, e_tio, e_sti, e_sto, e_r1, e_r1o, e_r2, e_r2o, e_comp, e_coo, e_cc, e_yes, e_na0, e_nas, e_nab, e_nao, e_nad, e_nau, e_naa, e_nae, e_ne0, e_nes, e_neb, e_neo, e_ned, e_neu, e_nea, e_nee, e_app, e_apo, e_sei, e_sio, e_si2, e_dput, e_dpi, e_dpb, e_dp2, e_try, e_tyn, e_tyr, e_tye, e_exs, e_exn, e_uns, e_unn, e_ber, e_ben, e_tka, e_tko, e_ise, e_ero, e_unp, e_unt, e_imi, e_ims, e_imb, e_imn, e_imt, e_im0, e_imc, List.map_cons, List.map_nil, List.cons_append, List.nil_append, List.replicate_succ, List.replicate_zero, List.length_cons, List.length_nil, List.getElem?_cons_zero, List.getElem?_cons_succ, List.set_cons_zero, List.set_cons_succ, Option.map_some, Option.map_none, Option.bind_some, Option.isSome_some, Option.isSome_none, if_true, if_false, reduceIte, Bool.and_true, Bool.true_and, Bool.and_false, Bool.false_and, Bool.or_true, Bool.true_or, Bool.or_false, Bool.false_or, Bool.not_true, Bool.not_false, Nat.reduceAdd, Nat.reduceEqDiff, Bool.false_eq_true, decide_true, decide_false, reduceCtorEq, and_self, true_and, and_true, true_or, or_true, false_or, or_false, or_self, Nat.reducePow, Nat.reduceLeDiff, Nat.reduceSub, Int.reduceLT, Int.reduceLE, Int.reduceAdd, Int.reduceSub, Int.reduceMul, Int.reduceNeg, Int.reduceEq, List.length_map, List.length_append, e_it0, e_it1, e_it2, e_it3, e_it4, e_itt0, e_itt1, e_itt2, e_itt3, e_itt4, eq_self, Int.reduceToNat, false_and, and_false, Int.reducePow, e_pla, e_ple, hd3, hi]
            exact ⟨.place, rfl, hfin _ ha⟩
          | true =>
            rw [hp] at hi ha
            by_cases hk0 : (0 : Int) < k
            · obtain ⟨e, he1, he2, he3⟩ := item_ok h (i := k - 1) (by omega)
              rw [show ((k - 1 : Nat) : Int) = (k : Int) - 1 by omega] at he3
              obtain ⟨b, hb⟩ := eqB_okD hd2 he2
              have hl : (ds.take k).getLast? = some e := by
                rw [List.getLast?_eq_getElem?, List.length_take, Nat.min_eq_left (by omega), List.getElem?_take_of_lt (by omega)]
                exact he1
              rw [hl] at ha
              cases b with
              | true =>
                simp only [e_var, e_sml, e_smr, e_sh, e_bo, e_ow, e_dp, e_an, e_con, e_opt, e_op, e_op2, e_op2e, e_op2f, e_un, e_op1, e_op1e, e_add, e_adds, e_addl, e_sub, e_mul, e_muls, e_mull, e_mulI, e_div, e_mod, e_lt, e_le, e_gt, e_ge, e_neg, e_not, e_isn, e_notn, e_nn, e_ni, e_ns, e_nb, e_nl, e_nt, e_eqs, e_eqi, e_eqb, e_eqn, e_eqni, e_eqin, e_eqns, e_eqsn, e_eqsi, e_eqis, e_eq, e_ne, e_in, e_nin, e_din, e_dnin, e_dget, e_dget1, e_and, e_andt, e_andf, e_ande, e_or, e_orf, e_ort, e_tst, e_ts, e_tse, e_band, e_bat, e_baf, e_bae, e_bor, e_bof, e_bot, e_boe, e_bnot, e_bn, e_bne, e_ife, e_iet, e_ief, e_ch, e_ch2, e_cht, e_chf, e_nil, e_cons, e_cn, e_cne, e_cnf, e_arg1, e_arg2, e_lst, e_lse, e_ls0, e_ls1, e_ls2, e_ls3, e_ls4, e_ls5, e_ls6, e_ls7, e_ls8, e_tup, e_tue, e_tu0, e_tu1, e_tu2, e_tu3, e_tu4, e_dnew, e_cb, e_cbo, e_cbe, e_lens, e_lenl, e_lent, e_lenc, e_list, e_listt, e_inti, e_intb, e_ints, e_max, e_min, e_kst, e_ktp, e_kdp, e_ki, e_ks, e_kb, e_kn, e_ktb, e_kta, e_xst, e_xtp, e_xdp, e_xbw, e_xan, e_xcb, e_xs, e_si, e_ss, e_sb, e_sn, e_slt, e_sls, e_slb, e_sdp, e_sst, e_its, e_itbl, e_ix, e_ixo, e_ixe, e_ixf, e_nop, e_som, e_smo, e_sl, e_slo, e_gsl, e_gss, e_rev, e_dg1, e_d1o, e_d1k, e_m1, e_m1o, e_call, e_cl, e_cle, e_re, e_ree, e_rt, e_rnx, e_rer, e_def0, e_def1, e_def2, e_def3, e_def4, e_def5, e_def6, e_seq, e_sqn, e_sqr, e_sqe, e_sqb, e_sqc, e_set, e_seo, e_see, e_se2, e_if, e_ift, e_iff, e_ifr, e_ret, e_rto, e_rte, e_exp, e_epo, e_epe, e_rai, e_frz, e_fro, e_frc, e_fzo, e_fzd, e_fzs, e_fzb, e_fzu, e_for, e_fos, e_fob, e_foe, e_lii, e_lio, e_tii, e_tio, e_sti, e_sto, e_r1, e_r1o, e_r2, e_r2o, e_comp, e_coo, e_cc, e_yes, e_na0, e_nas, e_nab, e_nao, e_nad, e_nau, e_naa, e_nae, e_ne0, e_nes, e_neb, e_neo, e_ned, e_neu, e_nea, e_nee, e_app, e_apo, e_sei, e_sio, e_si2, e_dput, e_dpi, e_dpb, e_dp2, e_try, e_tyn, e_tyr, e_tye, e_exs, e_exn, e_uns, e_unn, e_ber, e_ben, e_tka, e_tko, e_ise, e_ero, e_unp, e_unt, e_imi, e_ims, e_imb, e_imn, e_imt, e_im0, e_imc, List.map_cons, List.map_nil, List.cons_append, List.nil_append, List.replicate_succ, List.replicate_zero, List.length_cons, List.length_nil, List.getElem?_cons_zero, List.getElem?_cons_succ, List.set_cons_zero, List.set_cons_succ, Option.map_some, Option.map_none, Option.bind_some, Option.isSome_some, Option.isSome_none, if_true, if_false, reduceIte, Bool.and_true, Bool.true_and, Bool.and_false, Bool.false_and, Bool.or_true, Bool.true_or, Bool.or_false, Bool.false_or, Bool.not_true, Bool.not_false, Nat.reduceAdd, Nat.reduceEqDiff, Bool.false_eq_true, decide_true, decide_false, reduceCtorEq, and_self, true_and, and_true, true_or, or_true, false_or, or_false, or_self, Nat.reducePow, Nat.reduceLeDiff, Nat.reduceSub, Int.reduceLT, Int.reduceLE, Int.reduceAdd, Int.reduceSub, Int.reduceMul, Int.reduceNeg, Int.reduceEq, List.length_map, List.length_append, e_it0, e_it1, e_it2, e_it3, e_it4, e_itt0, e_itt1, e_itt2, e_itt3, e_itt4, eq_self, Int.reduceToNat, false_and, and_false, Int.reducePow, e_pla, e_ple, hd3, hi, hk0, he3, hb]
                refine ⟨.journey, rfl, hfin _ ?_⟩
                rw [ha]
                simp [eqT_of hb]
              | false =>
                simp only [e_var, e_sml, e_smr, e_sh, e_bo, e_ow, e_dp, e_an, e_con, e_opt, e_op, e_op2, e_op2e, e_op2f, e_un, e_op1, e_op1e, e_add, e_adds, e_addl, e_sub, e_mul, e_muls, e_mull, e_mulI, e_div, e_mod, e_lt, e_le, e_gt, e_ge, e_neg, e_not, e_isn, e_notn, e_nn, e_ni, e_ns, e_nb, e_nl, e_nt, e_eqs, e_eqi, e_eqb, e_eqn, e_eqni, e_eqin, e_eqns, e_eqsn, e_eqsi, e_eqis, e_eq, e_ne, e_in, e_nin, e_din, e_dnin, e_dget, e_dget1, e_and, e_andt, e_andf, e_ande, e_or, e_orf, e_ort, e_tst, e_ts, e_tse, e_band, e_bat, e_baf, e_bae, e_bor, e_bof, e_bot, e_boe, e_bnot, e_bn, e_bne, e_ife, e_iet, e_ief, e_ch, e_ch2, e_cht, e_chf, e_nil, e_cons, e_cn, e_cne, e_cnf, e_arg1, e_arg2, e_lst, e_lse, e_ls0, e_ls1, e_ls2, e_ls3, e_ls4, e_ls5, e_ls6, e_ls7, e_ls8, e_tup, e_tue, e_tu0, e_tu1, e_tu2, e_tu3, e_tu4, e_dnew, e_cb, e_cbo, e_cbe, e_lens, e_lenl, e_lent, e_lenc, e_list, e_listt, e_inti, e_intb, e_ints, e_max, e_min, e_kst, e_ktp, e_kdp, e_ki, e_ks, e_kb, e_kn, e_ktb, e_kta, e_xst, e_xtp, e_xdp, e_xbw, e_xan, e_xcb, e_xs, e_si, e_ss, e_sb, e_sn, e_slt, e_sls, e_slb, e_sdp, e_sst, e_its, e_itbl, e_ix, e_ixo, e_ixe, e_ixf, e_nop, e_som, e_smo, e_sl, e_slo, e_gsl, e_gss, e_rev, e_dg1, e_d1o, e_d1k, e_m1, e_m1o, e_call, e_cl, e_cle, e_re, e_ree, e_rt, e_rnx, e_rer, e_def0, e_def1, e_def2, e_def3, e_def4, e_def5, e_def6, e_seq, e_sqn, e_sqr, e_sqe, e_sqb, e_sqc, e_set, e_seo, e_see, e_se2, e_if, e_ift, e_iff, e_ifr, e_ret, e_rto, e_rte, e_exp, e_epo, e_epe, e_rai, e_frz, e_fro, e_frc, e_fzo, e_fzd, e_fzs, e_fzb, e_fzu, e_for, e_fos, e_fob, e_foe, e_lii, e_lio, e_tii, e_tio, e_sti, e_sto, e_r1, e_r1o, e_r2, e_r2o, e_comp, e_coo, e_cc, e_yes, e_na0, e_nas, e_nab, e_nao, e_nad, e_nau, e_naa, e_nae, e_ne0, e_nes, e_neb, e_neo, e_ned, e_neu, e_nea, e_nee, e_app, e_apo, e_sei, e_sio, e_si2, e_dput, e_dpi, e_dpb, e_dp2, e_try, e_tyn, e_tyr, e_tye, e_exs, e_exn, e_uns, e_unn, e_ber, e_ben, e_tka, e_tko, e_ise, e_ero, e_unp, e_unt, e_imi, e_ims, e_imb, e_imn, e_imt, e_im0, e_imc, List.map_cons, List.map_nil, List.cons_append, List.nil_append, List.replicate_succ, List.replicate_zero, List.length_cons, List.length_nil, List.getElem?_cons_zero, List.getElem?_cons_succ, List.set_cons_zero, List.set_cons_succ, Option.map_some, Option.map_none, Option.bind_some, Option.isSome_some, Option.isSome_none, if_true, if_false, reduceIte, Bool.and_true, Bool.true_and, Bool.and_false, Bool.false_and, Bool.or_true, Bool.true_or, Bool.or_false, Bool.false_or, Bool.not_true, Bool.not_false, Nat.reduceAdd, Nat.reduceEqDiff, Bool.false_eq_true, decide_true, decide_false, reduceCtorEq, and_self, true_and, and_true, true_or, or_true, false_or, or_false, or_self, Nat.reducePow, Nat.reduceLeDiff, Nat.reduceSub, Int.reduceLT, Int.reduceLE, Int.reduceAdd, Int.reduceSub, Int.reduceMul, Int.reduceNeg, Int.reduceEq, List.length_map, List.length_append, e_it0, e_it1, e_it2, e_it3, e_it4, e_itt0, e_itt1, e_itt2, e_itt3, e_itt4, eq_self, Int.reduceToNat, false_and, and_false, Int.reducePow, e_pla, e_ple, hd3, hi, hk0, he3, hb]
                refine ⟨⟨_, rfl⟩, ?_⟩
                rw [ha]
                simp [eqT_of hb, hb]
            · have : k = 0 := by omega
              subst this
              simp only [e_var, e_sml, e_smr, e_sh, e_bo, e_ow, e_dp, e_an, e_con, e_opt, e_op, e_op2, e_op2e, e_op2f, e_un, e_op1, e_op1e, e_add, e_adds, e_addl, e_sub, e_mul, e_muls, e_mull, e_mulI, e_div, e_mod, e_lt, e_le, e_gt, e_ge, e_neg, e_not, e_isn, e_notn, e_nn, e_ni, e_ns, e_nb, e_nl, e_nt, e_eqs, e_eqi, e_eqb, e_eqn, e_eqni, e_eqin, e_eqns, e_eqsn, e_eqsi, e_eqis, e_eq, e_ne, e_in, e_nin, e_din, e_dnin, e_dget, e_dget1, e_and, e_andt, e_andf, e_ande, e_or, e_orf, e_ort, e_tst, e_ts, e_tse, e_band, e_bat, e_baf, e_bae, e_bor, e_bof, e_bot, e_boe, e_bnot, e_bn, e_bne, e_ife, e_iet, e_ief, e_ch, e_ch2, e_cht, e_chf, e_nil, e_cons, e_cn, e_cne, e_cnf, e_arg1, e_arg2, e_lst, e_lse, e_ls0, e_ls1, e_ls2, e_ls3, e_ls4, e_ls5, e_ls6, e_ls7, e_ls8, e_tup, e_tue, e_tu0, e_tu1, e_tu2, e_tu3, e_tu4, e_dnew, e_cb, e_cbo, e_cbe, e_lens, e_lenl, e_lent, e_lenc, e_list, e_listt, e_inti, e_intb, e_ints, e_max, e_min, e_kst, e_ktp, e_kdp, e_ki, e_ks, e_kb, e_kn, e_ktb, e_kta, e_xst, e_xtp, e_xdp, e_xbw, e_xan, e_xcb, e_xs, e_si, e_ss, e_sb, e_sn, e_slt, e_sls, e_slb, e_sdp, e_sst, e_its, e_itbl, e_ix, e_ixo, e_ixe, e_ixf, e_nop, e_som, e_smo, e_sl, e_slo, e_gsl, e_gss, e_rev, e_dg1, e_d1o, e_d1k, e_m1, e_m1o, e_call, e_cl, e_cle, e_re, e_ree, e_rt, e_rnx, e_rer, e_def0, e_def1, e_def2, e_def3, e_def4, e_def5, e_def6, e_seq, e_sqn, e_sqr, e_sqe, e_sqb, e_sqc, e_set, e_seo, e_see, e_se2, e_if, e_ift, e_iff, e_ifr, e_ret, e_rto, e_rte, e_exp, e_epo, e_epe, e_rai, e_frz, e_fro, e_frc, e_fzo, e_fzd, e_fzs, e_fzb, e_fzu, e_for, e_fos, e_fob, e_foe, e_lii, e_lio, e_tii, e_tio, e_sti, e_sto, e_r1, e_r1o, e_r2, e_r2o, e_comp, e_coo, e_cc, e_yes, e_na0, e_nas, e_nab, e_nao, e_nad, e_nau, e_naa, e_nae, e_ne0, e_nes, e_neb, e_neo, e_ned, e_neu, e_nea, e_nee, e_app, e_apo, e_sei, e_sio, e_si2, e_dput, e_dpi, e_dpb, e_dp2, e_try, e_tyn, e_tyr, e_tye, e_exs, e_exn, e_uns, e_unn, e_ber, e_ben, e_tka, e_tko, e_ise, e_ero, e_unp, e_unt, e_imi, e_ims, e_imb, e_imn, e_imt, e_im0, e_imc, List.map_cons, List.map_nil, List.cons_append, List.nil_append, List.replicate_succ, List.replicate_zero, List.length_cons, List.length_nil, List.getElem?_cons_zero, List.getElem?_cons_succ, List.set_cons_zero, List.set_cons_succ, Option.map_some, Option.map_none, Option.bind_some, Option.isSome_some, Option.isSome_none, if_true, if_false, reduceIte, Bool.and_true, Bool.true_and, Bool.and_false, Bool.false_and, Bool.or_true, Bool.true_or, Bool.or_false, Bool.false_or, Bool.not_true, Bool.not_false, Nat.reduceAdd, Nat.reduceEqDiff, Bool.false_eq_true, decide_true, decide_false, reduceCtorEq, and_self, true_and, and_true, true_or, or_true, false_or, or_false, or_self, Nat.reducePow, Nat.reduceLeDiff, Nat.reduceSub, Int.reduceLT, Int.reduceLE, Int.reduceAdd, Int.reduceSub, Int.reduceMul, Int.reduceNeg, Int.reduceEq, List.length_map, List.length_append, e_it0, e_it1, e_it2, e_it3, e_it4, e_itt0, e_itt1, e_itt2, e_itt3, e_itt4, eq_self, Int.reduceToNat, false_and, and_false, Int.reducePow, e_pla, e_ple, hd3, hi, hk0]
              refine ⟨⟨_, rfl⟩, ?_⟩
              rw [ha]
              have : eqT d .non = false := by
                cases d <;> first | exact hd2.elim | rfl | cases hp
              simp [this])
      simp only [e_var, e_sml, e_smr, e_sh, e_bo, e_ow, e_dp, e_an, e_con, e_opt, e_op, e_op2, e_op2e, e_op2f, e_un, e_op1, e_op1e, e_add, e_adds, e_addl, e_sub, e_mul, e_muls, e_mull, e_mulI, e_div, e_mod, e_lt, e_le, e_gt, e_ge, e_neg, e_not, e_isn, e_notn, e_nn, e_ni, e_ns, e_nb, e_nl, e_nt, e_eqs, e_eqi, e_eqb, e_eqn, e_eqni, e_eqin, e_eqns, e_eqsn, e_eqsi, e_eqis, e_eq, e_ne, e_in, e_nin, e_din, e_dnin, e_dget, e_dget1, e_and, e_andt, e_andf, e_ande, e_or, e_orf, e_ort, e_tst, e_ts, e_tse, e_band, e_bat, e_baf, e_bae, e_bor, e_bof, e_bot, e_boe, e_bnot, e_bn, e_bne, e_ife, e_iet, e_ief, e_ch, e_ch2, e_cht, e_chf, e_nil, e_cons, e_cn, e_cne, e_cnf, e_arg1, e_arg2, e_lst, e_lse, e_ls0, e_ls1, e_ls2, e_ls3, e_ls4, e_ls5, e_ls6, e_ls7, e_ls8, e_tup, e_tue, e_tu0, e_tu1, e_tu2, e_tu3, e_tu4, e_dnew, e_cb, e_cbo, e_cbe, e_lens, e_lenl, e_lent, e_lenc, e_list, e_listt, e_inti, e_intb, e_ints, e_max, e_min, e_kst, e_ktp, e_kdp, e_ki, e_ks, e_kb, e_kn, e_ktb, e_kta, e_xst, e_xtp, e_xdp, e_xbw, e_xan, e_xcb, e_xs, e_si, e_ss, e_sb, e_sn, e_slt, e_sls, e_slb, e_sdp, e_sst, e_its, e_itbl, e_ix, e_ixo, e_ixe, e_ixf, e_nop, e_som, e_smo, e_sl, e_slo, e_gsl, e_gss, e_rev, e_dg1, e_d1o, e_d1k, e_m1, e_m1o, e_call, e_cl, e_cle, e_re, e_ree, e_rt, e_rnx, e_rer, e_def0, e_def1, e_def2, e_def3, e_def4, e_def5, e_def6, e_seq, e_sqn, e_sqr, e_sqe, e_sqb, e_sqc, e_set, e_seo, e_see, e_se2, e_if, e_ift, e_iff, e_ifr, e_ret, e_rto, e_rte, e_exp, e_epo, e_epe, e_rai, e_frz, e_fro, e_frc, e_fzo, e_fzd, e_fzs, e_fzb, e_fzu, e_for, e_fos, e_fob, e_foe, e_lii, e_lio, e_tii, e_tio, e_sti, e_sto, e_r1, e_r1o, e_r2, e_r2o, e_comp, e_coo, e_cc, e_yes, e_na0, e_nas, e_nab, e_nao, e_nad, e_nau, e_naa, e_nae, e_ne0, e_nes, e_neb, e_neo, e_ned, e_neu, e_nea, e_nee, e_app, e_apo, e_sei, e_sio, e_si2, e_dput, e_dpi, e_dpb, e_dp2, e_try, e_tyn, e_tyr, e_tye, e_exs, e_exn, e_uns, e_unn, e_ber, e_ben, e_tka, e_tko, e_ise, e_ero, e_unp, e_unt, e_imi, e_ims, e_imb, e_imn, e_imt, e_im0, e_imc, List.map_cons, List.map_nil, List.cons_append, List.nil_append, List.replicate_succ, List.replicate_zero, List.length_cons, List.length_nil, List.getElem?_cons_zero, List.getElem?_cons_succ, List.set_cons_zero, List.set_cons_succ, Option.map_some, Option.map_none, Option.bind_some, Option.isSome_some, Option.isSome_none, if_true, if_false, reduceIte, Bool.and_true, Bool.true_and, Bool.and_false, Bool.false_and, Bool.or_true, Bool.true_or, Bool.or_false, Bool.false_or, Bool.not_true, Bool.not_false, Nat.reduceAdd, Nat.reduceEqDiff, Bool.false_eq_true, decide_true, decide_false, reduceCtorEq, and_self, true_and, and_true, true_or, or_true, false_or, or_false, or_self, Nat.reducePow, Nat.reduceLeDiff, Nat.reduceSub, Int.reduceLT, Int.reduceLE, Int.reduceAdd, Int.reduceSub, Int.reduceMul, Int.reduceNeg, Int.reduceEq, List.length_map, List.length_append, e_it0, e_it1, e_it2, e_it3, e_it4, e_itt0, e_itt1, e_itt2, e_itt3, e_itt4, eq_self, Int.reduceToNat, false_and, and_false, Int.reducePow, e_pla, e_ple, h1, h2, h1', h2', hs]
      rcases key with ⟨δ', k1, ⟨x, rfl⟩, k2⟩ | ⟨c, k1, k2⟩
      · simp only [e_var, e_sml, e_smr, e_sh, e_bo, e_ow, e_dp, e_an, e_con, e_opt, e_op, e_op2, e_op2e, e_op2f, e_un, e_op1, e_op1e, e_add, e_adds, e_addl, e_sub, e_mul, e_muls, e_mull, e_mulI, e_div, e_mod, e_lt, e_le, e_gt, e_ge, e_neg, e_not, e_isn, e_notn, e_nn, e_ni, e_ns, e_nb, e_nl, e_nt, e_eqs, e_eqi, e_eqb, e_eqn, e_eqni, e_eqin, e_eqns, e_eqsn, e_eqsi, e_eqis, e_eq, e_ne, e_in, e_nin, e_din, e_dnin, e_dget, e_dget1, e_and, e_andt, e_andf, e_ande, e_or, e_orf, e_ort, e_tst, e_ts, e_tse, e_band, e_bat, e_baf, e_bae, e_bor, e_bof, e_bot, e_boe, e_bnot, e_bn, e_bne, e_ife, e_iet, e_ief, e_ch, e_ch2, e_cht, e_chf, e_nil, e_cons, e_cn, e_cne, e_cnf, e_arg1, e_arg2, e_lst, e_lse, e_ls0, e_ls1, e_ls2, e_ls3, e_ls4, e_ls5, e_ls6, e_ls7, e_ls8, e_tup, e_tue, e_tu0, e_tu1, e_tu2, e_tu3, e_tu4, e_dnew, e_cb, e_cbo, e_cbe, e_lens, e_lenl, e_lent, e_lenc, e_list, e_listt, e_inti, e_intb, e_ints, e_max, e_min, e_kst, e_ktp, e_kdp, e_ki, e_ks, e_kb, e_kn, e_ktb, e_kta, e_xst, e_xtp, e_xdp, e_xbw, e_xan, e_xcb, e_xs, e_si, e_ss, e_sb, e_sn, e_slt, e_sls, e_slb, e_sdp, e_sst, e_its, e_itbl, e_ix, e_ixo, e_ixe, e_ixf, e_nop, e_som, e_smo, e_sl, e_slo, e_gsl, e_gss, e_rev, e_dg1, e_d1o, e_d1k, e_m1, e_m1o, e_call, e_cl, e_cle, e_re, e_ree, e_rt, e_rnx, e_rer, e_def0, e_def1, e_def2, e_def3, e_def4, e_def5, e_def6, e_seq, e_sqn, e_sqr, e_sqe, e_sqb, e_sqc, e_set, e_seo, e_see, e_se2, e_if, e_ift, e_iff, e_ifr, e_ret, e_rto, e_rte, e_exp, e_epo, e_epe, e_rai, e_frz, e_fro, e_frc, e_fzo, e_fzd, e_fzs, e_fzb, e_fzu, e_for, e_fos, e_fob, e_foe, e_lii, e_lio, e_tii, e_tio, e_sti, e_sto, e_r1, e_r1o, e_r2, e_r2o, e_comp, e_coo, e_cc, e_yes, e_na0, e_nas, e_nab, e_nao, e_nad, e_nau, e_naa, e_nae, e_ne0, e_nes, e_neb, e_neo, e_ned, e_neu, e_nea, e_nee, e_app, e_apo, e_sei, e_sio, e_si2, e_dput, e_dpi, e_dpb, e_dp2, e_try, e_tyn, e_tyr, e_tye, e_exs, e_exn, e_uns, e_unn, e_ber, e_ben, e_tka, e_tko, e_ise, e_ero, e_unp, e_unt, e_imi, e_ims, e_imb, e_imn, e_imt, e_im0, e_imc, List.map_cons, List.map_nil, List.cons_append, List.nil_append, List.replicate_succ, List.replicate_zero, List.length_cons, List.length_nil, List.getElem?_cons_zero, List.getElem?_cons_succ, List.set_cons_zero, List.set_cons_succ, Option.map_some, Option.map_none, Option.bind_some, Option.isSome_some, Option.isSome_none, if_true, if_false, reduceIte, Bool.and_true, Bool.true_and, Bool.and_false, Bool.false_and, Bool.or_true, Bool.true_or, Bool.or_false, Bool.false_or, Bool.not_true, Bool.not_false, Nat.reduceAdd, Nat.reduceEqDiff, Bool.false_eq_true, decide_true, decide_false, reduceCtorEq, and_self, true_and, and_true, true_or, or_true, false_or, or_false, or_self, Nat.reducePow, Nat.reduceLeDiff, Nat.reduceSub, Int.reduceLT, Int.reduceLE, Int.reduceAdd, Int.reduceSub, Int.reduceMul, Int.reduceNeg, Int.reduceEq, List.length_map, List.length_append, e_it0, e_it1, e_it2, e_it3, e_it4, e_itt0, e_itt1, e_itt2, e_itt3, e_itt4, eq_self, Int.reduceToNat, false_and, and_false, Int.reducePow, e_pla, e_ple, k1]
        rw [Nat.zero_add, rng_len, List.take_of_length_le (by omega)] at k2
        rw [k2]
        rfl
      · simp only [e_var, e_sml, e_smr, e_sh, e_bo, e_ow, e_dp, e_an, e_con, e_opt, e_op, e_op2, e_op2e, e_op2f, e_un, e_op1, e_op1e, e_add, e_adds, e_addl, e_sub, e_mul, e_muls, e_mull, e_mulI, e_div, e_mod, e_lt, e_le, e_gt, e_ge, e_neg, e_not, e_isn, e_notn, e_nn, e_ni, e_ns, e_nb, e_nl, e_nt, e_eqs, e_eqi, e_eqb, e_eqn, e_eqni, e_eqin, e_eqns, e_eqsn, e_eqsi, e_eqis, e_eq, e_ne, e_in, e_nin, e_din, e_dnin, e_dget, e_dget1, e_and, e_andt, e_andf, e_ande, e_or, e_orf, e_ort, e_tst, e_ts, e_tse, e_band, e_bat, e_baf, e_bae, e_bor, e_bof, e_bot, e_boe, e_bnot, e_bn, e_bne, e_ife, e_iet, e_ief, e_ch, e_ch2, e_cht, e_chf, e_nil, e_cons, e_cn, e_cne, e_cnf, e_arg1, e_arg2, e_lst, e_lse, e_ls0, e_ls1, e_ls2, e_ls3, e_ls4, e_ls5, e_ls6, e_ls7, e_ls8, e_tup, e_tue, e_tu0, e_tu1, e_tu2, e_tu3, e_tu4, e_dnew, e_cb, e_cbo, e_cbe, e_lens, e_lenl, e_lent, e_lenc, e_list, e_listt, e_inti, e_intb, e_ints, e_max, e_min, e_kst, e_ktp, e_kdp, e_ki, e_ks, e_kb, e_kn, e_ktb, e_kta, e_xst, e_xtp, e_xdp, e_xbw, e_xan, e_xcb, e_xs, e_si, e_ss, e_sb, e_sn, e_slt, e_sls, e_slb, e_sdp, e_sst, e_its, e_itbl, e_ix, e_ixo, e_ixe, e_ixf, e_nop, e_som, e_smo, e_sl, e_slo, e_gsl, e_gss, e_rev, e_dg1, e_d1o, e_d1k, e_m1, e_m1o, e_call, e_cl, e_cle, e_re, e_ree, e_rt, e_rnx, e_rer, e_def0, e_def1, e_def2, e_def3, e_def4, e_def5, e_def6, e_seq, e_sqn, e_sqr, e_sqe, e_sqb, e_sqc, e_set, e_seo, e_see, e_se2, e_if, e_ift, e_iff, e_ifr, e_ret, e_rto, e_rte, e_exp, e_epo, e_epe, e_rai, e_frz, e_fro, e_frc, e_fzo, e_fzd, e_fzs, e_fzb, e_fzu, e_for, e_fos, e_fob, e_foe, e_lii, e_lio, e_tii, e_tio, e_sti, e_sto, e_r1, e_r1o, e_r2, e_r2o, e_comp, e_coo, e_cc, e_yes, e_na0, e_nas, e_nab, e_nao, e_nad, e_nau, e_naa, e_nae, e_ne0, e_nes, e_neb, e_neo, e_ned, e_neu, e_nea, e_nee, e_app, e_apo, e_sei, e_sio, e_si2, e_dput, e_dpi, e_dpb, e_dp2, e_try, e_tyn, e_tyr, e_tye, e_exs, e_exn, e_uns, e_unn, e_ber, e_ben, e_tka, e_tko, e_ise, e_ero, e_unp, e_unt, e_imi, e_ims, e_imb, e_imn, e_imt, e_im0, e_imc, List.map_cons, List.map_nil, List.cons_append, List.nil_append, List.replicate_succ, List.replicate_zero, List.length_cons, List.length_nil, List.getElem?_cons_zero, List.getElem?_cons_succ, List.set_cons_zero, List.set_cons_succ, Option.map_some, Option.map_none, Option.bind_some, Option.isSome_some, Option.isSome_none, if_true, if_false, reduceIte, Bool.and_true, Bool.true_and, Bool.and_false, Bool.false_and, Bool.or_true, Bool.true_or, Bool.or_false, Bool.false_or, Bool.not_true, Bool.not_false, Nat.reduceAdd, Nat.reduceEqDiff, Bool.false_eq_true, decide_true, decide_false, reduceCtorEq, and_self, true_and, and_true, true_or, or_true, false_or, or_false, or_self, Nat.reducePow, Nat.reduceLeDiff, Nat.reduceSub, Int.reduceLT, Int.reduceLE, Int.reduceAdd, Int.reduceSub, Int.reduceMul, Int.reduceNeg, Int.reduceEq, List.length_map, List.length_append, e_it0, e_it1, e_it2, e_it3, e_it4, e_itt0, e_itt1, e_itt2, e_itt3, e_itt4, eq_self, Int.reduceToNat, false_and, and_false, Int.reducePow, e_pla, e_ple, k1]
        rw [k2]
    · have h1' : (2 : Int) ≤ ds.length := by omega
      have h2' : ¬ (ds.length : Int) ≤ 40 := by omega
      simp only [e_var, e_sml, e_smr, e_sh, e_bo, e_ow, e_dp, e_an, e_con, e_opt, e_op, e_op2, e_op2e, e_op2f, e_un, e_op1, e_op1e, e_add, e_adds, e_addl, e_sub, e_mul, e_muls, e_mull, e_mulI, e_div, e_mod, e_lt, e_le, e_gt, e_ge, e_neg, e_not, e_isn, e_notn, e_nn, e_ni, e_ns, e_nb, e_nl, e_nt, e_eqs, e_eqi, e_eqb, e_eqn, e_eqni, e_eqin, e_eqns, e_eqsn, e_eqsi, e_eqis, e_eq, e_ne, e_in, e_nin, e_din, e_dnin, e_dget, e_dget1, e_and, e_andt, e_andf, e_ande, e_or, e_orf, e_ort, e_tst, e_ts, e_tse, e_band, e_bat, e_baf, e_bae, e_bor, e_bof, e_bot, e_boe, e_bnot, e_bn, e_bne, e_ife, e_iet, e_ief, e_ch, e_ch2, e_cht, e_chf, e_nil, e_cons, e_cn, e_cne, e_cnf, e_arg1, e_arg2, e_lst, e_lse, e_ls0, e_ls1, e_ls2, e_ls3, e_ls4, e_ls5, e_ls6, e_ls7, e_ls8, e_tup, e_tue, e_tu0, e_tu1, e_tu2, e_tu3, e_tu4, e_dnew, e_cb, e_cbo, e_cbe, e_lens, e_lenl, e_lent, e_lenc, e_list, e_listt, e_inti, e_intb, e_ints, e_max, e_min, e_kst, e_ktp, e_kdp, e_ki, e_ks, e_kb, e_kn, e_ktb, e_kta, e_xst, e_xtp, e_xdp, e_xbw, e_xan, e_xcb, e_xs, e_si, e_ss, e_sb, e_sn, e_slt, e_sls, e_slb, e_sdp, e_sst, e_its, e_itbl, e_ix, e_ixo, e_ixe, e_ixf, e_nop, e_som, e_smo, e_sl, e_slo, e_gsl, e_gss, e_rev, e_dg1, e_d1o, e_d1k, e_m1, e_m1o, e_call, e_cl, e_cle, e_re, e_ree, e_rt, e_rnx, e_rer, e_def0, e_def1, e_def2, e_def3, e_def4, e_def5, e_def6, e_seq, e_sqn, e_sqr, e_sqe, e_sqb, e_sqc, e_set, e_seo, e_see, e_se2, e_if, e_ift, e_iff, e_ifr, e_ret, e_rto, e_rte, e_exp, e_epo, e_epe, e_rai, e_frz, e_fro, e_frc, e_fzo, e_fzd, e_fzs, e_fzb, e_fzu, e_for, e_fos, e_fob, e_foe, e_lii, e_lio, e_tii, e_tio, e_sti, e_sto, e_r1, e_r1o, e_r2, e_r2o, e_comp, e_coo, e_cc, e_yes, e_na0, e_nas, e_nab, e_nao, e_nad, e_nau, e_naa, e_nae, e_ne0, e_nes, e_neb, e_neo, e_ned, e_neu, e_nea, e_nee, e_app, e_apo, e_sei, e_sio, e_si2, e_dput, e_dpi, e_dpb, e_dp2, e_try, e_tyn, e_tyr, e_tye, e_exs, e_exn, e_uns, e_unn, e_ber, e_ben, e_tka, e_tko, e_ise, e_ero, e_unp, e_unt, e_imi, e_ims, e_imb, e_imn, e_imt, e_im0, e_imc, List.map_cons, List.map_nil, List.cons_append, List.nil_append, List.replicate_succ, List.replicate_zero, List.length_cons, List.length_nil, List.getElem?_cons_zero, List.getElem?_cons_succ, List.set_cons_zero, List.set_cons_succ, Option.map_some, Option.map_none, Option.bind_some, Option.isSome_some, Option.isSome_none, if_true, if_false, reduceIte, Bool.and_true, Bool.true_and, Bool.and_false, Bool.false_and, Bool.or_true, Bool.true_or, Bool.or_false, Bool.false_or, Bool.not_true, Bool.not_false, Nat.reduceAdd, Nat.reduceEqDiff, Bool.false_eq_true, decide_true, decide_false, reduceCtorEq, and_self, true_and, and_true, true_or, or_true, false_or, or_false, or_self, Nat.reducePow, Nat.reduceLeDiff, Nat.reduceSub, Int.reduceLT, Int.reduceLE, Int.reduceAdd, Int.reduceSub, Int.reduceMul, Int.reduceNeg, Int.reduceEq, List.length_map, List.length_append, e_it0, e_it1, e_it2, e_it3, e_it4, e_itt0, e_itt1, e_itt2, e_itt3, e_itt4, eq_self, Int.reduceToNat, false_and, and_false, Int.reducePow, e_pla, e_ple, h1, h2, h1', h2']
      rfl
  · have h1' : ¬ (2 : Int) ≤ ds.length := by omega
    simp only [e_var, e_sml, e_smr, e_sh, e_bo, e_ow, e_dp, e_an, e_con, e_opt, e_op, e_op2, e_op2e, e_op2f, e_un, e_op1, e_op1e, e_add, e_adds, e_addl, e_sub, e_mul, e_muls, e_mull, e_mulI, e_div, e_mod, e_lt, e_le, e_gt, e_ge, e_neg, e_not, e_isn, e_notn, e_nn, e_ni, e_ns, e_nb, e_nl, e_nt, e_eqs, e_eqi, e_eqb, e_eqn, e_eqni, e_eqin, e_eqns, e_eqsn, e_eqsi, e_eqis, e_eq, e_ne, e_in, e_nin, e_din, e_dnin, e_dget, e_dget1, e_and, e_andt, e_andf, e_ande, e_or, e_orf, e_ort, e_tst, e_ts, e_tse, e_band, e_bat, e_baf, e_bae, e_bor, e_bof, e_bot, e_boe, e_bnot, e_bn, e_bne, e_ife, e_iet, e_ief, e_ch, e_ch2, e_cht, e_chf, e_nil, e_cons, e_cn, e_cne, e_cnf, e_arg1, e_arg2, e_lst, e_lse, e_ls0, e_ls1, e_ls2, e_ls3, e_ls4, e_ls5, e_ls6, e_ls7, e_ls8, e_tup, e_tue, e_tu0, e_tu1, e_tu2, e_tu3, e_tu4, e_dnew, e_cb, e_cbo, e_cbe, e_lens, e_lenl, e_lent, e_lenc, e_list, e_listt, e_inti, e_intb, e_ints, e_max, e_min, e_kst, e_ktp, e_kdp, e_ki, e_ks, e_kb, e_kn, e_ktb, e_kta, e_xst, e_xtp, e_xdp, e_xbw, e_xan, e_xcb, e_xs, e_si, e_ss, e_sb, e_sn, e_slt, e_sls, e_slb, e_sdp, e_sst, e_its, e_itbl, e_ix, e_ixo, e_ixe, e_ixf, e_nop, e_som, e_smo, e_sl, e_slo, e_gsl, e_gss, e_rev, e_dg1, e_d1o, e_d1k, e_m1, e_m1o, e_call, e_cl, e_cle, e_re, e_ree, e_rt, e_rnx, e_rer, e_def0, e_def1, e_def2, e_def3, e_def4, e_def5, e_def6, e_seq, e_sqn, e_sqr, e_sqe, e_sqb, e_sqc, e_set, e_seo, e_see, e_se2, e_if, e_ift, e_iff, e_ifr, e_ret, e_rto, e_rte, e_exp, e_epo, e_epe, e_rai, e_frz, e_fro, e_frc, e_fzo, e_fzd, e_fzs, e_fzb, e_fzu, e_for, e_fos, e_fob, e_foe, e_lii, e_lio, e_tii, e_tio, e_sti, e_sto, e_r1, e_r1o, e_r2, e_r2o, e_comp, e_coo, e_cc, e_yes, e_na0, e_nas, e_nab, e_nao, e_nad, e_nau, e_naa, e_nae, e_ne0, e_nes, e_neb, e_neo, e_ned, e_neu, e_nea, e_nee, e_app, e_apo, e_sei, e_sio, e_si2, e_dput, e_dpi, e_dpb, e_dp2, e_try, e_tyn, e_tyr, e_tye, e_exs, e_exn, e_uns, e_unn, e_ber, e_ben, e_tka, e_tko, e_ise, e_ero, e_unp, e_unt, e_imi, e_ims, e_imb, e_imn, e_imt, e_im0, e_imc, List.map_cons, List.map_nil, List.cons_append, List.nil_append, List.replicate_succ, List.replicate_zero, List.length_cons, List.length_nil, List.getElem?_cons_zero, List.getElem?_cons_succ, List.set_cons_zero, List.set_cons_succ, Option.map_some, Option.map_none, Option.bind_some, Option.isSome_some, Option.isSome_none, if_true, if_false, reduceIte, Bool.and_true, Bool.true_and, Bool.and_false, Bool.false_and, Bool.or_true, Bool.true_or, Bool.or_false, Bool.false_or, Bool.not_true, Bool.not_false, Nat.reduceAdd, Nat.reduceEqDiff, Bool.false_eq_true, decide_true, decide_false, reduceCtorEq, and_self, true_and, and_true, true_or, or_true, false_or, or_false, or_self, Nat.reducePow, Nat.reduceLeDiff, Nat.reduceSub, Int.reduceLT, Int.reduceLE, Int.reduceAdd, Int.reduceSub, Int.reduceMul, Int.reduceNeg, Int.reduceEq, List.length_map, List.length_append, e_it0, e_it1, e_it2, e_it3, e_it4, e_itt0, e_itt1, e_itt2, e_itt3, e_itt4, eq_self, Int.reduceToNat, false_and, and_false, Int.reducePow, e_pla, e_ple, h1, h1']
    rfl

theorem cut_len {s : Str} {lo hi : Option Int} : (cutS s lo hi).length ≤ s.length := by
  rw [str_len, str_len]
  simp only [cutS, List.toList_toArray]
  rw [List.length_take, List.length_drop]
  omega
theorem cut_mem {s : Str} {lo hi : Option Int} {c : Nat} (h : c ∈ (cutS s lo hi).cps.toList) : c ∈ s.cps.toList := by
  simp only [cutS, List.toList_toArray] at h
  exact List.mem_of_mem_drop (List.mem_of_mem_take h)
theorem okS {s : Str} {n : Nat} (h1 : s.length ≤ n) (h0 : n ≤ 100) (h : ∀ c ∈ s.cps.toList, c < 1114112) : okD (.str s) := ⟨by omega, h⟩
theorem okD_cut {s : Str} {lo hi : Option Int} (h : okD (.str s)) : okD (.str (cutS s lo hi)) := ⟨Nat.le_trans cut_len h.1, fun c hc => h.2 c (cut_mem hc)⟩
theorem app_len {s t : Str} : (s ++ t).length = s.length + t.length := by
  rw [str_len, str_len, str_len, show (s ++ t).cps.toList = s.cps.toList ++ t.cps.toList from TL.tl_append s t, List.length_append]
theorem app_mem {s t : Str} {c : Nat} (h : c ∈ (s ++ t).cps.toList) : c ∈ s.cps.toList ∨ c ∈ t.cps.toList := by
  rw [show (s ++ t).cps.toList = s.cps.toList ++ t.cps.toList from TL.tl_append s t] at h
  exact List.mem_append.mp h
theorem cut_one {s : Str} (h : Nm s) : ∃ c, 97 ≤ c ∧ c < 123 ∧ cutS s none (some 1) = ⟨#[c]⟩ := by
  have hl := h.1
  rw [str_len] at hl
  cases e : s.cps.toList with
  | nil => rw [e] at hl; simp at hl
  | cons c r =>
    have := h.2.2 c (by rw [e]; simp)
    refine ⟨c, this.1, this.2, ?_⟩
    unfold cutS
    rw [e, str_len, e, HT.sIx_none, show (1 : Int) = ((1 : Nat) : Int) from rfl, HT.sIx_nat]
    simp
theorem mul_ok {c : Nat} {n : Nat} (hc : c < 1114112) (hn : n ≤ 100) : okD (.str (Txt.mul ⟨#[c]⟩ n)) := by
  have e := PyProof.Rows.mul_one_list c n
  refine ⟨?_, fun d hd => ?_⟩
  · rw [str_len, e, List.length_replicate]; omega
  · rw [e] at hd
    rw [List.eq_of_mem_replicate hd]; exact hc
theorem item_sg {z : Str} {i : Int} (hz : z.length ≤ sizeLine) (h0 : 0 ≤ i) (h1 : i < z.length) : ∃ x ∈ z.cps.toList, itemD (.str z) i = some (.str ⟨#[x]⟩) := by
  have hl : i.toNat < z.cps.toList.length := by rw [← str_len]; omega
  refine ⟨z.cps.toList[i.toNat], List.getElem_mem hl, ?_⟩
  unfold itemD
  simp only
  rw [if_pos hz, atI_nn h0 (by rw [← str_len]; exact h1), List.getElem?_eq_getElem hl]
  rfl
theorem nm_sz {s : Str} (h : Nm s) : s.length ≤ sizeLine := Nat.le_trans h.2.1 (by decide +kernel)
theorem bad_ok (c : Int) (s : Str) (h : Nm s) : ∃ d, okD d ∧ g_law_bad [.int c, .str s] = .ok d := by
  have hz := nm_sz h
  have h12 := h.2.1
  obtain ⟨x, hx, hi⟩ := item_sg (z := "AZ09_ -.[`{@/") (i := c / 84 % 13) (by decide +kernel) (by omega) (by
    have : (Str.ofString "AZ09_ -.[`{@/").length = 13 := by decide +kernel
    rw [this]; omega)
  have hx' : x < 1114112 := by
    have : ∀ y ∈ (Str.ofString "AZ09_ -.[`{@/").cps.toList, y < 1114112 := by decide +kernel
    exact this x hx
  have ha : (cutS s none (some (c / 7 % 12))).length + Str.length ⟨#[x]⟩ ≤ sizeLine := le_sz (by
    have := cut_len (s := s) (lo := none) (hi := some (c / 7 % 12))
    have : Str.length ⟨#[x]⟩ = 1 := rfl
    omega)
  generalize hS : cutS s none (some (c / 7 % 12)) ++ ⟨#[x]⟩ = S
  have hSl : S.length ≤ 13 := by
    rw [← hS, app_len]
    have := cut_len (s := s) (lo := none) (hi := some (c / 7 % 12))
    have : Str.length ⟨#[x]⟩ = 1 := rfl
    omega
  have hSm : ∀ y ∈ S.cps.toList, y < 1114112 := fun y hy => by
    rw [← hS] at hy
    rcases app_mem hy with h1 | h1
    · exact h.ok.2 y (cut_mem h1)
    · have : y = x := by simpa using h1
      omega
  have h1 : (cutS s (some (c / 7 % 12)) none).length ≤ 12 := Nat.le_trans cut_len h12
  have h1' : (cutS s (some (c / 7 % 12)) none).length ≤ sizeLine := le_sz (by omega)
  generalize hT : cutS (cutS s (some (c / 7 % 12)) none) none (some 11) = T
  have hTl : T.length ≤ 12 := by rw [← hT]; exact Nat.le_trans cut_len h1
  have hTm : ∀ y ∈ T.cps.toList, y < 1114112 := fun y hy => by
    rw [← hT] at hy
    exact h.ok.2 y (cut_mem (cut_mem hy))
  have hST : S.length + T.length ≤ sizeLine := le_sz (by omega)
  have hU : okD (.str (S ++ T)) := ⟨by rw [app_len]; omega, fun y hy => by
    rcases app_mem hy with h1 | h1
    · exact hSm y h1
    · exact hTm y h1⟩
  have hUl : (S ++ T).length ≤ sizeLine := le_sz (by have := hU.1; omega)
  obtain ⟨a, ha1, ha2, ha3⟩ := cut_one h
  have hal : Str.length ⟨#[a]⟩ ≤ 16 := by show 1 ≤ 16; omega
  have hm1 := mul_ok (c := a) (n := 13) (by omega) (by omega)
  have hm2 := mul_ok (c := a) (n := 20) (by omega) (by omega)
  obtain ⟨d, hd, hm⟩ := menu (ds := [.str "", .str (Txt.mul ⟨#[a]⟩ 13), .str (cutS (S ++ T) none (some 12)), .non, .int 5, .str (Txt.mul ⟨#[a]⟩ 20), .str (cutS (S ++ T) none (some 12))]) (i := c % 7) (by omega) (by simp; omega)
  refine ⟨d, ?_, ?_⟩
  · simp only [List.mem_cons, List.not_mem_nil, or_false] at hd
    rcases hd with rfl | rfl | rfl | rfl | rfl | rfl | rfl
    · exact ⟨by decide +kernel, by decide +kernel⟩
    · exact hm1
    · exact okD_cut hU
    · trivial
    · trivial
    · exact hm2
    · exact okD_cut hU
  unfold g_law_bad d_law_bad
  simp only [e_var, e_sml, e_smr, e_sh, e_bo, e_ow, e_dp, e_an, e_con, e_opt, e_op, e_op2, e_op2e, e_op2f, e_un, e_op1, e_op1e, e_add, e_adds, e_addl, e_sub, e_mul, e_muls, e_mull, e_mulI, e_div, e_mod, e_lt, e_le, e_gt, e_ge, e_neg, e_not, e_isn, e_notn, e_nn, e_ni, e_ns, e_nb, e_nl, e_nt, e_eqs, e_eqi, e_eqb, e_eqn, e_eqni, e_eqin, e_eqns, e_eqsn, e_eqsi, e_eqis, e_eq, e_ne, e_in, e_nin, e_din, e_dnin, e_dget, e_dget1, e_and, e_andt, e_andf, e_ande, e_or, e_orf, e_ort, e_tst, e_ts, e_tse, e_band, e_bat, e_baf, e_bae, e_bor, e_bof, e_bot, e_boe, e_bnot, e_bn, e_bne, e_ife, e_iet, e_ief, e_ch, e_ch2, e_cht, e_chf, e_nil, e_cons, e_cn, e_cne, e_cnf, e_arg1, e_arg2, e_lst, e_lse, e_ls0, e_ls1, e_ls2, e_ls3, e_ls4, e_ls5, e_ls6, e_ls7, e_ls8, e_tup, e_tue, e_tu0, e_tu1, e_tu2, e_tu3, e_tu4, e_dnew, e_cb, e_cbo, e_cbe, e_lens, e_lenl, e_lent, e_lenc, e_list, e_listt, e_inti, e_intb, e_ints, e_max, e_min, e_kst, e_ktp, e_kdp, e_ki, e_ks, e_kb, e_kn, e_ktb, e_kta, e_xst, e_xtp, e_xdp, e_xbw, e_xan, e_xcb, e_xs, e_si, e_ss, e_sb, e_sn, e_slt, e_sls, e_slb, e_sdp, e_sst, e_its, e_itbl, e_ix, e_ixo, e_ixe, e_ixf, e_nop, e_som, e_smo, e_sl, e_slo, e_gsl, e_gss, e_rev, e_dg1, e_d1o, e_d1k, e_m1, e_m1o, e_call, e_cl, e_cle, e_re, e_ree, e_rt, e_rnx, e_rer, e_def0, e_def1, e_def2, e_def3, e_def4, e_def5, e_def6, e_seq, e_sqn, e_sqr, e_sqe, e_sqb, e_sqc, e_set, e_seo, e_see, e_se2, e_if, e_ift, e_iff, e_ifr, e_ret, e_rto, e_rte, e_exp, e_epo, e_epe, e_rai, e_frz, e_fro, e_frc, e_fzo, e_fzd, e_fzs, e_fzb, e_fzu, e_for, e_fos, e_fob, e_foe, e_lii, e_lio, e_tii, e_tio, e_sti, e_sto, e_r1, e_r1o, e_r2, e_r2o, e_comp, e_coo, e_cc, e_yes, e_na0, e_nas, e_nab, e_nao, e_nad, e_nau, e_naa, e_nae, e_ne0, e_nes, e_neb, e_neo, e_ned, e_neu, e_nea, e_nee, e_app, e_apo, e_sei, e_sio, e_si2, e_dput, e_dpi, e_dpb, e_dp2, e_try, e_tyn, e_tyr, e_tye, e_exs, e_exn, e_uns, e_unn, e_ber, e_ben, e_tka, e_tko, e_ise, e_ero, e_unp, e_unt, e_imi, e_ims, e_imb, e_imn, e_imt, e_im0, e_imc, List.map_cons, List.map_nil, List.cons_append, List.nil_append, List.replicate_succ, List.replicate_zero, List.length_cons, List.length_nil, List.getElem?_cons_zero, List.getElem?_cons_succ, List.set_cons_zero, List.set_cons_succ, Option.map_some, Option.map_none, Option.bind_some, Option.isSome_some, Option.isSome_none, if_true, if_false, reduceIte, Bool.and_true, Bool.true_and, Bool.and_false, Bool.false_and, Bool.or_true, Bool.true_or, Bool.or_false, Bool.false_or, Bool.not_true, Bool.not_false, Nat.reduceAdd, Nat.reduceEqDiff, Bool.false_eq_true, decide_true, decide_false, reduceCtorEq, and_self, true_and, and_true, true_or, or_true, false_or, or_false, or_self, Nat.reducePow, Nat.reduceLeDiff, Nat.reduceSub, Int.reduceLT, Int.reduceLE, Int.reduceAdd, Int.reduceSub, Int.reduceMul, Int.reduceNeg, Int.reduceEq, List.length_map, List.length_append, e_it0, e_it1, e_it2, e_it3, e_it4, e_itt0, e_itt1, e_itt2, e_itt3, e_itt4, eq_self, Int.reduceToNat, false_and, and_false, Int.reducePow, e_pla, e_ple, hz, hi, ha, hS, h1', hT, hST, hUl, ha3, hal, hm]
theorem chk_kind : ∀ (a : Option D) (ds : List D) (c : Ex), chk a ds = some c → c = .place ∨ c = .journey
  | _, [], _, h => by cases h
  | a, d :: ds, c, h => by
    unfold chk at h
    split at h
    · cases h; exact .inl rfl
    · split at h
      · cases h; exact .inr rfl
      · exact chk_kind _ _ _ h
theorem duE_kind {ds : List D} {c : Ex} (h : duE ds = some c) : c = .place ∨ c = .journey := by
  unfold duE at h
  split at h
  · exact chk_kind _ _ _ h
  · cases h; exact .inr rfl
theorem ixN_in {n : Nat} {i : Int} (h0 : 0 ≤ i) (h1 : i < n) : ixN n i = some i.toNat := by
  unfold ixN
  rw [if_pos h0, if_pos h1]
theorem okD_setl {ds : List D} {d : D} {n : Nat} (h : ∀ d ∈ ds, okD d) (hd : okD d) : ∀ e ∈ ds.set n d, okD e := fun e he => by
  rcases List.mem_or_eq_of_mem_set he with h1 | h1
  · exact h e h1
  · rw [h1]; exact hd
theorem law_loop (ns : List Int) (m : Int) (h0 : 0 ≤ m) (h2 : m ≤ 2) (ds : List D) (h : ∀ d ∈ ds, okD d) (hl : ds.length ≤ 42) : ∃ ds' x y z, (∀ d ∈ ds', okD d) ∧ ds'.length ≤ 42 ∧ plS x = true ∧ plS y = true ∧ plS z = true ∧
    forL 3 .st b1_law (rng 0 1 m.toNat) [.bo (.scr ns), .ow (.lst ds), .sh (.int m), .un, .un, .un, .un, .un, .un, .un, .un] = .nx [.bo (.scr ns), .ow (.lst ds'), .sh (.int m), x, y, z, .un, .un, .un, .un, .un] := by
  have key := forL_inv (i := 3) (k := .st) (body := b1_law)
    (fun n δ => ∃ ds' x y z, (∀ d ∈ ds', okD d) ∧ ds'.length ≤ 42 ∧ plS x = true ∧ plS y = true ∧ plS z = true ∧ δ = [.bo (.scr ns), .ow (.lst ds'), .sh (.int m), x, y, z, .un, .un, .un, .un, .un]) (fun o => False)
    (rng 0 1 m.toNat) 0 [.bo (.scr ns), .ow (.lst ds), .sh (.int m), .un, .un, .un, .un, .un, .un, .un, .un] ⟨ds, _, _, _, h, hl, rfl, rfl, rfl, rfl⟩ (by
      rintro k d δ hd ⟨ds, x, y, z, h, hl, px, py, pz, rfl⟩
      obtain ⟨hk, rfl⟩ := get_rng1 hd
      refine ⟨_, e_its, ?_⟩
      have hk2 : k < 2 := by omega
      unfold b1_law
      by_cases hp : (0 : Int) < ds.length
      · have hc1 := cell_ok ns (2 + (k : Int)) (by omega)
        have hc2 := cell_ok ns (62 - (k : Int)) (by omega)
        have hc3 := cell_ok ns 1 (by decide)
        generalize hA : cell ns (2 + (k : Int)) % ds.length = A
        have hA0 : 0 ≤ A := by rw [← hA]; exact Int.emod_nonneg _ (by omega)
        have hA1 : A < ds.length := by rw [← hA]; exact Int.emod_lt_of_pos _ hp
        have hA2 := ixN_in hA0 hA1
        obtain ⟨b, hb, hb2⟩ := bad_ok (cell ns (62 - (k : Int))) (plc (cell ns (62 - (k : Int)) / 91)) (plc_nm _)
        have hbk := okD_k (k := .dp) hb
        have h3a : (0 : Int) < 3 + k := by omega
        have h3b : 3 + (k : Int) < 1073741824 := by omega
        have fin : ∀ {d : D} {y z : Slot}, okD d → plS y = true → plS z = true → ∃ ds' x' y' z', (∀ d ∈ ds', okD d) ∧ ds'.length ≤ 42 ∧ plS x' = true ∧ plS y' = true ∧ plS z' = true ∧ [Slot.bo (.scr ns), .ow (.lst (ds.set A.toNat d)), .sh (.int m), .sh (.int k), y, z, .un, .un, .un, .un, .un] = [.bo (.scr ns), .ow (.lst ds'), .sh (.int m), x', y', z', .un, .un, .un, .un, .un] := fun {d} {y} {z} hd hy hz => ⟨_, _, _, _, okD_setl h hd, by rw [List.length_set]; exact hl, rfl, hy, hz, rfl⟩
        by_cases hA3 : A = 0
        · subst hA3
          simp only [e_var, e_sml, e_smr, e_sh, e_bo, e_ow, e_dp, e_an, e_con, e_opt, e_op, e_op2, e_op2e, e_op2f, e_un, e_op1, e_op1e, e_add, e_adds, e_addl, e_sub, e_mul, e_muls, e_mull, e_mulI, e_div, e_mod, e_lt, e_le, e_gt, e_ge, e_neg, e_not, e_isn, e_notn, e_nn, e_ni, e_ns, e_nb, e_nl, e_nt, e_eqs, e_eqi, e_eqb, e_eqn, e_eqni, e_eqin, e_eqns, e_eqsn, e_eqsi, e_eqis, e_eq, e_ne, e_in, e_nin, e_din, e_dnin, e_dget, e_dget1, e_and, e_andt, e_andf, e_ande, e_or, e_orf, e_ort, e_tst, e_ts, e_tse, e_band, e_bat, e_baf, e_bae, e_bor, e_bof, e_bot, e_boe, e_bnot, e_bn, e_bne, e_ife, e_iet, e_ief, e_ch, e_ch2, e_cht, e_chf, e_nil, e_cons, e_cn, e_cne, e_cnf, e_arg1, e_arg2, e_lst, e_lse, e_ls0, e_ls1, e_ls2, e_ls3, e_ls4, e_ls5, e_ls6, e_ls7, e_ls8, e_tup, e_tue, e_tu0, e_tu1, e_tu2, e_tu3, e_tu4, e_dnew, e_cb, e_cbo, e_cbe, e_lens, e_lenl, e_lent, e_lenc, e_list, e_listt, e_inti, e_intb, e_ints, e_max, e_min, e_kst, e_ktp, e_kdp, e_ki, e_ks, e_kb, e_kn, e_ktb, e_kta, e_xst, e_xtp, e_xdp, e_xbw, e_xan, e_xcb, e_xs, e_si, e_ss, e_sb, e_sn, e_slt, e_sls, e_slb, e_sdp, e_sst, e_its, e_itbl, e_ix, e_ixo, e_ixe, e_ixf, e_nop, e_som, e_smo, e_sl, e_slo, e_gsl, e_gss, e_rev, e_dg1, e_d1o, e_d1k, e_m1, e_m1o, e_call, e_cl, e_cle, e_re, e_ree, e_rt, e_rnx, e_rer, e_def0, e_def1, e_def2, e_def3, e_def4, e_def5, e_def6, e_seq, e_sqn, e_sqr, e_sqe, e_sqb, e_sqc, e_set, e_seo, e_see, e_se2, e_if, e_ift, e_iff, e_ifr, e_ret, e_rto, e_rte, e_exp, e_epo, e_epe, e_rai, e_frz, e_fro, e_frc, e_fzo, e_fzd, e_fzs, e_fzb, e_fzu, e_for, e_fos, e_fob, e_foe, e_lii, e_lio, e_tii, e_tio, e_sti, e_sto, e_r1, e_r1o, e_r2, e_r2o, e_comp, e_coo, e_cc, e_yes, e_na0, e_nas, e_nab, e_nao, e_nad, e_nau, e_naa, e_nae, e_ne0, e_nes, e_neb, e_neo, e_ned, e_neu, e_nea, e_nee, e_app, e_apo, e_sei, e_sio, e_si2, e_dput, e_dpi, e_dpb, e_dp2, e_try, e_tyn, e_tyr, e_tye, e_exs, e_exn, e_uns, e_unn, e_ber, e_ben, e_tka, e_tko, e_ise, e_ero, e_unp, e_unt, e_imi, e_ims, e_imb, e_imn, e_imt, e_im0, e_imc, List.map_cons, List.map_nil, List.cons_append, List.nil_append, List.replicate_succ, List.replicate_zero, List.length_cons, List.length_nil, List.getElem?_cons_zero, List.getElem?_cons_succ, List.set_cons_zero, List.set_cons_succ, Option.map_some, Option.map_none, Option.bind_some, Option.isSome_some, Option.isSome_none, if_true, if_false, reduceIte, Bool.and_true, Bool.true_and, Bool.and_false, Bool.false_and, Bool.or_true, Bool.true_or, Bool.or_false, Bool.false_or, Bool.not_true, Bool.not_false, Nat.reduceAdd, Nat.reduceEqDiff, Bool.false_eq_true, decide_true, decide_false, reduceCtorEq, and_self, true_and, and_true, true_or, or_true, false_or, or_false, or_self, Nat.reducePow, Nat.reduceLeDiff, Nat.reduceSub, Int.reduceLT, Int.reduceLE, Int.reduceAdd, Int.reduceSub, Int.reduceMul, Int.reduceNeg, Int.reduceEq, List.length_map, List.length_append, e_it0, e_it1, e_it2, e_it3, e_it4, e_itt0, e_itt1, e_itt2, e_itt3, e_itt4, eq_self, Int.reduceToNat, false_and, and_false, Int.reducePow, e_pla, e_ple, hp, hc1, hA, hc2, place_ok, hb2, hA2]
          exact fin hb rfl rfl
        · by_cases hq : cell ns 1 / (3 + (k : Int)) % 2 = 0
          · simp only [e_var, e_sml, e_smr, e_sh, e_bo, e_ow, e_dp, e_an, e_con, e_opt, e_op, e_op2, e_op2e, e_op2f, e_un, e_op1, e_op1e, e_add, e_adds, e_addl, e_sub, e_mul, e_muls, e_mull, e_mulI, e_div, e_mod, e_lt, e_le, e_gt, e_ge, e_neg, e_not, e_isn, e_notn, e_nn, e_ni, e_ns, e_nb, e_nl, e_nt, e_eqs, e_eqi, e_eqb, e_eqn, e_eqni, e_eqin, e_eqns, e_eqsn, e_eqsi, e_eqis, e_eq, e_ne, e_in, e_nin, e_din, e_dnin, e_dget, e_dget1, e_and, e_andt, e_andf, e_ande, e_or, e_orf, e_ort, e_tst, e_ts, e_tse, e_band, e_bat, e_baf, e_bae, e_bor, e_bof, e_bot, e_boe, e_bnot, e_bn, e_bne, e_ife, e_iet, e_ief, e_ch, e_ch2, e_cht, e_chf, e_nil, e_cons, e_cn, e_cne, e_cnf, e_arg1, e_arg2, e_lst, e_lse, e_ls0, e_ls1, e_ls2, e_ls3, e_ls4, e_ls5, e_ls6, e_ls7, e_ls8, e_tup, e_tue, e_tu0, e_tu1, e_tu2, e_tu3, e_tu4, e_dnew, e_cb, e_cbo, e_cbe, e_lens, e_lenl, e_lent, e_lenc, e_list, e_listt, e_inti, e_intb, e_ints, e_max, e_min, e_kst, e_ktp, e_kdp, e_ki, e_ks, e_kb, e_kn, e_ktb, e_kta, e_xst, e_xtp, e_xdp, e_xbw, e_xan, e_xcb, e_xs, e_si, e_ss, e_sb, e_sn, e_slt, e_sls, e_slb, e_sdp, e_sst, e_its, e_itbl, e_ix, e_ixo, e_ixe, e_ixf, e_nop, e_som, e_smo, e_sl, e_slo, e_gsl, e_gss, e_rev, e_dg1, e_d1o, e_d1k, e_m1, e_m1o, e_call, e_cl, e_cle, e_re, e_ree, e_rt, e_rnx, e_rer, e_def0, e_def1, e_def2, e_def3, e_def4, e_def5, e_def6, e_seq, e_sqn, e_sqr, e_sqe, e_sqb, e_sqc, e_set, e_seo, e_see, e_se2, e_if, e_ift, e_iff, e_ifr, e_ret, e_rto, e_rte, e_exp, e_epo, e_epe, e_rai, e_frz, e_fro, e_frc, e_fzo, e_fzd, e_fzs, e_fzb, e_fzu, e_for, e_fos, e_fob, e_foe, e_lii, e_lio, e_tii, e_tio, e_sti, e_sto, e_r1, e_r1o, e_r2, e_r2o, e_comp, e_coo, e_cc, e_yes, e_na0, e_nas, e_nab, e_nao, e_nad, e_nau, e_naa, e_nae, e_ne0, e_nes, e_neb, e_neo, e_ned, e_neu, e_nea, e_nee, e_app, e_apo, e_sei, e_sio, e_si2, e_dput, e_dpi, e_dpb, e_dp2, e_try, e_tyn, e_tyr, e_tye, e_exs, e_exn, e_uns, e_unn, e_ber, e_ben, e_tka, e_tko, e_ise, e_ero, e_unp, e_unt, e_imi, e_ims, e_imb, e_imn, e_imt, e_im0, e_imc, List.map_cons, List.map_nil, List.cons_append, List.nil_append, List.replicate_succ, List.replicate_zero, List.length_cons, List.length_nil, List.getElem?_cons_zero, List.getElem?_cons_succ, List.set_cons_zero, List.set_cons_succ, Option.map_some, Option.map_none, Option.bind_some, Option.isSome_some, Option.isSome_none, if_true, if_false, reduceIte, Bool.and_true, Bool.true_and, Bool.and_false, Bool.false_and, Bool.or_true, Bool.true_or, Bool.or_false, Bool.false_or, Bool.not_true, Bool.not_false, Nat.reduceAdd, Nat.reduceEqDiff, Bool.false_eq_true, decide_true, decide_false, reduceCtorEq, and_self, true_and, and_true, true_or, or_true, false_or, or_false, or_self, Nat.reducePow, Nat.reduceLeDiff, Nat.reduceSub, Int.reduceLT, Int.reduceLE, Int.reduceAdd, Int.reduceSub, Int.reduceMul, Int.reduceNeg, Int.reduceEq, List.length_map, List.length_append, e_it0, e_it1, e_it2, e_it3, e_it4, e_itt0, e_itt1, e_itt2, e_itt3, e_itt4, eq_self, Int.reduceToNat, false_and, and_false, Int.reducePow, e_pla, e_ple, hp, hc1, hA, hc2, hc3, hA3, h3a, h3b, hq, place_ok, hb2, hA2]
            exact fin hb rfl rfl
          · obtain ⟨d, hd1, hd2, hd3⟩ := item_ok h (i := (A - 1).toNat) (by omega)
            rw [show (((A - 1).toNat : Nat) : Int) = A - 1 by omega] at hd3
            have hdk := okD_k (k := .any) hd2
            have hkx : stK d (kIx (.lst ds) .any) = true := okD_k hd2
            simp only [e_var, e_sml, e_smr, e_sh, e_bo, e_ow, e_dp, e_an, e_con, e_opt, e_op, e_op2, e_op2e, e_op2f, e_un, e_op1, e_op1e, e_add, e_adds, e_addl, e_sub, e_mul, e_muls, e_mull, e_mulI, e_div, e_mod, e_lt, e_le, e_gt, e_ge, e_neg, e_not, e_isn, e_notn, e_nn, e_ni, e_ns, e_nb, e_nl, e_nt, e_eqs, e_eqi, e_eqb, e_eqn, e_eqni, e_eqin, e_eqns, e_eqsn, e_eqsi, e_eqis, e_eq, e_ne, e_in, e_nin, e_din, e_dnin, e_dget, e_dget1, e_and, e_andt, e_andf, e_ande, e_or, e_orf, e_ort, e_tst, e_ts, e_tse, e_band, e_bat, e_baf, e_bae, e_bor, e_bof, e_bot, e_boe, e_bnot, e_bn, e_bne, e_ife, e_iet, e_ief, e_ch, e_ch2, e_cht, e_chf, e_nil, e_cons, e_cn, e_cne, e_cnf, e_arg1, e_arg2, e_lst, e_lse, e_ls0, e_ls1, e_ls2, e_ls3, e_ls4, e_ls5, e_ls6, e_ls7, e_ls8, e_tup, e_tue, e_tu0, e_tu1, e_tu2, e_tu3, e_tu4, e_dnew, e_cb, e_cbo, e_cbe, e_lens, e_lenl, e_lent, e_lenc, e_list, e_listt, e_inti, e_intb, e_ints, e_max, e_min, e_kst, e_ktp, e_kdp, e_ki, e_ks, e_kb, e_kn, e_ktb, e_kta, e_xst, e_xtp, e_xdp, e_xbw, e_xan, e_xcb, e_xs, e_si, e_ss, e_sb, e_sn, e_slt, e_sls, e_slb, e_sdp, e_sst, e_its, e_itbl, e_ix, e_ixo, e_ixe, e_ixf, e_nop, e_som, e_smo, e_sl, e_slo, e_gsl, e_gss, e_rev, e_dg1, e_d1o, e_d1k, e_m1, e_m1o, e_call, e_cl, e_cle, e_re, e_ree, e_rt, e_rnx, e_rer, e_def0, e_def1, e_def2, e_def3, e_def4, e_def5, e_def6, e_seq, e_sqn, e_sqr, e_sqe, e_sqb, e_sqc, e_set, e_seo, e_see, e_se2, e_if, e_ift, e_iff, e_ifr, e_ret, e_rto, e_rte, e_exp, e_epo, e_epe, e_rai, e_frz, e_fro, e_frc, e_fzo, e_fzd, e_fzs, e_fzb, e_fzu, e_for, e_fos, e_fob, e_foe, e_lii, e_lio, e_tii, e_tio, e_sti, e_sto, e_r1, e_r1o, e_r2, e_r2o, e_comp, e_coo, e_cc, e_yes, e_na0, e_nas, e_nab, e_nao, e_nad, e_nau, e_naa, e_nae, e_ne0, e_nes, e_neb, e_neo, e_ned, e_neu, e_nea, e_nee, e_app, e_apo, e_sei, e_sio, e_si2, e_dput, e_dpi, e_dpb, e_dp2, e_try, e_tyn, e_tyr, e_tye, e_exs, e_exn, e_uns, e_unn, e_ber, e_ben, e_tka, e_tko, e_ise, e_ero, e_unp, e_unt, e_imi, e_ims, e_imb, e_imn, e_imt, e_im0, e_imc, List.map_cons, List.map_nil, List.cons_append, List.nil_append, List.replicate_succ, List.replicate_zero, List.length_cons, List.length_nil, List.getElem?_cons_zero, List.getElem?_cons_succ, List.set_cons_zero, List.set_cons_succ, Option.map_some, Option.map_none, Option.bind_some, Option.isSome_some, Option.isSome_none, if_true, if_false, reduceIte, Bool.and_true, Bool.true_and, Bool.and_false, Bool.false_and, Bool.or_true, Bool.true_or, Bool.or_false, Bool.false_or, Bool.not_true, Bool.not_false, Nat.reduceAdd, Nat.reduceEqDiff, Bool.false_eq_true, decide_true, decide_false, reduceCtorEq, and_self, true_and, and_true, true_or, or_true, false_or, or_false, or_self, Nat.reducePow, Nat.reduceLeDiff, Nat.reduceSub, Int.reduceLT, Int.reduceLE, Int.reduceAdd, Int.reduceSub, Int.reduceMul, Int.reduceNeg, Int.reduceEq, List.length_map, List.length_append, e_it0, e_it1, e_it2, e_it3, e_it4, e_itt0, e_itt1, e_itt2, e_itt3, e_itt4, eq_self, Int.reduceToNat, false_and, and_false, Int.reducePow, e_pla, e_ple, hp, hc1, hA, hc2, hc3, hA3, h3a, h3b, hq, hA2, hd3, hdk]
            exact fin hd2 rfl rfl
      · simp only [e_var, e_sml, e_smr, e_sh, e_bo, e_ow, e_dp, e_an, e_con, e_opt, e_op, e_op2, e_op2e, e_op2f, e_un, e_op1, e_op1e, e_add, e_adds, e_addl, e_sub, e_mul, e_muls, e_mull, e_mulI, e_div, e_mod, e_lt, e_le, e_gt, e_ge, e_neg, e_not, e_isn, e_notn, e_nn, e_ni, e_ns, e_nb, e_nl, e_nt, e_eqs, e_eqi, e_eqb, e_eqn, e_eqni, e_eqin, e_eqns, e_eqsn, e_eqsi, e_eqis, e_eq, e_ne, e_in, e_nin, e_din, e_dnin, e_dget, e_dget1, e_and, e_andt, e_andf, e_ande, e_or, e_orf, e_ort, e_tst, e_ts, e_tse, e_band, e_bat, e_baf, e_bae, e_bor, e_bof, e_bot, e_boe, e_bnot, e_bn, e_bne, e_ife, e_iet, e_ief, e_ch, e_ch2, e_cht, e_chf, e_nil, e_cons, e_cn, e_cne, e_cnf, e_arg1, e_arg2, e_lst, e_lse, e_ls0, e_ls1, e_ls2, e_ls3, e_ls4, e_ls5, e_ls6, e_ls7, e_ls8, e_tup, e_tue, e_tu0, e_tu1, e_tu2, e_tu3, e_tu4, e_dnew, e_cb, e_cbo, e_cbe, e_lens, e_lenl, e_lent, e_lenc, e_list, e_listt, e_inti, e_intb, e_ints, e_max, e_min, e_kst, e_ktp, e_kdp, e_ki, e_ks, e_kb, e_kn, e_ktb, e_kta, e_xst, e_xtp, e_xdp, e_xbw, e_xan, e_xcb, e_xs, e_si, e_ss, e_sb, e_sn, e_slt, e_sls, e_slb, e_sdp, e_sst, e_its, e_itbl, e_ix, e_ixo, e_ixe, e_ixf, e_nop, e_som, e_smo, e_sl, e_slo, e_gsl, e_gss, e_rev, e_dg1, e_d1o, e_d1k, e_m1, e_m1o, e_call, e_cl, e_cle, e_re, e_ree, e_rt, e_rnx, e_rer, e_def0, e_def1, e_def2, e_def3, e_def4, e_def5, e_def6, e_seq, e_sqn, e_sqr, e_sqe, e_sqb, e_sqc, e_set, e_seo, e_see, e_se2, e_if, e_ift, e_iff, e_ifr, e_ret, e_rto, e_rte, e_exp, e_epo, e_epe, e_rai, e_frz, e_fro, e_frc, e_fzo, e_fzd, e_fzs, e_fzb, e_fzu, e_for, e_fos, e_fob, e_foe, e_lii, e_lio, e_tii, e_tio, e_sti, e_sto, e_r1, e_r1o, e_r2, e_r2o, e_comp, e_coo, e_cc, e_yes, e_na0, e_nas, e_nab, e_nao, e_nad, e_nau, e_naa, e_nae, e_ne0, e_nes, e_neb, e_neo, e_ned, e_neu, e_nea, e_nee, e_app, e_apo, e_sei, e_sio, e_si2, e_dput, e_dpi, e_dpb, e_dp2, e_try, e_tyn, e_tyr, e_tye, e_exs, e_exn, e_uns, e_unn, e_ber, e_ben, e_tka, e_tko, e_ise, e_ero, e_unp, e_unt, e_imi, e_ims, e_imb, e_imn, e_imt, e_im0, e_imc, List.map_cons, List.map_nil, List.cons_append, List.nil_append, List.replicate_succ, List.replicate_zero, List.length_cons, List.length_nil, List.getElem?_cons_zero, List.getElem?_cons_succ, List.set_cons_zero, List.set_cons_succ, Option.map_some, Option.map_none, Option.bind_some, Option.isSome_some, Option.isSome_none, if_true, if_false, reduceIte, Bool.and_true, Bool.true_and, Bool.and_false, Bool.false_and, Bool.or_true, Bool.true_or, Bool.or_false, Bool.false_or, Bool.not_true, Bool.not_false, Nat.reduceAdd, Nat.reduceEqDiff, Bool.false_eq_true, decide_true, decide_false, reduceCtorEq, and_self, true_and, and_true, true_or, or_true, false_or, or_false, or_self, Nat.reducePow, Nat.reduceLeDiff, Nat.reduceSub, Int.reduceLT, Int.reduceLE, Int.reduceAdd, Int.reduceSub, Int.reduceMul, Int.reduceNeg, Int.reduceEq, List.length_map, List.length_append, e_it0, e_it1, e_it2, e_it3, e_it4, e_itt0, e_itt1, e_itt2, e_itt3, e_itt4, eq_self, Int.reduceToNat, false_and, and_false, Int.reducePow, e_pla, e_ple, hp]
        exact ⟨ds, _, _, _, h, hl, rfl, py, pz, rfl⟩)
  rcases key with ⟨δ', k1, ds', x, y, z, h1, h3, px, py, pz, rfl⟩ | h
  · exact ⟨ds', x, y, z, h1, h3, px, py, pz, k1⟩
  · exact h.elim
theorem law_true (ns : List Int) (hl : ns.length ≤ 63) : g_law [.scr ns] = .ok (.bl true) := by
  obtain ⟨L, hN, hL, hrow⟩ := row_ok ns
  have hc1 := cell_ok ns 1 (by decide)
  obtain ⟨ds, x, y, z, h, hl, px, py, pz, hloop⟩ := law_loop ns (cell ns 1 % 3) (by omega) (by omega) (L.map .str) (fun d hd => by
    obtain ⟨s, hs, rfl⟩ := List.mem_map.mp hd
    exact (hN s hs).ok) (by simpa using hL)
  have hsl := e_sld (imms_str L)
  have hsm := e_smr (i := cell ns 1 % 3) (by omega) (by omega)
  have him := okD_imms h
  have hdu := law_due_ok ds h
  have hnd := need_ok ds h
  have hlt : ds.length < sizeLine := lt_sz (by omega)
  have heq := okD_eq h
  unfold g_law d_law y1_law h1_law
  simp only [e_var, e_sml, e_smr, e_sh, e_bo, e_ow, e_dp, e_an, e_con, e_opt, e_op, e_op2, e_op2e, e_op2f, e_un, e_op1, e_op1e, e_add, e_adds, e_addl, e_sub, e_mul, e_muls, e_mull, e_mulI, e_div, e_mod, e_lt, e_le, e_gt, e_ge, e_neg, e_not, e_isn, e_notn, e_nn, e_ni, e_ns, e_nb, e_nl, e_nt, e_eqs, e_eqi, e_eqb, e_eqn, e_eqni, e_eqin, e_eqns, e_eqsn, e_eqsi, e_eqis, e_eq, e_ne, e_in, e_nin, e_din, e_dnin, e_dget, e_dget1, e_and, e_andt, e_andf, e_ande, e_or, e_orf, e_ort, e_tst, e_ts, e_tse, e_band, e_bat, e_baf, e_bae, e_bor, e_bof, e_bot, e_boe, e_bnot, e_bn, e_bne, e_ife, e_iet, e_ief, e_ch, e_ch2, e_cht, e_chf, e_nil, e_cons, e_cn, e_cne, e_cnf, e_arg1, e_arg2, e_lst, e_lse, e_ls0, e_ls1, e_ls2, e_ls3, e_ls4, e_ls5, e_ls6, e_ls7, e_ls8, e_tup, e_tue, e_tu0, e_tu1, e_tu2, e_tu3, e_tu4, e_dnew, e_cb, e_cbo, e_cbe, e_lens, e_lenl, e_lent, e_lenc, e_list, e_listt, e_inti, e_intb, e_ints, e_max, e_min, e_kst, e_ktp, e_kdp, e_ki, e_ks, e_kb, e_kn, e_ktb, e_kta, e_xst, e_xtp, e_xdp, e_xbw, e_xan, e_xcb, e_xs, e_si, e_ss, e_sb, e_sn, e_slt, e_sls, e_slb, e_sdp, e_sst, e_its, e_itbl, e_ix, e_ixo, e_ixe, e_ixf, e_nop, e_som, e_smo, e_sl, e_slo, e_gsl, e_gss, e_rev, e_dg1, e_d1o, e_d1k, e_m1, e_m1o, e_call, e_cl, e_cle, e_re, e_ree, e_rt, e_rnx, e_rer, e_def0, e_def1, e_def2, e_def3, e_def4, e_def5, e_def6, e_seq, e_sqn, e_sqr, e_sqe, e_sqb, e_sqc, e_set, e_seo, e_see, e_se2, e_if, e_ift, e_iff, e_ifr, e_ret, e_rto, e_rte, e_exp, e_epo, e_epe, e_rai, e_frz, e_fro, e_frc, e_fzo, e_fzd, e_fzs, e_fzb, e_fzu, e_for, e_fos, e_fob, e_foe, e_lii, e_lio, e_tii, e_tio, e_sti, e_sto, e_r1, e_r1o, e_r2, e_r2o, e_comp, e_coo, e_cc, e_yes, e_na0, e_nas, e_nab, e_nao, e_nad, e_nau, e_naa, e_nae, e_ne0, e_nes, e_neb, e_neo, e_ned, e_neu, e_nea, e_nee, e_app, e_apo, e_sei, e_sio, e_si2, e_dput, e_dpi, e_dpb, e_dp2, e_try, e_tyn, e_tyr, e_tye, e_exs, e_exn, e_uns, e_unn, e_ber, e_ben, e_tka, e_tko, e_ise, e_ero, e_unp, e_unt, e_imi, e_ims, e_imb, e_imn, e_imt, e_im0, e_imc, List.map_cons, List.map_nil, List.cons_append, List.nil_append, List.replicate_succ, List.replicate_zero, List.length_cons, List.length_nil, List.getElem?_cons_zero, List.getElem?_cons_succ, List.set_cons_zero, List.set_cons_succ, Option.map_some, Option.map_none, Option.bind_some, Option.isSome_some, Option.isSome_none, if_true, if_false, reduceIte, Bool.and_true, Bool.true_and, Bool.and_false, Bool.false_and, Bool.or_true, Bool.true_or, Bool.or_false, Bool.false_or, Bool.not_true, Bool.not_false, Nat.reduceAdd, Nat.reduceEqDiff, Bool.false_eq_true, decide_true, decide_false, reduceCtorEq, and_self, true_and, and_true, true_or, or_true, false_or, or_false, or_self, Nat.reducePow, Nat.reduceLeDiff, Nat.reduceSub, Int.reduceLT, Int.reduceLE, Int.reduceAdd, Int.reduceSub, Int.reduceMul, Int.reduceNeg, Int.reduceEq, List.length_map, List.length_append, e_it0, e_it1, e_it2, e_it3, e_it4, e_itt0, e_itt1, e_itt2, e_itt3, e_itt4, eq_self, Int.reduceToNat, false_and, and_false, Int.reducePow, e_pla, e_ple, hrow, hsl, hc1, hsm, hloop, him, hdu]
  cases hd : duE ds with
  | none =>
    rw [hd] at hnd
    have hs2 := e_sld him
    simp only [e_var, e_sml, e_smr, e_sh, e_bo, e_ow, e_dp, e_an, e_con, e_opt, e_op, e_op2, e_op2e, e_op2f, e_un, e_op1, e_op1e, e_add, e_adds, e_addl, e_sub, e_mul, e_muls, e_mull, e_mulI, e_div, e_mod, e_lt, e_le, e_gt, e_ge, e_neg, e_not, e_isn, e_notn, e_nn, e_ni, e_ns, e_nb, e_nl, e_nt, e_eqs, e_eqi, e_eqb, e_eqn, e_eqni, e_eqin, e_eqns, e_eqsn, e_eqsi, e_eqis, e_eq, e_ne, e_in, e_nin, e_din, e_dnin, e_dget, e_dget1, e_and, e_andt, e_andf, e_ande, e_or, e_orf, e_ort, e_tst, e_ts, e_tse, e_band, e_bat, e_baf, e_bae, e_bor, e_bof, e_bot, e_boe, e_bnot, e_bn, e_bne, e_ife, e_iet, e_ief, e_ch, e_ch2, e_cht, e_chf, e_nil, e_cons, e_cn, e_cne, e_cnf, e_arg1, e_arg2, e_lst, e_lse, e_ls0, e_ls1, e_ls2, e_ls3, e_ls4, e_ls5, e_ls6, e_ls7, e_ls8, e_tup, e_tue, e_tu0, e_tu1, e_tu2, e_tu3, e_tu4, e_dnew, e_cb, e_cbo, e_cbe, e_lens, e_lenl, e_lent, e_lenc, e_list, e_listt, e_inti, e_intb, e_ints, e_max, e_min, e_kst, e_ktp, e_kdp, e_ki, e_ks, e_kb, e_kn, e_ktb, e_kta, e_xst, e_xtp, e_xdp, e_xbw, e_xan, e_xcb, e_xs, e_si, e_ss, e_sb, e_sn, e_slt, e_sls, e_slb, e_sdp, e_sst, e_its, e_itbl, e_ix, e_ixo, e_ixe, e_ixf, e_nop, e_som, e_smo, e_sl, e_slo, e_gsl, e_gss, e_rev, e_dg1, e_d1o, e_d1k, e_m1, e_m1o, e_call, e_cl, e_cle, e_re, e_ree, e_rt, e_rnx, e_rer, e_def0, e_def1, e_def2, e_def3, e_def4, e_def5, e_def6, e_seq, e_sqn, e_sqr, e_sqe, e_sqb, e_sqc, e_set, e_seo, e_see, e_se2, e_if, e_ift, e_iff, e_ifr, e_ret, e_rto, e_rte, e_exp, e_epo, e_epe, e_rai, e_frz, e_fro, e_frc, e_fzo, e_fzd, e_fzs, e_fzb, e_fzu, e_for, e_fos, e_fob, e_foe, e_lii, e_lio, e_tii, e_tio, e_sti, e_sto, e_r1, e_r1o, e_r2, e_r2o, e_comp, e_coo, e_cc, e_yes, e_na0, e_nas, e_nab, e_nao, e_nad, e_nau, e_naa, e_nae, e_ne0, e_nes, e_neb, e_neo, e_ned, e_neu, e_nea, e_nee, e_app, e_apo, e_sei, e_sio, e_si2, e_dput, e_dpi, e_dpb, e_dp2, e_try, e_tyn, e_tyr, e_tye, e_exs, e_exn, e_uns, e_unn, e_ber, e_ben, e_tka, e_tko, e_ise, e_ero, e_unp, e_unt, e_imi, e_ims, e_imb, e_imn, e_imt, e_im0, e_imc, List.map_cons, List.map_nil, List.cons_append, List.nil_append, List.replicate_succ, List.replicate_zero, List.length_cons, List.length_nil, List.getElem?_cons_zero, List.getElem?_cons_succ, List.set_cons_zero, List.set_cons_succ, Option.map_some, Option.map_none, Option.bind_some, Option.isSome_some, Option.isSome_none, if_true, if_false, reduceIte, Bool.and_true, Bool.true_and, Bool.and_false, Bool.false_and, Bool.or_true, Bool.true_or, Bool.or_false, Bool.false_or, Bool.not_true, Bool.not_false, Nat.reduceAdd, Nat.reduceEqDiff, Bool.false_eq_true, decide_true, decide_false, reduceCtorEq, and_self, true_and, and_true, true_or, or_true, false_or, or_false, or_self, Nat.reducePow, Nat.reduceLeDiff, Nat.reduceSub, Int.reduceLT, Int.reduceLE, Int.reduceAdd, Int.reduceSub, Int.reduceMul, Int.reduceNeg, Int.reduceEq, List.length_map, List.length_append, e_it0, e_it1, e_it2, e_it3, e_it4, e_itt0, e_itt1, e_itt2, e_itt3, e_itt4, eq_self, Int.reduceToNat, false_and, and_false, Int.reducePow, e_pla, e_ple, hnd, hs2, isi_list, duS, heq, hlt, px, py, pz]
  | some c =>
    rw [hd] at hnd
    rcases duE_kind hd with rfl | rfl
    · simp only [e_var, e_sml, e_smr, e_sh, e_bo, e_ow, e_dp, e_an, e_con, e_opt, e_op, e_op2, e_op2e, e_op2f, e_un, e_op1, e_op1e, e_add, e_adds, e_addl, e_sub, e_mul, e_muls, e_mull, e_mulI, e_div, e_mod, e_lt, e_le, e_gt, e_ge, e_neg, e_not, e_isn, e_notn, e_nn, e_ni, e_ns, e_nb, e_nl, e_nt, e_eqs, e_eqi, e_eqb, e_eqn, e_eqni, e_eqin, e_eqns, e_eqsn, e_eqsi, e_eqis, e_eq, e_ne, e_in, e_nin, e_din, e_dnin, e_dget, e_dget1, e_and, e_andt, e_andf, e_ande, e_or, e_orf, e_ort, e_tst, e_ts, e_tse, e_band, e_bat, e_baf, e_bae, e_bor, e_bof, e_bot, e_boe, e_bnot, e_bn, e_bne, e_ife, e_iet, e_ief, e_ch, e_ch2, e_cht, e_chf, e_nil, e_cons, e_cn, e_cne, e_cnf, e_arg1, e_arg2, e_lst, e_lse, e_ls0, e_ls1, e_ls2, e_ls3, e_ls4, e_ls5, e_ls6, e_ls7, e_ls8, e_tup, e_tue, e_tu0, e_tu1, e_tu2, e_tu3, e_tu4, e_dnew, e_cb, e_cbo, e_cbe, e_lens, e_lenl, e_lent, e_lenc, e_list, e_listt, e_inti, e_intb, e_ints, e_max, e_min, e_kst, e_ktp, e_kdp, e_ki, e_ks, e_kb, e_kn, e_ktb, e_kta, e_xst, e_xtp, e_xdp, e_xbw, e_xan, e_xcb, e_xs, e_si, e_ss, e_sb, e_sn, e_slt, e_sls, e_slb, e_sdp, e_sst, e_its, e_itbl, e_ix, e_ixo, e_ixe, e_ixf, e_nop, e_som, e_smo, e_sl, e_slo, e_gsl, e_gss, e_rev, e_dg1, e_d1o, e_d1k, e_m1, e_m1o, e_call, e_cl, e_cle, e_re, e_ree, e_rt, e_rnx, e_rer, e_def0, e_def1, e_def2, e_def3, e_def4, e_def5, e_def6, e_seq, e_sqn, e_sqr, e_sqe, e_sqb, e_sqc, e_set, e_seo, e_see, e_se2, e_if, e_ift, e_iff, e_ifr, e_ret, e_rto, e_rte, e_exp, e_epo, e_epe, e_rai, e_frz, e_fro, e_frc, e_fzo, e_fzd, e_fzs, e_fzb, e_fzu, e_for, e_fos, e_fob, e_foe, e_lii, e_lio, e_tii, e_tio, e_sti, e_sto, e_r1, e_r1o, e_r2, e_r2o, e_comp, e_coo, e_cc, e_yes, e_na0, e_nas, e_nab, e_nao, e_nad, e_nau, e_naa, e_nae, e_ne0, e_nes, e_neb, e_neo, e_ned, e_neu, e_nea, e_nee, e_app, e_apo, e_sei, e_sio, e_si2, e_dput, e_dpi, e_dpb, e_dp2, e_try, e_tyn, e_tyr, e_tye, e_exs, e_exn, e_uns, e_unn, e_ber, e_ben, e_tka, e_tko, e_ise, e_ero, e_unp, e_unt, e_imi, e_ims, e_imb, e_imn, e_imt, e_im0, e_imc, List.map_cons, List.map_nil, List.cons_append, List.nil_append, List.replicate_succ, List.replicate_zero, List.length_cons, List.length_nil, List.getElem?_cons_zero, List.getElem?_cons_succ, List.set_cons_zero, List.set_cons_succ, Option.map_some, Option.map_none, Option.bind_some, Option.isSome_some, Option.isSome_none, if_true, if_false, reduceIte, Bool.and_true, Bool.true_and, Bool.and_false, Bool.false_and, Bool.or_true, Bool.true_or, Bool.or_false, Bool.false_or, Bool.not_true, Bool.not_false, Nat.reduceAdd, Nat.reduceEqDiff, Bool.false_eq_true, decide_true, decide_false, reduceCtorEq, and_self, true_and, and_true, true_or, or_true, false_or, or_false, or_self, Nat.reducePow, Nat.reduceLeDiff, Nat.reduceSub, Int.reduceLT, Int.reduceLE, Int.reduceAdd, Int.reduceSub, Int.reduceMul, Int.reduceNeg, Int.reduceEq, List.length_map, List.length_append, e_it0, e_it1, e_it2, e_it3, e_it4, e_itt0, e_itt1, e_itt2, e_itt3, e_itt4, eq_self, Int.reduceToNat, false_and, and_false, Int.reducePow, e_pla, e_ple, hnd, duS, heq, px, py, pz]
    · simp only [e_var, e_sml, e_smr, e_sh, e_bo, e_ow, e_dp, e_an, e_con, e_opt, e_op, e_op2, e_op2e, e_op2f, e_un, e_op1, e_op1e, e_add, e_adds, e_addl, e_sub, e_mul, e_muls, e_mull, e_mulI, e_div, e_mod, e_lt, e_le, e_gt, e_ge, e_neg, e_not, e_isn, e_notn, e_nn, e_ni, e_ns, e_nb, e_nl, e_nt, e_eqs, e_eqi, e_eqb, e_eqn, e_eqni, e_eqin, e_eqns, e_eqsn, e_eqsi, e_eqis, e_eq, e_ne, e_in, e_nin, e_din, e_dnin, e_dget, e_dget1, e_and, e_andt, e_andf, e_ande, e_or, e_orf, e_ort, e_tst, e_ts, e_tse, e_band, e_bat, e_baf, e_bae, e_bor, e_bof, e_bot, e_boe, e_bnot, e_bn, e_bne, e_ife, e_iet, e_ief, e_ch, e_ch2, e_cht, e_chf, e_nil, e_cons, e_cn, e_cne, e_cnf, e_arg1, e_arg2, e_lst, e_lse, e_ls0, e_ls1, e_ls2, e_ls3, e_ls4, e_ls5, e_ls6, e_ls7, e_ls8, e_tup, e_tue, e_tu0, e_tu1, e_tu2, e_tu3, e_tu4, e_dnew, e_cb, e_cbo, e_cbe, e_lens, e_lenl, e_lent, e_lenc, e_list, e_listt, e_inti, e_intb, e_ints, e_max, e_min, e_kst, e_ktp, e_kdp, e_ki, e_ks, e_kb, e_kn, e_ktb, e_kta, e_xst, e_xtp, e_xdp, e_xbw, e_xan, e_xcb, e_xs, e_si, e_ss, e_sb, e_sn, e_slt, e_sls, e_slb, e_sdp, e_sst, e_its, e_itbl, e_ix, e_ixo, e_ixe, e_ixf, e_nop, e_som, e_smo, e_sl, e_slo, e_gsl, e_gss, e_rev, e_dg1, e_d1o, e_d1k, e_m1, e_m1o, e_call, e_cl, e_cle, e_re, e_ree, e_rt, e_rnx, e_rer, e_def0, e_def1, e_def2, e_def3, e_def4, e_def5, e_def6, e_seq, e_sqn, e_sqr, e_sqe, e_sqb, e_sqc, e_set, e_seo, e_see, e_se2, e_if, e_ift, e_iff, e_ifr, e_ret, e_rto, e_rte, e_exp, e_epo, e_epe, e_rai, e_frz, e_fro, e_frc, e_fzo, e_fzd, e_fzs, e_fzb, e_fzu, e_for, e_fos, e_fob, e_foe, e_lii, e_lio, e_tii, e_tio, e_sti, e_sto, e_r1, e_r1o, e_r2, e_r2o, e_comp, e_coo, e_cc, e_yes, e_na0, e_nas, e_nab, e_nao, e_nad, e_nau, e_naa, e_nae, e_ne0, e_nes, e_neb, e_neo, e_ned, e_neu, e_nea, e_nee, e_app, e_apo, e_sei, e_sio, e_si2, e_dput, e_dpi, e_dpb, e_dp2, e_try, e_tyn, e_tyr, e_tye, e_exs, e_exn, e_uns, e_unn, e_ber, e_ben, e_tka, e_tko, e_ise, e_ero, e_unp, e_unt, e_imi, e_ims, e_imb, e_imn, e_imt, e_im0, e_imc, List.map_cons, List.map_nil, List.cons_append, List.nil_append, List.replicate_succ, List.replicate_zero, List.length_cons, List.length_nil, List.getElem?_cons_zero, List.getElem?_cons_succ, List.set_cons_zero, List.set_cons_succ, Option.map_some, Option.map_none, Option.bind_some, Option.isSome_some, Option.isSome_none, if_true, if_false, reduceIte, Bool.and_true, Bool.true_and, Bool.and_false, Bool.false_and, Bool.or_true, Bool.true_or, Bool.or_false, Bool.false_or, Bool.not_true, Bool.not_false, Nat.reduceAdd, Nat.reduceEqDiff, Bool.false_eq_true, decide_true, decide_false, reduceCtorEq, and_self, true_and, and_true, true_or, or_true, false_or, or_false, or_self, Nat.reducePow, Nat.reduceLeDiff, Nat.reduceSub, Int.reduceLT, Int.reduceLE, Int.reduceAdd, Int.reduceSub, Int.reduceMul, Int.reduceNeg, Int.reduceEq, List.length_map, List.length_append, e_it0, e_it1, e_it2, e_it3, e_it4, e_itt0, e_itt1, e_itt2, e_itt3, e_itt4, eq_self, Int.reduceToNat, false_and, and_false, Int.reducePow, e_pla, e_ple, hnd, duS, heq, px, py, pz]


end DD

set_option maxRecDepth 100000
set_option maxHeartbeats 4000000
namespace DD
open PySem L2
def top (i : Nat) : Stmt := PySem.Challenge.pw_farebreak_k03_journeys.main.body.getD i (.Pass ⟨0, 0, 0, 0⟩)
abbrev s_is_place : Stmt := top 7
abbrev nm_is_place : List Str := ["thing", "sign"]
theorem sc_is_place : FnScope nm_is_place ["thing"] (defScope s_is_place) := ⟨rfl, rfl, rfl, by decide +kernel, rfl, by decide +kernel, by decide +kernel⟩
abbrev s_need_journey : Stmt := top 10
abbrev nm_need_journey : List Str := ["places", "ahead", "place"]
theorem sc_need_journey : FnScope nm_need_journey ["places"] (defScope s_need_journey) := ⟨rfl, rfl, rfl, by decide +kernel, rfl, by decide +kernel, by decide +kernel⟩
abbrev s__law_cell_at : Stmt := top 12
abbrev nm__law_cell_at : List Str := ["_law_script", "_law_k"]
theorem sc__law_cell_at : FnScope nm__law_cell_at ["_law_script", "_law_k"] (defScope s__law_cell_at) := ⟨rfl, rfl, rfl, by decide +kernel, rfl, by decide +kernel, by decide +kernel⟩
abbrev s__law_place : Stmt := top 13
abbrev nm__law_place : List Str := ["_law_cell", "_law_letters", "_law_k"]
theorem sc__law_place : FnScope nm__law_place ["_law_cell"] (defScope s__law_place) := ⟨rfl, rfl, rfl, by decide +kernel, rfl, by decide +kernel, by decide +kernel⟩
abbrev s__law_row : Stmt := top 14
abbrev nm__law_row : List Str := ["_law_script", "_law_size", "_law_row_here", "_law_k", "_law_name"]
theorem sc__law_row : FnScope nm__law_row ["_law_script"] (defScope s__law_row) := ⟨rfl, rfl, rfl, by decide +kernel, rfl, by decide +kernel, by decide +kernel⟩
abbrev s__law_bad : Stmt := top 15
abbrev nm__law_bad : List Str := ["_law_cell", "_law_name", "_law_at", "_law_odd"]
theorem sc__law_bad : FnScope nm__law_bad ["_law_cell", "_law_name"] (defScope s__law_bad) := ⟨rfl, rfl, rfl, by decide +kernel, rfl, by decide +kernel, by decide +kernel⟩
abbrev s__law_is_place : Stmt := top 16
abbrev nm__law_is_place : List Str := ["_law_thing", "_law_sign"]
theorem sc__law_is_place : FnScope nm__law_is_place ["_law_thing"] (defScope s__law_is_place) := ⟨rfl, rfl, rfl, by decide +kernel, rfl, by decide +kernel, by decide +kernel⟩
abbrev s__law_due : Stmt := top 17
abbrev nm__law_due : List Str := ["_law_row_here", "_law_k"]
theorem sc__law_due : FnScope nm__law_due ["_law_row_here"] (defScope s__law_due) := ⟨rfl, rfl, rfl, by decide +kernel, rfl, by decide +kernel, by decide +kernel⟩
abbrev s_law : Stmt := top 18
abbrev nm_law : List Str := ["_law_script", "_law_row_here", "_law_kind", "_law_turn", "_law_at", "_law_cell", "_law_handed", "_law_due_here", "_law_found", "error", "_law_told"]
theorem sc_law : FnScope nm_law ["_law_script"] (defScope s_law) := ⟨rfl, rfl, rfl, by decide +kernel, rfl, by decide +kernel, by decide +kernel⟩
theorem ok_is_place {P : Program} {w : World} {mg : Str → Option Value} {base : Heap} {T : Par} {f : Addr} {fd : FuncData} {t_LETTERS t_MOST_SIGNS : Tok} (F : Fun T.K "is_place" "is_place" s_is_place f fd) (hm : mg "is_place" = some (.ref f)) (b_isinstance : mg "isinstance" = none) (b_len : mg "len" = none) (b_str : mg "str" = none) (k_LETTERS : mg "LETTERS" = some (.str "abcdefghijklmnopqrstuvwxyz" t_LETTERS)) (k_MOST_SIGNS : mg "MOST_SIGNS" = some (.int 12 t_MOST_SIGNS)) :
    DefAt P w T.K mg base T "is_place" 1 ["thing"] g_is_place := by
  refine ⟨f, fd, hm, F.kp, F.binds (ps := ["thing"]) (fun _ _ _ _ _ _ us hl => match us, hl with | [_], _ => rfl), fn_def (k := 0) F sc_is_place rfl rfl (fun cdv A outer s H E hr => ?_)⟩
  unfold d_is_place
  exact (sd_seq (sd_if (pt_w (wd_or (td_not (pt_v (pd_isi (n := "str") (pd_var 0) b_isinstance b_str (by decide +kernel)))) (wd_or1 (td_not (td_chain op_le os_le op_le os_le pd_int (pd_len (pd_var 0) b_len) (pd_globI k_MOST_SIGNS)))))) (sd_one (sd_ret pd_bl)) sd_nil)
  (sd_seq (sd_for 1 (passes_of rfl) sc_is_place.nd (id_str (pd_var 0)) (sd_one (sd_if (td_notIn (pd_var 1) (pd_globS k_LETTERS)) (sd_one (sd_ret pd_bl)) sd_nil)))
  (sd_one (sd_ret pd_bl))))

theorem ok_need_journey {P : Program} {w : World} {mg : Str → Option Value} {base : Heap} {T : Par} {f : Addr} {fd : FuncData} {t_MOST_PLACES : Tok} (F : Fun T.K "need_journey" "need_journey" s_need_journey f fd) (hm : mg "need_journey" = some (.ref f)) (b_len : mg "len" = none) (b_list : mg "list" = none) (k_MOST_PLACES : mg "MOST_PLACES" = some (.int 40 t_MOST_PLACES)) (x_BadJourney : ExcAt T.K mg T "BadJourney" .journey) (x_BadPlace : ExcAt T.K mg T "BadPlace" .place) (G_is_place : DefAt P w T.K mg base T "is_place" 1 ["thing"] g_is_place) :
    DefAt P w T.K mg base T "need_journey" 2 ["places"] g_need_journey := by
  refine ⟨f, fd, hm, F.kp, F.binds (ps := ["places"]) (fun _ _ _ _ _ _ us hl => match us, hl with | [_], _ => rfl), fn_def (k := 1) F sc_need_journey rfl rfl (fun cdv A outer s H E hr => ?_)⟩
  unfold d_need_journey
  exact (sd_seq (sd_if (td_not (td_chain op_le os_le op_le os_le pd_int (pd_len (pd_var 0) b_len) (pd_globI k_MOST_PLACES))) (sd_one (sd_raiseD x_BadJourney (takes_of rfl rfl rfl rfl))) sd_nil)
  (sd_seq (sd_set 1 pd_non sc_need_journey.nd)
  (sd_seq (sd_for 2 (passes_of rfl) sc_need_journey.nd (id_list (pd_var 0)) (sd_seq (sd_if (td_not (pt_v (pd_callD G_is_place hr (by decide) (takes_of rfl rfl rfl rfl) (ad_cons (pd_var 2) ad_nil)))) (sd_one (sd_raiseD x_BadPlace (takes_of rfl rfl rfl rfl))) sd_nil)
  (sd_seq (sd_if (td_eq hr.units (pd_var 2) (pd_var 1)) (sd_one (sd_raiseD x_BadJourney (takes_of rfl rfl rfl rfl))) sd_nil)
  (sd_one (sd_set 1 (pd_var 2) sc_need_journey.nd)))))
  (sd_one (sd_ret (pd_list (pd_var 0) b_list))))))

theorem ok__law_cell_at {P : Program} {w : World} {mg : Str → Option Value} {base : Heap} {T : Par} {f : Addr} {fd : FuncData} (F : Fun T.K "_law_cell_at" "_law_cell_at" s__law_cell_at f fd) (hm : mg "_law_cell_at" = some (.ref f)) (b_len : mg "len" = none) :
    DefAt P w T.K mg base T "_law_cell_at" 1 ["_law_script", "_law_k"] g_law_cell_at := by
  refine ⟨f, fd, hm, F.kp, F.binds (ps := ["_law_script", "_law_k"]) (fun _ _ _ _ _ _ us hl => match us, hl with | [_, _], _ => rfl), fn_def (k := 0) F sc__law_cell_at rfl rfl (fun cdv A outer s H E hr => ?_)⟩
  unfold d_law_cell_at
  exact (sd_seq (sd_if (td_lt (pd_var 1) (pd_len (pd_var 0) b_len)) (sd_one (sd_ret (pd_ix (pd_var 0) (pd_var 1)))) sd_nil)
  (sd_one (sd_ret pd_int)))

theorem ok__law_place {P : Program} {w : World} {mg : Str → Option Value} {base : Heap} {T : Par} {f : Addr} {fd : FuncData} (F : Fun T.K "_law_place" "_law_place" s__law_place f fd) (hm : mg "_law_place" = some (.ref f)) (b_range : mg "range" = none) :
    DefAt P w T.K mg base T "_law_place" 1 ["_law_cell"] g_law_place := by
  refine ⟨f, fd, hm, F.kp, F.binds (ps := ["_law_cell"]) (fun _ _ _ _ _ _ us hl => match us, hl with | [_], _ => rfl), fn_def (k := 0) F sc__law_place rfl rfl (fun cdv A outer s H E hr => ?_)⟩
  unfold d_law_place
  exact (sd_seq (sd_set 1 pd_str sc__law_place.nd)
  (sd_one (sd_ret (pd_join pd_str (pd_lc 2 sc__law_place.nd (id_range1 (pd_add pd_int (pd_mod (pd_var 0) pd_int)) b_range) (blkOk_by (own := [("_law_k", 2)]) (N := nm__law_place) (sc := defScope s__law_place) (by decide +kernel)) (fun _ => pg_name (i := 2) sc__law_place.nd rfl (Or.inl rfl)) (fun _ => td_nil) (fun _ => (pd_ix (pd_var 1) (pd_mod (pd_add (pd_div (pd_var 0) pd_int) (pd_mulA (pd_var 2) (pd_mod (pd_div (pd_var 0) pd_int) pd_int))) pd_int))))))))

theorem ok__law_row {P : Program} {w : World} {mg : Str → Option Value} {base : Heap} {T : Par} {f : Addr} {fd : FuncData} (F : Fun T.K "_law_row" "_law_row" s__law_row f fd) (hm : mg "_law_row" = some (.ref f)) (b_int : mg "int" = none) (b_range : mg "range" = none) (G__law_cell_at : DefAt P w T.K mg base T "_law_cell_at" 1 ["_law_script", "_law_k"] g_law_cell_at) (G__law_place : DefAt P w T.K mg base T "_law_place" 1 ["_law_cell"] g_law_place) :
    DefAt P w T.K mg base T "_law_row" 2 ["_law_script"] g_law_row := by
  refine ⟨f, fd, hm, F.kp, F.binds (ps := ["_law_script"]) (fun _ _ _ _ _ _ us hl => match us, hl with | [_], _ => rfl), fn_def (k := 1) F sc__law_row rfl rfl (fun cdv A outer s H E hr => ?_)⟩
  unfold d_law_row
  exact (sd_seq (sd_set 1 (pd_mod (pd_callD G__law_cell_at hr (by decide) (takes_of rfl rfl rfl rfl) (ad_cons (pd_var 0) (ad_cons pd_int ad_nil))) pd_int) sc__law_row.nd)
  (sd_seq (sd_if (td_eq hr.units (pd_mod (pd_div (pd_callD G__law_cell_at hr (by decide) (takes_of rfl rfl rfl rfl) (ad_cons (pd_var 0) (ad_cons pd_int ad_nil))) pd_int) pd_int) pd_int) (sd_one (sd_set 1 (pd_ix (pd_lst (ad_cons pd_int (ad_cons pd_int (ad_cons pd_int (ad_cons pd_int (ad_cons pd_int (ad_cons pd_int ad_nil))))))) (pd_mod (pd_div (pd_callD G__law_cell_at hr (by decide) (takes_of rfl rfl rfl rfl) (ad_cons (pd_var 0) (ad_cons pd_int ad_nil))) pd_int) pd_int)) sc__law_row.nd)) sd_nil)
  (sd_seq (sd_set 2 (pd_lst ad_nil) sc__law_row.nd)
  (sd_seq (sd_for 3 (passes_of rfl) sc__law_row.nd (id_range1 (pd_var 1) b_range) (sd_seq (sd_set 4 (pd_callD G__law_place hr (by decide) (takes_of rfl rfl rfl rfl) (ad_cons (pd_add (pd_callD G__law_cell_at hr (by decide) (takes_of rfl rfl rfl rfl) (ad_cons (pd_var 0) (ad_cons (pd_add pd_int (pd_mod (pd_var 3) pd_int)) ad_nil))) (pd_mulA pd_int (pd_div (pd_var 3) pd_int))) ad_nil)) sc__law_row.nd)
  (sd_seq (sd_if (pt_w (wd_and (td_gt (pd_var 3) pd_int) (wd_and1 (td_eq hr.units (pd_var 4) (pd_ix (pd_var 2) (pd_sub (pd_var 3) pd_int)))))) (sd_one (sd_set 4 (pd_ix (pd_lst (ad_cons pd_str (ad_cons pd_str ad_nil))) (pd_intc (pd_eq hr.units (pd_var 4) pd_str) b_int)) sc__law_row.nd)) sd_nil)
  (sd_one (sd_append 2 (pd_var 4))))))
  (sd_one (sd_frzF [2] (sd_ret (pd_var 2))))))))

theorem ok__law_bad {P : Program} {w : World} {mg : Str → Option Value} {base : Heap} {T : Par} {f : Addr} {fd : FuncData} (F : Fun T.K "_law_bad" "_law_bad" s__law_bad f fd) (hm : mg "_law_bad" = some (.ref f)) :
    DefAt P w T.K mg base T "_law_bad" 1 ["_law_cell", "_law_name"] g_law_bad := by
  refine ⟨f, fd, hm, F.kp, F.binds (ps := ["_law_cell", "_law_name"]) (fun _ _ _ _ _ _ us hl => match us, hl with | [_, _], _ => rfl), fn_def (k := 0) F sc__law_bad rfl rfl (fun cdv A outer s H E hr => ?_)⟩
  unfold d_law_bad
  exact (sd_seq (sd_set 2 (pd_mod (pd_div (pd_var 0) pd_int) pd_int) sc__law_bad.nd)
  (sd_seq (sd_set 3 (pd_add (pd_slice (pd_var 1) od_none (od_some (pd_var 2))) (pd_ix pd_str (pd_mod (pd_div (pd_var 0) pd_int) pd_int))) sc__law_bad.nd)
  (sd_seq (sd_set 3 (pd_add (pd_var 3) (pd_slice (pd_slice (pd_var 1) (od_some (pd_var 2)) od_none) od_none (od_some pd_int))) sc__law_bad.nd)
  (sd_one (sd_ret (pd_ix (pd_lst (ad_cons pd_str (ad_cons (pd_mulA (pd_slice (pd_var 1) od_none (od_some pd_int)) pd_int) (ad_cons (pd_slice (pd_var 3) od_none (od_some pd_int)) (ad_cons pd_non (ad_cons pd_int (ad_cons (pd_mulA (pd_slice (pd_var 1) od_none (od_some pd_int)) pd_int) (ad_cons (pd_slice (pd_var 3) od_none (od_some pd_int)) ad_nil)))))))) (pd_mod (pd_var 0) pd_int)))))))

theorem ok__law_is_place {P : Program} {w : World} {mg : Str → Option Value} {base : Heap} {T : Par} {f : Addr} {fd : FuncData} (F : Fun T.K "_law_is_place" "_law_is_place" s__law_is_place f fd) (hm : mg "_law_is_place" = some (.ref f)) (b_isinstance : mg "isinstance" = none) (b_len : mg "len" = none) (b_str : mg "str" = none) :
    DefAt P w T.K mg base T "_law_is_place" 1 ["_law_thing"] g_law_is_place := by
  refine ⟨f, fd, hm, F.kp, F.binds (ps := ["_law_thing"]) (fun _ _ _ _ _ _ us hl => match us, hl with | [_], _ => rfl), fn_def (k := 0) F sc__law_is_place rfl rfl (fun cdv A outer s H E hr => ?_)⟩
  unfold d_law_is_place
  exact (sd_seq (sd_if (pt_w (wd_or (td_not (pt_v (pd_isi (n := "str") (pd_var 0) b_isinstance b_str (by decide +kernel)))) (wd_or1 (td_not (td_chain op_le os_le op_le os_le pd_int (pd_len (pd_var 0) b_len) pd_int))))) (sd_one (sd_ret pd_bl)) sd_nil)
  (sd_one (sd_ret (pd_eq hr.units (pd_lc 1 sc__law_is_place.nd (id_str (pd_var 0)) (blkOk_by (own := [("_law_sign", 1)]) (N := nm__law_is_place) (sc := defScope s__law_is_place) (by decide +kernel)) (fun _ => pg_name (i := 1) sc__law_is_place.nd rfl (Or.inl rfl)) (fun _ => (td_one (td_notIn (pd_var 1) pd_str))) (fun _ => (pd_var 1))) (pd_lst ad_nil)))))

theorem ok__law_due {P : Program} {w : World} {mg : Str → Option Value} {base : Heap} {T : Par} {f : Addr} {fd : FuncData} (F : Fun T.K "_law_due" "_law_due" s__law_due f fd) (hm : mg "_law_due" = some (.ref f)) (b_len : mg "len" = none) (b_range : mg "range" = none) (G__law_is_place : DefAt P w T.K mg base T "_law_is_place" 1 ["_law_thing"] g_law_is_place) :
    DefAt P w T.K mg base T "_law_due" 2 ["_law_row_here"] g_law_due := by
  refine ⟨f, fd, hm, F.kp, F.binds (ps := ["_law_row_here"]) (fun _ _ _ _ _ _ us hl => match us, hl with | [_], _ => rfl), fn_def (k := 1) F sc__law_due rfl rfl (fun cdv A outer s H E hr => ?_)⟩
  unfold d_law_due
  exact (sd_seq (sd_if (td_not (td_chain op_le os_le op_le os_le pd_int (pd_len (pd_var 0) b_len) pd_int)) (sd_one (sd_ret pd_str)) sd_nil)
  (sd_seq (sd_for 1 (passes_of rfl) sc__law_due.nd (id_range1 (pd_len (pd_var 0) b_len) b_range) (sd_seq (sd_if (td_not (pt_v (pd_callD G__law_is_place hr (by decide) (takes_of rfl rfl rfl rfl) (ad_cons (pd_ix (pd_var 0) (pd_var 1)) ad_nil)))) (sd_one (sd_ret pd_str)) sd_nil)
  (sd_one (sd_if (pt_w (wd_and (td_gt (pd_var 1) pd_int) (wd_and1 (td_eq hr.units (pd_ix (pd_var 0) (pd_var 1)) (pd_ix (pd_var 0) (pd_sub (pd_var 1) pd_int)))))) (sd_one (sd_ret pd_str)) sd_nil))))
  (sd_one (sd_ret pd_str))))

theorem ok_law {P : Program} {w : World} {mg : Str → Option Value} {base : Heap} {T : Par} {f : Addr} {fd : FuncData} (F : Fun T.K "law" "law" s_law f fd) (b_ValueError : mg "ValueError" = none) (b_int : mg "int" = none) (b_isinstance : mg "isinstance" = none) (b_len : mg "len" = none) (b_list : mg "list" = none) (b_range : mg "range" = none) (c_BadJourney : ClsAt T.K mg T "BadJourney" (takeOnly .journey)) (c_BadPlace : ClsAt T.K mg T "BadPlace" (takeOnly .place)) (c_FareError : ClsAt T.K mg T "FareError" takeAll) (excC : ∀ c, ExcC T.K (T.cx c)) (excV : ∀ c, PySem.W.kitOne T.K (.ref (T.cx c)) (.type "ValueError") = some true) (G__law_bad : DefAt P w T.K mg base T "_law_bad" 1 ["_law_cell", "_law_name"] g_law_bad) (G__law_cell_at : DefAt P w T.K mg base T "_law_cell_at" 1 ["_law_script", "_law_k"] g_law_cell_at) (G__law_due : DefAt P w T.K mg base T "_law_due" 2 ["_law_row_here"] g_law_due) (G__law_place : DefAt P w T.K mg base T "_law_place" 1 ["_law_cell"] g_law_place) (G__law_row : DefAt P w T.K mg base T "_law_row" 2 ["_law_script"] g_law_row) (G_need_journey : DefAt P w T.K mg base T "need_journey" 2 ["places"] g_need_journey) :
    FnOk P w T.K mg base (L2.CX P w) 3 f fd ["_law_script"] (spOf T g_law) := by
  refine fn_def (k := 2) F sc_law rfl rfl (fun cdv A outer s H E hr => ?_)
  unfold d_law
  exact (sd_seq (sd_set 1 (pd_callD G__law_row hr (by decide) (takes_of rfl rfl rfl rfl) (ad_cons (pd_var 0) ad_nil)) sc_law.nd)
  (sd_seq (sd_set 2 (pd_mod (pd_callD G__law_cell_at hr (by decide) (takes_of rfl rfl rfl rfl) (ad_cons (pd_var 0) (ad_cons pd_int ad_nil))) pd_int) sc_law.nd)
  (sd_seq (sd_for 3 (passes_of rfl) sc_law.nd (id_range1 (pd_var 2) b_range) (sd_one (sd_if (td_gt (pd_len (pd_var 1) b_len) pd_int) (sd_seq (sd_set 4 (pd_mod (pd_callD G__law_cell_at hr (by decide) (takes_of rfl rfl rfl rfl) (ad_cons (pd_var 0) (ad_cons (pd_add pd_int (pd_var 3)) ad_nil))) (pd_len (pd_var 1) b_len)) sc_law.nd)
  (sd_seq (sd_set 5 (pd_callD G__law_cell_at hr (by decide) (takes_of rfl rfl rfl rfl) (ad_cons (pd_var 0) (ad_cons (pd_sub pd_int (pd_var 3)) ad_nil))) sc_law.nd)
  (sd_one (sd_if (pt_w (wd_or (td_eq hr.units (pd_var 4) pd_int) (wd_or1 (td_eq hr.units (pd_mod (pd_div (pd_callD G__law_cell_at hr (by decide) (takes_of rfl rfl rfl rfl) (ad_cons (pd_var 0) (ad_cons pd_int ad_nil))) (pd_add pd_int (pd_var 3))) pd_int) pd_int)))) (sd_one (sd_seti 1 (pd_callD G__law_bad hr (by decide) (takes_of rfl rfl rfl rfl) (ad_cons (pd_var 5) (ad_cons (pd_callD G__law_place hr (by decide) (takes_of rfl rfl rfl rfl) (ad_cons (pd_div (pd_var 5) pd_int) ad_nil)) ad_nil))) (pd_var 4))) (sd_one (sd_seti 1 (pd_ix (pd_var 1) (pd_sub (pd_var 4) pd_int)) (pd_var 4))))))) sd_nil)))
  (sd_seq (sd_set 6 (pd_list (pd_var 1) b_list) sc_law.nd)
  (sd_seq (sd_set 7 (pd_callD G__law_due hr (by decide) (takes_of rfl rfl rfl rfl) (ad_cons (pd_var 1) ad_nil)) sc_law.nd)
  (sd_seq (sd_tryA 9 sc_law.nd c_FareError (takes_of rfl rfl rfl rfl) (fun W2 pn xe tk hp => (sd_one (sd_set 8 (pd_callD G_need_journey hr (by decide) tk (ad_cons (pd_var 6) ad_nil)) sc_law.nd))) (fun a oe cls d pn hz hf => (sd_seq (sd_set 10 (pd_ix (pd_lst (ad_cons pd_str (ad_cons pd_str ad_nil))) (pd_intc (pd_isEO 9 hz hf excC c_BadJourney b_isinstance) b_int)) sc_law.nd)
  (sd_seq (sd_if (pt_w (wd_or (td_eq hr.units (pd_isEO 9 hz hf excC c_BadPlace b_isinstance) (pd_isEO 9 hz hf excC c_BadJourney b_isinstance)) (wd_or1 (td_not (pt_v (pd_isEV 9 hz hf excC excV b_isinstance b_ValueError)))))) (sd_one (sd_ret pd_bl)) sd_nil)
  (sd_one (sd_ret (pd_and (pd_eq hr.units (pd_var 10) (pd_var 7)) (pd_one (pd_eq hr.units (pd_var 6) (pd_var 1))))))))))
  (sd_seq (sd_if (pt_w (wd_or (td_not (pt_v (pd_isi (n := "list") (pd_var 8) b_isinstance b_list (by decide +kernel)))) (wd_or (td_ne hr.units (pd_var 7) pd_str) (wd_or1 (td_ne hr.units (pd_var 8) (pd_var 1)))))) (sd_one (sd_ret pd_bl)) sd_nil)
  (sd_seq (sd_append 8 pd_str)
  (sd_one (sd_ret (pd_eq hr.units (pd_var 6) (pd_var 1))))))))))))

end DD

set_option maxRecDepth 100000
set_option maxHeartbeats 4000000
namespace DD
open PySem L2
theorem all_mk {l : PySem.W.OpenLaw} {w : World} {K : PySem.W.Frag} {h : Heap} {mg : Str → Option Value} {fa : Addr} (X : K.In h) (G : h.Ns mainGlobals mg) (hfa : mg "law" = some (.ref fa))
    {a_FareError : Addr}
    {a_BadPlace : Addr}
    {a_BadJourney : Addr}
    {t_LETTERS : Tok}
    {t_MOST_PLACES : Tok}
    {t_MOST_SIGNS : Tok}
    {f_is_place : Addr} {oc_is_place kV_is_place dc_is_place pm_is_place cd_is_place ct_is_place : Value} {od_is_place an_is_place : Option Addr} {sl_is_place : Array (Option Value)}
    {f_need_journey : Addr} {oc_need_journey kV_need_journey dc_need_journey pm_need_journey cd_need_journey ct_need_journey : Value} {od_need_journey an_need_journey : Option Addr} {sl_need_journey : Array (Option Value)}
    {f__law_cell_at : Addr} {oc__law_cell_at kV__law_cell_at dc__law_cell_at pm__law_cell_at cd__law_cell_at ct__law_cell_at : Value} {od__law_cell_at an__law_cell_at : Option Addr} {sl__law_cell_at : Array (Option Value)}
    {f__law_place : Addr} {oc__law_place kV__law_place dc__law_place pm__law_place cd__law_place ct__law_place : Value} {od__law_place an__law_place : Option Addr} {sl__law_place : Array (Option Value)}
    {f__law_row : Addr} {oc__law_row kV__law_row dc__law_row pm__law_row cd__law_row ct__law_row : Value} {od__law_row an__law_row : Option Addr} {sl__law_row : Array (Option Value)}
    {f__law_bad : Addr} {oc__law_bad kV__law_bad dc__law_bad pm__law_bad cd__law_bad ct__law_bad : Value} {od__law_bad an__law_bad : Option Addr} {sl__law_bad : Array (Option Value)}
    {f__law_is_place : Addr} {oc__law_is_place kV__law_is_place dc__law_is_place pm__law_is_place cd__law_is_place ct__law_is_place : Value} {od__law_is_place an__law_is_place : Option Addr} {sl__law_is_place : Array (Option Value)}
    {f__law_due : Addr} {oc__law_due kV__law_due dc__law_due pm__law_due cd__law_due ct__law_due : Value} {od__law_due an__law_due : Option Addr} {sl__law_due : Array (Option Value)}
    {f_law : Addr} {oc_law kV_law dc_law pm_law cd_law ct_law : Value} {od_law an_law : Option Addr} {sl_law : Array (Option Value)}
    (na_FareError : PySem.W.nsIn K mainGlobals "FareError" = some (some (.ref a_FareError)))
    (xx_FareError : PySem.W.excIn K a_FareError [.type "ValueError", .type "Exception", .type "BaseException", .type "object"] "ValueError.__new__" = true)
    (xk_FareError : PySem.W.keepIn K (.ref a_FareError) = true)
    (xb_FareError : PySem.W.subIn K (.ref a_FareError) (.type "BaseException") = some true)
    (xt_FareError : PySem.W.typeIn K (.ref a_FareError) = some (.type "type"))
    (xd_FareError : PySem.W.hasDictIn K a_FareError = true)
    (xg_FareError : PySem.W.findIn K (.ref a_FareError) "__getattribute__" = some (some (.builtin "BaseException.__getattribute__")))
    (xa_FareError : PySem.W.findIn K (.ref a_FareError) "__getattr__" = some none)
    (xc_FareError : PySem.W.findIn K (.ref a_FareError) "__class__" = some (some (.builtin "object.__class__")))
    (xm_FareError : PySem.W.mroIn K a_FareError (.type "object") = some true)
    (xv_FareError : PySem.W.subIn K (.ref a_FareError) (.type "ValueError") = some true)
    (na_BadPlace : PySem.W.nsIn K mainGlobals "BadPlace" = some (some (.ref a_BadPlace)))
    (xx_BadPlace : PySem.W.excIn K a_BadPlace [.type "ValueError", .type "Exception", .type "BaseException", .type "object"] "ValueError.__new__" = true)
    (xk_BadPlace : PySem.W.keepIn K (.ref a_BadPlace) = true)
    (xb_BadPlace : PySem.W.subIn K (.ref a_BadPlace) (.type "BaseException") = some true)
    (xt_BadPlace : PySem.W.typeIn K (.ref a_BadPlace) = some (.type "type"))
    (xd_BadPlace : PySem.W.hasDictIn K a_BadPlace = true)
    (xg_BadPlace : PySem.W.findIn K (.ref a_BadPlace) "__getattribute__" = some (some (.builtin "BaseException.__getattribute__")))
    (xa_BadPlace : PySem.W.findIn K (.ref a_BadPlace) "__getattr__" = some none)
    (xc_BadPlace : PySem.W.findIn K (.ref a_BadPlace) "__class__" = some (some (.builtin "object.__class__")))
    (xm_BadPlace : PySem.W.mroIn K a_BadPlace (.type "object") = some true)
    (xv_BadPlace : PySem.W.subIn K (.ref a_BadPlace) (.type "ValueError") = some true)
    (na_BadJourney : PySem.W.nsIn K mainGlobals "BadJourney" = some (some (.ref a_BadJourney)))
    (xx_BadJourney : PySem.W.excIn K a_BadJourney [.type "ValueError", .type "Exception", .type "BaseException", .type "object"] "ValueError.__new__" = true)
    (xk_BadJourney : PySem.W.keepIn K (.ref a_BadJourney) = true)
    (xb_BadJourney : PySem.W.subIn K (.ref a_BadJourney) (.type "BaseException") = some true)
    (xt_BadJourney : PySem.W.typeIn K (.ref a_BadJourney) = some (.type "type"))
    (xd_BadJourney : PySem.W.hasDictIn K a_BadJourney = true)
    (xg_BadJourney : PySem.W.findIn K (.ref a_BadJourney) "__getattribute__" = some (some (.builtin "BaseException.__getattribute__")))
    (xa_BadJourney : PySem.W.findIn K (.ref a_BadJourney) "__getattr__" = some none)
    (xc_BadJourney : PySem.W.findIn K (.ref a_BadJourney) "__class__" = some (some (.builtin "object.__class__")))
    (xm_BadJourney : PySem.W.mroIn K a_BadJourney (.type "object") = some true)
    (xv_BadJourney : PySem.W.subIn K (.ref a_BadJourney) (.type "ValueError") = some true)
    (xn : PySem.W.specialIn K (.builtin "object.__class__") "__get__" = some (some (.builtin "getset_descriptor.__get__")))
    (xh : PySem.W.takesIn K (.builtin "object.__class__") = some true)
    (se_FareError_BadJourney : PySem.W.subIn K (.ref a_FareError) (.ref a_BadJourney) = some false)
    (se_BadPlace_BadJourney : PySem.W.subIn K (.ref a_BadPlace) (.ref a_BadJourney) = some false)
    (se_BadJourney_BadJourney : PySem.W.subIn K (.ref a_BadJourney) (.ref a_BadJourney) = some true)
    (se_FareError_BadPlace : PySem.W.subIn K (.ref a_FareError) (.ref a_BadPlace) = some false)
    (se_BadPlace_BadPlace : PySem.W.subIn K (.ref a_BadPlace) (.ref a_BadPlace) = some true)
    (se_BadJourney_BadPlace : PySem.W.subIn K (.ref a_BadJourney) (.ref a_BadPlace) = some false)
    (se_FareError_FareError : PySem.W.subIn K (.ref a_FareError) (.ref a_FareError) = some true)
    (se_BadPlace_FareError : PySem.W.subIn K (.ref a_BadPlace) (.ref a_FareError) = some true)
    (se_BadJourney_FareError : PySem.W.subIn K (.ref a_BadJourney) (.ref a_FareError) = some true)
    (zb_ValueError : PySem.W.nsIn K mainGlobals "ValueError" = some none)
    (zb_int : PySem.W.nsIn K mainGlobals "int" = some none)
    (zb_isinstance : PySem.W.nsIn K mainGlobals "isinstance" = some none)
    (zb_len : PySem.W.nsIn K mainGlobals "len" = some none)
    (zb_list : PySem.W.nsIn K mainGlobals "list" = some none)
    (zb_range : PySem.W.nsIn K mainGlobals "range" = some none)
    (zb_str : PySem.W.nsIn K mainGlobals "str" = some none)
    (zk_LETTERS : PySem.W.nsIn K mainGlobals "LETTERS" = some (some (.str "abcdefghijklmnopqrstuvwxyz" t_LETTERS)))
    (zk_MOST_PLACES : PySem.W.nsIn K mainGlobals "MOST_PLACES" = some (some (.int 40 t_MOST_PLACES)))
    (zk_MOST_SIGNS : PySem.W.nsIn K mainGlobals "MOST_SIGNS" = some (some (.int 12 t_MOST_SIGNS)))
    (nf_is_place : PySem.W.nsIn K mainGlobals "is_place" = some (some (.ref f_is_place)))
    (lf_is_place : K.lookup f_is_place = some ⟨oc_is_place, od_is_place, .func (PySem.W.fnOf "is_place" "is_place" (defArgs s_is_place) (defBody s_is_place) (defScope s_is_place) .none kV_is_place dc_is_place pm_is_place an_is_place cd_is_place ct_is_place), sl_is_place⟩)
    (cf_is_place : PySem.W.codeIn K cd_is_place "is_place" = true)
    (kf_is_place : PySem.W.keepIn K (.ref f_is_place) = true)
    (nf_need_journey : PySem.W.nsIn K mainGlobals "need_journey" = some (some (.ref f_need_journey)))
    (lf_need_journey : K.lookup f_need_journey = some ⟨oc_need_journey, od_need_journey, .func (PySem.W.fnOf "need_journey" "need_journey" (defArgs s_need_journey) (defBody s_need_journey) (defScope s_need_journey) .none kV_need_journey dc_need_journey pm_need_journey an_need_journey cd_need_journey ct_need_journey), sl_need_journey⟩)
    (cf_need_journey : PySem.W.codeIn K cd_need_journey "need_journey" = true)
    (kf_need_journey : PySem.W.keepIn K (.ref f_need_journey) = true)
    (nf__law_cell_at : PySem.W.nsIn K mainGlobals "_law_cell_at" = some (some (.ref f__law_cell_at)))
    (lf__law_cell_at : K.lookup f__law_cell_at = some ⟨oc__law_cell_at, od__law_cell_at, .func (PySem.W.fnOf "_law_cell_at" "_law_cell_at" (defArgs s__law_cell_at) (defBody s__law_cell_at) (defScope s__law_cell_at) .none kV__law_cell_at dc__law_cell_at pm__law_cell_at an__law_cell_at cd__law_cell_at ct__law_cell_at), sl__law_cell_at⟩)
    (cf__law_cell_at : PySem.W.codeIn K cd__law_cell_at "_law_cell_at" = true)
    (kf__law_cell_at : PySem.W.keepIn K (.ref f__law_cell_at) = true)
    (nf__law_place : PySem.W.nsIn K mainGlobals "_law_place" = some (some (.ref f__law_place)))
    (lf__law_place : K.lookup f__law_place = some ⟨oc__law_place, od__law_place, .func (PySem.W.fnOf "_law_place" "_law_place" (defArgs s__law_place) (defBody s__law_place) (defScope s__law_place) .none kV__law_place dc__law_place pm__law_place an__law_place cd__law_place ct__law_place), sl__law_place⟩)
    (cf__law_place : PySem.W.codeIn K cd__law_place "_law_place" = true)
    (kf__law_place : PySem.W.keepIn K (.ref f__law_place) = true)
    (nf__law_row : PySem.W.nsIn K mainGlobals "_law_row" = some (some (.ref f__law_row)))
    (lf__law_row : K.lookup f__law_row = some ⟨oc__law_row, od__law_row, .func (PySem.W.fnOf "_law_row" "_law_row" (defArgs s__law_row) (defBody s__law_row) (defScope s__law_row) .none kV__law_row dc__law_row pm__law_row an__law_row cd__law_row ct__law_row), sl__law_row⟩)
    (cf__law_row : PySem.W.codeIn K cd__law_row "_law_row" = true)
    (kf__law_row : PySem.W.keepIn K (.ref f__law_row) = true)
    (nf__law_bad : PySem.W.nsIn K mainGlobals "_law_bad" = some (some (.ref f__law_bad)))
    (lf__law_bad : K.lookup f__law_bad = some ⟨oc__law_bad, od__law_bad, .func (PySem.W.fnOf "_law_bad" "_law_bad" (defArgs s__law_bad) (defBody s__law_bad) (defScope s__law_bad) .none kV__law_bad dc__law_bad pm__law_bad an__law_bad cd__law_bad ct__law_bad), sl__law_bad⟩)
    (cf__law_bad : PySem.W.codeIn K cd__law_bad "_law_bad" = true)
    (kf__law_bad : PySem.W.keepIn K (.ref f__law_bad) = true)
    (nf__law_is_place : PySem.W.nsIn K mainGlobals "_law_is_place" = some (some (.ref f__law_is_place)))
    (lf__law_is_place : K.lookup f__law_is_place = some ⟨oc__law_is_place, od__law_is_place, .func (PySem.W.fnOf "_law_is_place" "_law_is_place" (defArgs s__law_is_place) (defBody s__law_is_place) (defScope s__law_is_place) .none kV__law_is_place dc__law_is_place pm__law_is_place an__law_is_place cd__law_is_place ct__law_is_place), sl__law_is_place⟩)
    (cf__law_is_place : PySem.W.codeIn K cd__law_is_place "_law_is_place" = true)
    (kf__law_is_place : PySem.W.keepIn K (.ref f__law_is_place) = true)
    (nf__law_due : PySem.W.nsIn K mainGlobals "_law_due" = some (some (.ref f__law_due)))
    (lf__law_due : K.lookup f__law_due = some ⟨oc__law_due, od__law_due, .func (PySem.W.fnOf "_law_due" "_law_due" (defArgs s__law_due) (defBody s__law_due) (defScope s__law_due) .none kV__law_due dc__law_due pm__law_due an__law_due cd__law_due ct__law_due), sl__law_due⟩)
    (cf__law_due : PySem.W.codeIn K cd__law_due "_law_due" = true)
    (kf__law_due : PySem.W.keepIn K (.ref f__law_due) = true)
    (nf_law : PySem.W.nsIn K mainGlobals "law" = some (some (.ref f_law)))
    (lf_law : K.lookup f_law = some ⟨oc_law, od_law, .func (PySem.W.fnOf "law" "law" (defArgs s_law) (defBody s_law) (defScope s_law) .none kV_law dc_law pm_law an_law cd_law ct_law), sl_law⟩)
    (cf_law : PySem.W.codeIn K cd_law "law" = true)
    (kf_law : PySem.W.keepIn K (.ref f_law) = true) :
    ∃ fd : FuncData, (∀ (s : Shared) (v : Value), BindsTo s fd ⟨[v], []⟩ [("_law_script", v)]) ∧ ∀ base : Heap, K.In base → base.Ns mainGlobals mg → FnOk l.prog w K mg base (L2.CX l.prog w) 3 fa fd ["_law_script"] (spL K) := by
  have e := hfa.symm.trans (PySem.W.mg_of X G nf_law)
  cases e
  let T : Par := ⟨K, 0, fun c => match c with | .place => a_BadPlace | .price => a_FareError | .twice => a_FareError | .many => a_FareError | .journey => a_BadJourney | .cuts => a_FareError | .held => a_FareError | .parting => a_FareError | .line => a_FareError⟩
  have x_BadPlace : ExcAt T.K mg T "BadPlace" .place := ⟨PySem.W.mg_of X G na_BadPlace, xx_BadPlace, xk_BadPlace, xb_BadPlace, xt_BadPlace⟩
  have x_BadJourney : ExcAt T.K mg T "BadJourney" .journey := ⟨PySem.W.mg_of X G na_BadJourney, xx_BadJourney, xk_BadJourney, xb_BadJourney, xt_BadJourney⟩
  have excC : ∀ c, ExcC T.K (T.cx c) := fun c => match c with | .place => ⟨xg_BadPlace, xa_BadPlace, xb_BadPlace, xd_BadPlace, xc_BadPlace, xn, xh, xm_BadPlace⟩ | .price => ⟨xg_FareError, xa_FareError, xb_FareError, xd_FareError, xc_FareError, xn, xh, xm_FareError⟩ | .twice => ⟨xg_FareError, xa_FareError, xb_FareError, xd_FareError, xc_FareError, xn, xh, xm_FareError⟩ | .many => ⟨xg_FareError, xa_FareError, xb_FareError, xd_FareError, xc_FareError, xn, xh, xm_FareError⟩ | .journey => ⟨xg_BadJourney, xa_BadJourney, xb_BadJourney, xd_BadJourney, xc_BadJourney, xn, xh, xm_BadJourney⟩ | .cuts => ⟨xg_FareError, xa_FareError, xb_FareError, xd_FareError, xc_FareError, xn, xh, xm_FareError⟩ | .held => ⟨xg_FareError, xa_FareError, xb_FareError, xd_FareError, xc_FareError, xn, xh, xm_FareError⟩ | .parting => ⟨xg_FareError, xa_FareError, xb_FareError, xd_FareError, xc_FareError, xn, xh, xm_FareError⟩ | .line => ⟨xg_FareError, xa_FareError, xb_FareError, xd_FareError, xc_FareError, xn, xh, xm_FareError⟩
  have excV : ∀ c, PySem.W.kitOne T.K (.ref (T.cx c)) (.type "ValueError") = some true := fun c => match c with | .place => kit_val xv_BadPlace | .price => kit_val xv_FareError | .twice => kit_val xv_FareError | .many => kit_val xv_FareError | .journey => kit_val xv_BadJourney | .cuts => kit_val xv_FareError | .held => kit_val xv_FareError | .parting => kit_val xv_FareError | .line => kit_val xv_FareError
  have c_BadJourney : ClsAt T.K mg T "BadJourney" (takeOnly .journey) := ⟨a_BadJourney, PySem.W.mg_of X G na_BadJourney, fun c => match c with | .place => PySem.W.exm_ref xb_BadJourney xd_BadJourney xt_BadJourney se_BadPlace_BadJourney | .price => PySem.W.exm_ref xb_BadJourney xd_BadJourney xt_BadJourney se_FareError_BadJourney | .twice => PySem.W.exm_ref xb_BadJourney xd_BadJourney xt_BadJourney se_FareError_BadJourney | .many => PySem.W.exm_ref xb_BadJourney xd_BadJourney xt_BadJourney se_FareError_BadJourney | .journey => PySem.W.exm_ref xb_BadJourney xd_BadJourney xt_BadJourney se_BadJourney_BadJourney | .cuts => PySem.W.exm_ref xb_BadJourney xd_BadJourney xt_BadJourney se_FareError_BadJourney | .held => PySem.W.exm_ref xb_BadJourney xd_BadJourney xt_BadJourney se_FareError_BadJourney | .parting => PySem.W.exm_ref xb_BadJourney xd_BadJourney xt_BadJourney se_FareError_BadJourney | .line => PySem.W.exm_ref xb_BadJourney xd_BadJourney xt_BadJourney se_FareError_BadJourney, fun c => match c with | .place => kit_ref xd_BadJourney xt_BadJourney se_BadPlace_BadJourney se_BadJourney_BadJourney | .price => kit_ref xd_BadJourney xt_BadJourney se_FareError_BadJourney se_BadJourney_BadJourney | .twice => kit_ref xd_BadJourney xt_BadJourney se_FareError_BadJourney se_BadJourney_BadJourney | .many => kit_ref xd_BadJourney xt_BadJourney se_FareError_BadJourney se_BadJourney_BadJourney | .journey => kit_ref xd_BadJourney xt_BadJourney se_BadJourney_BadJourney se_BadJourney_BadJourney | .cuts => kit_ref xd_BadJourney xt_BadJourney se_FareError_BadJourney se_BadJourney_BadJourney | .held => kit_ref xd_BadJourney xt_BadJourney se_FareError_BadJourney se_BadJourney_BadJourney | .parting => kit_ref xd_BadJourney xt_BadJourney se_FareError_BadJourney se_BadJourney_BadJourney | .line => kit_ref xd_BadJourney xt_BadJourney se_FareError_BadJourney se_BadJourney_BadJourney⟩
  have c_BadPlace : ClsAt T.K mg T "BadPlace" (takeOnly .place) := ⟨a_BadPlace, PySem.W.mg_of X G na_BadPlace, fun c => match c with | .place => PySem.W.exm_ref xb_BadPlace xd_BadPlace xt_BadPlace se_BadPlace_BadPlace | .price => PySem.W.exm_ref xb_BadPlace xd_BadPlace xt_BadPlace se_FareError_BadPlace | .twice => PySem.W.exm_ref xb_BadPlace xd_BadPlace xt_BadPlace se_FareError_BadPlace | .many => PySem.W.exm_ref xb_BadPlace xd_BadPlace xt_BadPlace se_FareError_BadPlace | .journey => PySem.W.exm_ref xb_BadPlace xd_BadPlace xt_BadPlace se_BadJourney_BadPlace | .cuts => PySem.W.exm_ref xb_BadPlace xd_BadPlace xt_BadPlace se_FareError_BadPlace | .held => PySem.W.exm_ref xb_BadPlace xd_BadPlace xt_BadPlace se_FareError_BadPlace | .parting => PySem.W.exm_ref xb_BadPlace xd_BadPlace xt_BadPlace se_FareError_BadPlace | .line => PySem.W.exm_ref xb_BadPlace xd_BadPlace xt_BadPlace se_FareError_BadPlace, fun c => match c with | .place => kit_ref xd_BadPlace xt_BadPlace se_BadPlace_BadPlace se_BadPlace_BadPlace | .price => kit_ref xd_BadPlace xt_BadPlace se_FareError_BadPlace se_BadPlace_BadPlace | .twice => kit_ref xd_BadPlace xt_BadPlace se_FareError_BadPlace se_BadPlace_BadPlace | .many => kit_ref xd_BadPlace xt_BadPlace se_FareError_BadPlace se_BadPlace_BadPlace | .journey => kit_ref xd_BadPlace xt_BadPlace se_BadJourney_BadPlace se_BadPlace_BadPlace | .cuts => kit_ref xd_BadPlace xt_BadPlace se_FareError_BadPlace se_BadPlace_BadPlace | .held => kit_ref xd_BadPlace xt_BadPlace se_FareError_BadPlace se_BadPlace_BadPlace | .parting => kit_ref xd_BadPlace xt_BadPlace se_FareError_BadPlace se_BadPlace_BadPlace | .line => kit_ref xd_BadPlace xt_BadPlace se_FareError_BadPlace se_BadPlace_BadPlace⟩
  have c_FareError : ClsAt T.K mg T "FareError" takeAll := ⟨a_FareError, PySem.W.mg_of X G na_FareError, fun c => match c with | .place => PySem.W.exm_ref xb_FareError xd_FareError xt_FareError se_BadPlace_FareError | .price => PySem.W.exm_ref xb_FareError xd_FareError xt_FareError se_FareError_FareError | .twice => PySem.W.exm_ref xb_FareError xd_FareError xt_FareError se_FareError_FareError | .many => PySem.W.exm_ref xb_FareError xd_FareError xt_FareError se_FareError_FareError | .journey => PySem.W.exm_ref xb_FareError xd_FareError xt_FareError se_BadJourney_FareError | .cuts => PySem.W.exm_ref xb_FareError xd_FareError xt_FareError se_FareError_FareError | .held => PySem.W.exm_ref xb_FareError xd_FareError xt_FareError se_FareError_FareError | .parting => PySem.W.exm_ref xb_FareError xd_FareError xt_FareError se_FareError_FareError | .line => PySem.W.exm_ref xb_FareError xd_FareError xt_FareError se_FareError_FareError, fun c => match c with | .place => kit_ref xd_FareError xt_FareError se_BadPlace_FareError se_FareError_FareError | .price => kit_ref xd_FareError xt_FareError se_FareError_FareError se_FareError_FareError | .twice => kit_ref xd_FareError xt_FareError se_FareError_FareError se_FareError_FareError | .many => kit_ref xd_FareError xt_FareError se_FareError_FareError se_FareError_FareError | .journey => kit_ref xd_FareError xt_FareError se_BadJourney_FareError se_FareError_FareError | .cuts => kit_ref xd_FareError xt_FareError se_FareError_FareError se_FareError_FareError | .held => kit_ref xd_FareError xt_FareError se_FareError_FareError se_FareError_FareError | .parting => kit_ref xd_FareError xt_FareError se_FareError_FareError se_FareError_FareError | .line => kit_ref xd_FareError xt_FareError se_FareError_FareError se_FareError_FareError⟩
  have b_ValueError := PySem.W.mg_none_of X G zb_ValueError
  have b_int := PySem.W.mg_none_of X G zb_int
  have b_isinstance := PySem.W.mg_none_of X G zb_isinstance
  have b_len := PySem.W.mg_none_of X G zb_len
  have b_list := PySem.W.mg_none_of X G zb_list
  have b_range := PySem.W.mg_none_of X G zb_range
  have b_str := PySem.W.mg_none_of X G zb_str
  have k_LETTERS := PySem.W.mg_of X G zk_LETTERS
  have k_MOST_PLACES := PySem.W.mg_of X G zk_MOST_PLACES
  have k_MOST_SIGNS := PySem.W.mg_of X G zk_MOST_SIGNS
  have F_is_place := fun_mk (st := s_is_place) lf_is_place cf_is_place kf_is_place
  have F_need_journey := fun_mk (st := s_need_journey) lf_need_journey cf_need_journey kf_need_journey
  have F__law_cell_at := fun_mk (st := s__law_cell_at) lf__law_cell_at cf__law_cell_at kf__law_cell_at
  have F__law_place := fun_mk (st := s__law_place) lf__law_place cf__law_place kf__law_place
  have F__law_row := fun_mk (st := s__law_row) lf__law_row cf__law_row kf__law_row
  have F__law_bad := fun_mk (st := s__law_bad) lf__law_bad cf__law_bad kf__law_bad
  have F__law_is_place := fun_mk (st := s__law_is_place) lf__law_is_place cf__law_is_place kf__law_is_place
  have F__law_due := fun_mk (st := s__law_due) lf__law_due cf__law_due kf__law_due
  have F_law := fun_mk (st := s_law) lf_law cf_law kf_law
  refine ⟨PySem.W.fnOf "law" "law" (defArgs s_law) (defBody s_law) (defScope s_law) .none kV_law dc_law pm_law an_law cd_law ct_law, fun s v => .of_eq rfl, fun base _ _ => ?_⟩
  have G_is_place : DefAt l.prog w T.K mg base T "is_place" 1 ["thing"] g_is_place := ok_is_place F_is_place (PySem.W.mg_of X G nf_is_place) b_isinstance b_len b_str k_LETTERS k_MOST_SIGNS
  have G_need_journey : DefAt l.prog w T.K mg base T "need_journey" 2 ["places"] g_need_journey := ok_need_journey F_need_journey (PySem.W.mg_of X G nf_need_journey) b_len b_list k_MOST_PLACES x_BadJourney x_BadPlace G_is_place
  have G__law_cell_at : DefAt l.prog w T.K mg base T "_law_cell_at" 1 ["_law_script", "_law_k"] g_law_cell_at := ok__law_cell_at F__law_cell_at (PySem.W.mg_of X G nf__law_cell_at) b_len
  have G__law_place : DefAt l.prog w T.K mg base T "_law_place" 1 ["_law_cell"] g_law_place := ok__law_place F__law_place (PySem.W.mg_of X G nf__law_place) b_range
  have G__law_row : DefAt l.prog w T.K mg base T "_law_row" 2 ["_law_script"] g_law_row := ok__law_row F__law_row (PySem.W.mg_of X G nf__law_row) b_int b_range G__law_cell_at G__law_place
  have G__law_bad : DefAt l.prog w T.K mg base T "_law_bad" 1 ["_law_cell", "_law_name"] g_law_bad := ok__law_bad F__law_bad (PySem.W.mg_of X G nf__law_bad)
  have G__law_is_place : DefAt l.prog w T.K mg base T "_law_is_place" 1 ["_law_thing"] g_law_is_place := ok__law_is_place F__law_is_place (PySem.W.mg_of X G nf__law_is_place) b_isinstance b_len b_str
  have G__law_due : DefAt l.prog w T.K mg base T "_law_due" 2 ["_law_row_here"] g_law_due := ok__law_due F__law_due (PySem.W.mg_of X G nf__law_due) b_len b_range G__law_is_place
  have G_law := ok_law (P := l.prog) (w := w) (mg := mg) (base := base) (T := T) F_law b_ValueError b_int b_isinstance b_len b_list b_range c_BadJourney c_BadPlace c_FareError excC excV G__law_bad G__law_cell_at G__law_due G__law_place G__law_row G_need_journey
  exact law_ok G_law (fun ns hl => law_true ns hl)
theorem walk {l : PySem.W.OpenLaw} {q : Program} {loose : List Str} {XP : (Str → Option Value) → Heap → Prop} {YP : World → Heap → Prop} {d : DefRec} {K : Params → PySem.W.Frag} (hn : l.most = some 63) (hdf : d.params.defaults = [])
    (hY : ∀ (w : World) (h : Heap), YP w h → (K w.params).In h)
    (F : ∀ (w : World) (mg : Str → Option Value) (fa : Addr) (h : Heap), (K w.params).In h → h.Ns mainGlobals mg → mg d.name = some (.ref fa) →
      ∃ fd : FuncData, (∀ (s : Shared) (u : Value), BindsTo s fd ⟨[u], []⟩ [("_law_script", u)]) ∧ ∀ base : Heap, (K w.params).In base → base.Ns mainGlobals mg → FnOk l.prog w (K w.params) mg base (L2.CX l.prog w) 3 fa fd ["_law_script"] (spL (K w.params))) :
    PySem.W.WalkO q loose XP YP l.row.toRowW d [] (fun f vs => PySem.call f vs) :=
  L2.walk_of (n := 63) (k := 3) (x := "_law_script") (CX := fun w => L2.CX l.prog w) (sp := fun w => spL (K w.params)) hn (by decide) hdf ⟨rfl, by decide, by decide⟩ hY F (fun _ _ a ns hl _ hS => ⟨a, ns, rfl, hS, hl, fun _ => rfl⟩) fun _ _ _ _ _ z => by
    obtain ⟨_, _, _, _, _, _, _, _, _, _, _, _, z⟩ := z
    exact z.elim
end DD
open PySem PySem.W PyProof.Rows
set_option maxRecDepth 100000 in
set_option maxHeartbeats 0 in
theorem PySem.Challenge.cw_farebreak_k03_journeys_holds : PySem.Challenge.rw_farebreak_k03_journeys.Holds := by
  w_on; o_law; k_head; (case hw => w_witness2)
  k_fill
  refine DD.walk (l := PySem.Challenge.rw_farebreak_k03_journeys) rfl rfl (fun w h Y => PySem.W.kIn_of Y) ?F
  case F =>
    intro w mg fa h KX G hmg
    refine' DD.all_mk KX G hmg ?na_FareError ?xx_FareError ?xk_FareError ?xb_FareError ?xt_FareError ?xd_FareError ?xg_FareError ?xa_FareError ?xc_FareError ?xm_FareError ?xv_FareError ?na_BadPlace ?xx_BadPlace ?xk_BadPlace ?xb_BadPlace ?xt_BadPlace ?xd_BadPlace ?xg_BadPlace ?xa_BadPlace ?xc_BadPlace ?xm_BadPlace ?xv_BadPlace ?na_BadJourney ?xx_BadJourney ?xk_BadJourney ?xb_BadJourney ?xt_BadJourney ?xd_BadJourney ?xg_BadJourney ?xa_BadJourney ?xc_BadJourney ?xm_BadJourney ?xv_BadJourney ?xn ?xh ?se_FareError_BadJourney ?se_BadPlace_BadJourney ?se_BadJourney_BadJourney ?se_FareError_BadPlace ?se_BadPlace_BadPlace ?se_BadJourney_BadPlace ?se_FareError_FareError ?se_BadPlace_FareError ?se_BadJourney_FareError ?zb_ValueError ?zb_int ?zb_isinstance ?zb_len ?zb_list ?zb_range ?zb_str ?zk_LETTERS ?zk_MOST_PLACES ?zk_MOST_SIGNS ?nf_is_place ?lf_is_place ?cf_is_place ?kf_is_place ?nf_need_journey ?lf_need_journey ?cf_need_journey ?kf_need_journey ?nf__law_cell_at ?lf__law_cell_at ?cf__law_cell_at ?kf__law_cell_at ?nf__law_place ?lf__law_place ?cf__law_place ?kf__law_place ?nf__law_row ?lf__law_row ?cf__law_row ?kf__law_row ?nf__law_bad ?lf__law_bad ?cf__law_bad ?kf__law_bad ?nf__law_is_place ?lf__law_is_place ?cf__law_is_place ?kf__law_is_place ?nf__law_due ?lf__law_due ?cf__law_due ?kf__law_due ?nf_law ?lf_law ?cf_law ?kf_law
    (case na_FareError => k_is)
    (case xx_FareError => k_exc)
    (case xk_FareError => k_is)
    (case xb_FareError => k_is)
    (case xt_FareError => k_is)
    (case xd_FareError => k_is)
    (case xg_FareError => k_is)
    (case xa_FareError => k_is)
    (case xc_FareError => k_is)
    (case xm_FareError => k_is)
    (case xv_FareError => k_is)
    (case na_BadPlace => k_is)
    (case xx_BadPlace => k_exc)
    (case xk_BadPlace => k_is)
    (case xb_BadPlace => k_is)
    (case xt_BadPlace => k_is)
    (case xd_BadPlace => k_is)
    (case xg_BadPlace => k_is)
    (case xa_BadPlace => k_is)
    (case xc_BadPlace => k_is)
    (case xm_BadPlace => k_is)
    (case xv_BadPlace => k_is)
    (case na_BadJourney => k_is)
    (case xx_BadJourney => k_exc)
    (case xk_BadJourney => k_is)
    (case xb_BadJourney => k_is)
    (case xt_BadJourney => k_is)
    (case xd_BadJourney => k_is)
    (case xg_BadJourney => k_is)
    (case xa_BadJourney => k_is)
    (case xc_BadJourney => k_is)
    (case xm_BadJourney => k_is)
    (case xv_BadJourney => k_is)
    (case xn => k_is)
    (case xh => k_is)
    (case se_FareError_BadJourney => k_is)
    (case se_BadPlace_BadJourney => k_is)
    (case se_BadJourney_BadJourney => k_is)
    (case se_FareError_BadPlace => k_is)
    (case se_BadPlace_BadPlace => k_is)
    (case se_BadJourney_BadPlace => k_is)
    (case se_FareError_FareError => k_is)
    (case se_BadPlace_FareError => k_is)
    (case se_BadJourney_FareError => k_is)
    (case zb_ValueError => k_is)
    (case zb_int => k_is)
    (case zb_isinstance => k_is)
    (case zb_len => k_is)
    (case zb_list => k_is)
    (case zb_range => k_is)
    (case zb_str => k_is)
    (case zk_LETTERS => k_is)
    (case zk_MOST_PLACES => k_is)
    (case zk_MOST_SIGNS => k_is)
    (case nf_is_place => k_is)
    (case lf_is_place => k_is)
    (case cf_is_place => k_is)
    (case kf_is_place => k_is)
    (case nf_need_journey => k_is)
    (case lf_need_journey => k_is)
    (case cf_need_journey => k_is)
    (case kf_need_journey => k_is)
    (case nf__law_cell_at => k_is)
    (case lf__law_cell_at => k_is)
    (case cf__law_cell_at => k_is)
    (case kf__law_cell_at => k_is)
    (case nf__law_place => k_is)
    (case lf__law_place => k_is)
    (case cf__law_place => k_is)
    (case kf__law_place => k_is)
    (case nf__law_row => k_is)
    (case lf__law_row => k_is)
    (case cf__law_row => k_is)
    (case kf__law_row => k_is)
    (case nf__law_bad => k_is)
    (case lf__law_bad => k_is)
    (case cf__law_bad => k_is)
    (case kf__law_bad => k_is)
    (case nf__law_is_place => k_is)
    (case lf__law_is_place => k_is)
    (case cf__law_is_place => k_is)
    (case kf__law_is_place => k_is)
    (case nf__law_due => k_is)
    (case lf__law_due => k_is)
    (case cf__law_due => k_is)
    (case kf__law_due => k_is)
    (case nf_law => k_is)
    (case lf_law => k_is)
    (case cf_law => k_is)
    (case kf_law => k_is)
