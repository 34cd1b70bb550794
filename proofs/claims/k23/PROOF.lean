import PyProof.Rows.All
import Wide.All
import OpenK.AllK
import Wide.FinOn
import HandS.ForMost
import HandS.Walk
import HandS.Wide
import HandS.WideBits
import HandS.Gcd
import HandS.IsInst
import HandS.Conv
import HandS.More
import HandS.TupAny
import HandS.TupMul
import HandS.Zip
import PyProof.ReprRoads
import HandS.SortInts
import HandS.Style
import KE.GoesMore
import PySem.Challenge.RW_cavelegs_k23_any_value_as_walk_or_loop
set_option Elab.async false
set_option linter.all false
set_option maxRecDepth 100000
/-! Cells: a layer of our own over the hand layer. A name of a def holds data (never changed), or a list that it alone holds. -/
namespace Cl
open PySem PySem.Spec PyProof.Rows L2

/-! ### data at a value -/
mutual
inductive Dq (K : PySem.W.Frag) (F : Hp) : V → PyData → Prop
  | non : Dq K F .non .none
  | bl (b : Bool) : Dq K F (.bl b) (.bool b)
  | int (i : Int) : Dq K F (.int i) (.int i)
  | str (x : Str) : Dq K F (.str x) (.str x)
  | lst {a : Addr} {xs : List V} {ds : List PyData} (hs : F a = some (.lst xs)) (ha : DqA K F xs ds) : Dq K F (.ref a) (.list ds)
  | tup {a : Addr} {xs : List V} {ds : List PyData} (hs : SqT K F a xs) (ha : DqA K F xs ds) : Dq K F (.ref a) (.tuple ds)
  | dct {a : Addr} (hs : F a = some (.dK [])) : Dq K F (.ref a) (.dict [])
inductive DqA (K : PySem.W.Frag) (F : Hp) : List V → List PyData → Prop
  | nil : DqA K F [] []
  | cons {v : V} {vs : List V} {d : PyData} {ds : List PyData} (h : Dq K F v d) (t : DqA K F vs ds) : DqA K F (v :: vs) (d :: ds)
end
theorem rd_same {H H' : Hp} {a : Addr} {u : HO} (e : Same H H') (h : Rd H a u) : Rd H' a u := by
  rcases h with h | ⟨o, h⟩
  · exact .inl (e _ _ h)
  · exact .inr ⟨o, e _ _ h⟩
theorem sqT_same {K : PySem.W.Frag} {H H' : Hp} {a : Addr} {xs : List V} (e : Same H H') (h : SqT K H a xs) : SqT K H' a xs := by
  rcases h with (h | ⟨o, h⟩) | h
  · exact .inl (.inl (e _ _ h))
  · exact .inl (.inr ⟨o, e _ _ h⟩)
  · exact .inr h
section
variable {K : PySem.W.Frag} {F F' : Hp}
mutual
theorem Dq.mono (e : Same F F') : ∀ (d : PyData) {v : V}, Dq K F v d → Dq K F' v d
  | .none, _, h => by cases h; exact .non
  | .bool b, _, h => by cases h; exact .bl b
  | .int i, _, h => by cases h; exact .int i
  | .str x, _, h => by cases h; exact .str x
  | .list ds, _, h => by
    cases h with
    | lst hs ha => exact .lst (e _ _ hs) (DqA.mono e ds ha)
  | .tuple ds, _, h => by
    cases h with
    | tup hs ha => exact .tup (sqT_same e hs) (DqA.mono e ds ha)
  | .dict kvs, _, h => by
    cases h with
    | dct hs => exact .dct (e _ _ hs)
theorem DqA.mono (e : Same F F') : ∀ (ds : List PyData) {vs : List V}, DqA K F vs ds → DqA K F' vs ds
  | [], _, h => by cases h; exact .nil
  | d :: ds, _, h => by
    cases h with
    | cons h t => exact .cons (Dq.mono e d h) (DqA.mono e ds t)
end
theorem DqA.length : ∀ {vs : List V} {ds : List PyData}, DqA K F vs ds → vs.length = ds.length
  | _, _, .nil => rfl
  | _, _, .cons _ t => congrArg (· + 1) t.length
theorem DqA.get : ∀ {vs : List V} {ds : List PyData} {i : Nat} {v : V}, DqA K F vs ds → vs[i]? = some v → ∃ d, ds[i]? = some d ∧ Dq K F v d
  | _, _, _, _, .nil, e => by simp at e
  | _, _, 0, _, .cons h _, e => by simp at e; subst e; exact ⟨_, rfl, h⟩
  | _, _, i + 1, _, .cons _ t, e => DqA.get (i := i) t (by simpa using e)
theorem DqA.get' : ∀ {vs : List V} {ds : List PyData} {i : Nat} {d : PyData}, DqA K F vs ds → ds[i]? = some d → ∃ v, vs[i]? = some v ∧ Dq K F v d
  | _, _, _, _, .nil, e => by simp at e
  | _, _, 0, _, .cons h _, e => by simp at e; subst e; exact ⟨_, rfl, h⟩
  | _, _, i + 1, _, .cons _ t, e => DqA.get' (i := i) t (by simpa using e)
theorem DqA.append : ∀ {vs us : List V} {ds es : List PyData}, DqA K F vs ds → DqA K F us es → DqA K F (vs ++ us) (ds ++ es)
  | _, _, _, _, .nil, t => t
  | _, _, _, _, .cons h s, t => .cons h (s.append t)
theorem DqA.take : ∀ (n : Nat) {vs : List V} {ds : List PyData}, DqA K F vs ds → DqA K F (vs.take n) (ds.take n)
  | 0, _, _, _ => .nil
  | _ + 1, _, _, .nil => .nil
  | n + 1, _, _, .cons h t => .cons h (t.take n)
theorem DqA.drop : ∀ (n : Nat) {vs : List V} {ds : List PyData}, DqA K F vs ds → DqA K F (vs.drop n) (ds.drop n)
  | 0, _, _, h => h
  | _ + 1, _, _, .nil => .nil
  | n + 1, _, _, .cons _ t => t.drop n
theorem DqA.set {v : V} {d : PyData} (q : Dq K F v d) : ∀ (n : Nat) {vs : List V} {ds : List PyData}, DqA K F vs ds → DqA K F (vs.set n v) (ds.set n d)
  | _, _, _, .nil => .nil
  | 0, _, _, .cons _ t => .cons q t
  | n + 1, _, _, .cons h t => .cons h (t.set q n)
theorem DqA.eraseIdx : ∀ (n : Nat) {vs : List V} {ds : List PyData}, DqA K F vs ds → DqA K F (vs.eraseIdx n) (ds.eraseIdx n)
  | _, _, _, .nil => .nil
  | 0, _, _, .cons _ t => t
  | n + 1, _, _, .cons h t => .cons h (t.eraseIdx n)
theorem DqA.repeat (k : Nat) {vs : List V} {ds : List PyData} (h : DqA K F vs ds) : DqA K F (List.replicate k vs).flatten (List.replicate k ds).flatten := by
  induction k with
  | zero => exact .nil
  | succ k ih =>
    rw [List.replicate_succ, List.replicate_succ, List.flatten_cons, List.flatten_cons]
    exact h.append ih
end

section
variable {X : Cx} {pins : List (Addr × Obj)} {σ : L2.St} {H : Hp} {s : Shared}
mutual
theorem Dq.rd (I : Inv X pins σ H s) : ∀ (d : PyData) (v : V) (u : Value), Dq X.K H v d → RelV v u → ∃ as, Reads s.heap u d as
  | .none, _, _, h, r => by cases h; cases r; exact ⟨_, .none⟩
  | .bool b, _, _, h, r => by cases h; cases r; exact ⟨_, .bool b⟩
  | .int i, _, _, h, r => by cases h; obtain ⟨t, rfl⟩ := r; exact ⟨_, .int i t⟩
  | .str x, _, _, h, r => by cases h; obtain ⟨t, rfl⟩ := r; exact ⟨_, .str x t⟩
  | .list ds, _, _, h, r => by
    cases h with
    | lst hs ha =>
      cases r
      obtain ⟨its, rv, ⟨o, n, ho, hc, _, hd⟩, _⟩ := I.list (.inl (.inl hs))
      obtain ⟨as, q⟩ := DqA.rd I ds _ its ha rv
      exact ⟨_, .list ho hc hd q⟩
  | .tuple ds, _, _, h, r => by
    cases h with
    | tup hs ha =>
      cases r
      obtain ⟨its, rv, ⟨o, ho, hc, n, hd⟩, _⟩ := I.tuple hs
      obtain ⟨as, q⟩ := DqA.rd I ds _ its ha rv
      exact ⟨_, .tuple ho hc hd q⟩
  | .dict kvs, _, _, h, r => by
    cases h with
    | dct hs =>
      cases r
      obtain ⟨_, _, vs, kv, o, es, ep, ho, ex, hd, q⟩ := I.hok _ _ hs
      cases kv
      have z : es.toList = [] := by
        have q2 := q.2.1
        cases h9 : es.toList with
        | nil => rfl
        | cons e r => rw [h9] at q2; cases q2
      refine ⟨_, .dict (kvs := []) (as := []) (bs := []) ho ex.1 hd ?_ ?_⟩
      · rw [z]; exact .nil
      · rw [z]; exact .nil
theorem DqA.rd (I : Inv X pins σ H s) : ∀ (ds : List PyData) (vs : List V) (us : List Value), DqA X.K H vs ds → Vals vs us → ∃ as, ReadsAll s.heap us ds as
  | [], _, _, h, r => by cases h; cases r; exact ⟨_, .nil⟩
  | d :: ds, _, _, h, r => by
    cases h with
    | cons h1 h2 =>
      cases r with
      | cons r1 r2 =>
        obtain ⟨as, q1⟩ := Dq.rd I d _ _ h1 r1
        obtain ⟨bs, q2⟩ := DqA.rd I ds _ _ h2 r2
        exact ⟨_, .cons q1 q2⟩
end
end
/-! ### cells -/
/-- what is held alone: a list -/
inductive Mu where
  | lst (l : List PyData)
def MuOk (K : PySem.W.Frag) (F : Hp) : Mu → HO → Prop
  | .lst l, .lst xs => DqA K F xs l
  | _, _ => False
theorem MuOk.mono {K : PySem.W.Frag} {F F' : Hp} (e : Same F F') {m : Mu} {o : HO} (h : MuOk K F m o) : MuOk K F' m o := by
  cases m with
  | lst l =>
    cases o with
    | lst xs => exact DqA.mono e l h
    | _ => exact h.elim
theorem MuOk.mut {K : PySem.W.Frag} {F : Hp} {m : Mu} {o : HO} (h : MuOk K F m o) : Mut (some o) := by
  cases m with
  | lst l =>
    cases o with
    | lst xs => trivial
    | _ => exact h.elim
/-- what a name holds: data | a thing of its own | a thing lent by the caller, at p -/
inductive Cell where
  | dat (d : PyData)
  | own (m : Mu)
  | bor (p : Addr) (m : Mu)
  | scr (ns : List Int)
def Cell.mu : Cell → Option Mu
  | .dat _ => none
  | .own m => some m
  | .bor _ m => some m
  | .scr _ => none
def Cell.put : Cell → Mu → Cell
  | .own _, m => .own m
  | .bor p _, m => .bor p m
  | c, _ => c
abbrev Rho := List (Option Cell)
def SlotOk (K : PySem.W.Frag) (F H : Hp) : Option Cell → Option V → Prop
  | none, _ => True
  | some (.dat d), x => ∃ v, x = some v ∧ Dq K F v d
  | some (.own m), x => ∃ p o, x = some (.ref p) ∧ F p = none ∧ H p = some o ∧ MuOk K F m o
  | some (.bor p m), x => ∃ o, x = some (.ref p) ∧ F p = none ∧ H p = some o ∧ MuOk K F m o
  | some (.scr ns), x => ∃ a, x = some (.ref a) ∧ SqL K F a (ns.map V.int)
/-- q is held alone by the slot i -/
def Held (ρ : Rho) (σ : L2.St) (i : Nat) (q : Addr) : Prop := ∃ c m, ρ[i]? = some (some c) ∧ c.mu = some m ∧ σ[i]? = some (some (.ref q))
def Own (ρ : Rho) (σ : L2.St) (q : Addr) : Prop := ∃ i, Held ρ σ i q
structure Sat (K : PySem.W.Frag) (F : Hp) (ρ : Rho) (σ : L2.St) (H : Hp) : Prop where
  len : σ.length = ρ.length
  sub : Same F H
  slot : ∀ (i : Nat) (c : Option Cell) (x : Option V), ρ[i]? = some c → σ[i]? = some x → SlotOk K F H c x
  inj : ∀ i j q, Held ρ σ i q → Held ρ σ j q → i = j
structure Step (K : PySem.W.Frag) (ρ : Rho) (σ : L2.St) (F H : Hp) (ρ' : Rho) (σ' : L2.St) (F' H' : Hp) : Prop where
  fr : Same F F'
  new : ∀ q, F q = none → H q ≠ none → ¬ Own ρ σ q → F' q = none
  keep : ∀ q o, H q = some o → ¬ Own ρ σ q → H' q = some o
  live : ∀ q, H q ≠ none → H' q ≠ none
  sat : Sat K F' ρ' σ' H'
  own : ∀ q, Own ρ' σ' q → Own ρ σ q ∨ H q = none
section
variable {K : PySem.W.Frag} {F F' F1 F2 H H' H1 H2 : Hp} {ρ ρ' ρ1 ρ2 : Rho} {σ σ' σ1 σ2 : L2.St}
theorem Step.refl (S : Sat K F ρ σ H) : Step K ρ σ F H ρ σ F H := ⟨Same.refl F, fun _ h _ _ => h, fun _ _ h _ => h, fun _ h => h, S, fun _ h => .inl h⟩
theorem Step.trans (a : Step K ρ σ F H ρ1 σ1 F1 H1) (b : Step K ρ1 σ1 F1 H1 ρ2 σ2 F2 H2) : Step K ρ σ F H ρ2 σ2 F2 H2 := by
  have no : ∀ q, H q ≠ none → ¬ Own ρ σ q → ¬ Own ρ1 σ1 q := fun q h n z => by
    rcases a.own q z with y | y
    · exact n y
    · exact h y
  have st : ∀ q, H q ≠ none → ¬ Own ρ σ q → H1 q ≠ none := fun q h n z => by
    cases e : H q with
    | none => exact h e
    | some o =>
      rw [a.keep q o e n] at z
      cases z
  refine ⟨a.fr.trans b.fr, fun q h1 h2 n => b.new q (a.new q h1 h2 n) (st q h2 n) (no q h2 n), fun q o e n => b.keep q o (a.keep q o e n) (no q (by rw [e]; simp) n), fun q h => b.live q (a.live q h), b.sat, fun q z => ?_⟩
  rcases b.own q z with y | y
  · exact a.own q y
  · by_cases n : Own ρ σ q
    · exact .inl n
    · refine .inr ?_
      cases e : H q with
      | none => rfl
      | some o =>
        rw [a.keep q o e n] at y
        cases y
/-- a slot's thing held alone -/
theorem Sat.held (S : Sat K F ρ σ H) {i : Nat} {c : Cell} {m : Mu} (e : ρ[i]? = some (some c)) (h : c.mu = some m) : ∃ p o, σ[i]? = some (some (.ref p)) ∧ F p = none ∧ H p = some o ∧ MuOk K F m o := by
  have hi : i < σ.length := by
    rw [S.len]
    exact (List.getElem?_eq_some_iff.mp e).1
  have q := S.slot i _ _ e (List.getElem?_eq_getElem hi)
  cases c with
  | dat d => cases h
  | own m' =>
    cases h
    obtain ⟨p, o, h1, h2, h3, h4⟩ := q
    exact ⟨p, o, by rw [List.getElem?_eq_getElem hi, h1], h2, h3, h4⟩
  | bor p m' =>
    cases h
    obtain ⟨o, h1, h2, h3, h4⟩ := q
    exact ⟨p, o, by rw [List.getElem?_eq_getElem hi, h1], h2, h3, h4⟩
  | scr ns => cases h
theorem Sat.scr (S : Sat K F ρ σ H) {i : Nat} {ns : List Int} (e : ρ[i]? = some (some (.scr ns))) : ∃ a, σ[i]? = some (some (.ref a)) ∧ SqL K F a (ns.map V.int) := by
  have hi : i < σ.length := by
    rw [S.len]
    exact (List.getElem?_eq_some_iff.mp e).1
  obtain ⟨v, h1, h2⟩ := S.slot i _ _ e (List.getElem?_eq_getElem hi)
  exact ⟨v, by rw [List.getElem?_eq_getElem hi, h1], h2⟩
theorem Sat.dat (S : Sat K F ρ σ H) {i : Nat} {d : PyData} (e : ρ[i]? = some (some (.dat d))) : ∃ v, σ[i]? = some (some v) ∧ Dq K F v d := by
  have hi : i < σ.length := by
    rw [S.len]
    exact (List.getElem?_eq_some_iff.mp e).1
  obtain ⟨v, h1, h2⟩ := S.slot i _ _ e (List.getElem?_eq_getElem hi)
  exact ⟨v, by rw [List.getElem?_eq_getElem hi, h1], h2⟩
theorem Sat.ownF (S : Sat K F ρ σ H) {q : Addr} (h : Own ρ σ q) : F q = none ∧ H q ≠ none := by
  obtain ⟨i, c, m, e1, e2, e3⟩ := h
  obtain ⟨p, o, h1, h2, h3, h4⟩ := S.held e1 e2
  rw [e3] at h1
  cases h1
  exact ⟨h2, by rw [h3]; simp⟩
/-- a new thing that is nobody's but is read: frozen data -/
theorem SlotOk.grow {K : PySem.W.Frag} (e : Same F F') (n : ∀ q, F q = none → H q ≠ none → F' q = none) (k : Same H H') {c : Option Cell} {x : Option V} (h : SlotOk K F H c x) : SlotOk K F' H' c x := by
  cases c with
  | none => trivial
  | some c =>
    cases c with
    | dat d =>
      obtain ⟨v, h1, h2⟩ := h
      exact ⟨v, h1, h2.mono e⟩
    | own m =>
      obtain ⟨p, o, h1, h2, h3, h4⟩ := h
      exact ⟨p, o, h1, n p h2 (by rw [h3]; simp), k _ _ h3, h4.mono e⟩
    | bor p m =>
      obtain ⟨o, h1, h2, h3, h4⟩ := h
      exact ⟨o, h1, n p h2 (by rw [h3]; simp), k _ _ h3, h4.mono e⟩
    | scr ns =>
      obtain ⟨a, h1, h2⟩ := h
      exact ⟨a, h1, e.seq h2⟩
/-- the frozen part and the heap grow -/
theorem Step.grow (S : Sat K F ρ σ H) (e : Same F F') (n : ∀ q, F q = none → H q ≠ none → F' q = none) (k : Same H H') (s : Same F' H') : Step K ρ σ F H ρ σ F' H' :=
  ⟨e, fun q h1 h2 _ => n q h1 h2, fun q o h _ => k q o h, fun q h z => h (k.free z), ⟨S.len, s, fun i c x h1 h2 => (S.slot i c x h1 h2).grow e n k, S.inj⟩, fun _ h => .inl h⟩
theorem same_upd {H : Hp} {p : Addr} {o : HO} (h : H p = none) : Same H (upd H p o) := fun b x e => by
  rw [upd_ne (ne_of_none e h)]
  exact e
theorem none_of_same (s : Same F H) {p : Addr} (h : H p = none) : F p = none := s.free h
/-- a new frozen thing at p -/
theorem Step.laid (S : Sat K F ρ σ H) {p : Addr} {o : HO} (h : H p = none) : Step K ρ σ F H ρ σ (upd F p o) (upd H p o) := by
  refine Step.grow S (same_upd (S.sub.free h)) (fun q h1 h2 => ?_) (same_upd h) fun b u e => ?_
  · have : q ≠ p := fun z => h2 (by rw [z]; exact h)
    rw [upd_ne this]
    exact h1
  · by_cases hb : b = p
    · subst hb
      rw [upd_same] at e ⊢
      exact e
    · rw [upd_ne hb] at e ⊢
      exact S.sub _ _ e
/-- a new thing at p that is not frozen -/
theorem Step.laidM (S : Sat K F ρ σ H) {p : Addr} {o : HO} (h : H p = none) : Step K ρ σ F H ρ σ F (upd H p o) :=
  Step.grow S (Same.refl F) (fun _ h1 _ => h1) (same_upd h) (S.sub.trans (same_upd h))
end

/-! ### values that have come -/
def Val (K : PySem.W.Frag) (F H : Hp) (N : Addr → Prop) (v : V) : Cell → Prop
  | .dat d => Dq K F v d
  | .own m => ∃ p o, v = .ref p ∧ N p ∧ F p = none ∧ H p = some o ∧ MuOk K F m o
  | .bor _ _ => False
  | .scr _ => False
/-- an expression: from ρ it leads to ρ' and gives c -/
def tD (K : PySem.W.Frag) (ρ ρ' : Rho) (c : Cell) : TE := fun σ H Q => ∃ F, Sat K F ρ σ H ∧
  ∀ v F' H', Step K ρ σ F H ρ' σ F' H' → (∀ q, Own ρ' σ q → Own ρ σ q) → Val K F' H' (fun p => (H p = none ∨ Own ρ σ p) ∧ ¬ Own ρ' σ p) v c → Q v H'
def tDT (K : PySem.W.Frag) (ρ ρ' : Rho) (b : Bool) : TT := fun σ H Q => ∃ F, Sat K F ρ σ H ∧
  ∀ F' H', Step K ρ σ F H ρ' σ F' H' → (∀ q, Own ρ' σ q → Own ρ σ q) → Q b H'
/-- arguments: data all -/
def tDA (K : PySem.W.Frag) (ρ ρ' : Rho) (ds : List PyData) : TA := fun σ H Q => ∃ F, Sat K F ρ σ H ∧
  ∀ vs F' H', Step K ρ σ F H ρ' σ F' H' → (∀ q, Own ρ' σ q → Own ρ σ q) → DqA K F' vs ds → Q vs H'
abbrev ED (X : Cx) (ρ : Rho) (e : Expr) (ρ' : Rho) (d : PyData) : Prop := PE X e (tD X.K ρ ρ' (.dat d))
abbrev EO (X : Cx) (ρ : Rho) (e : Expr) (ρ' : Rho) (l : List PyData) : Prop := PE X e (tD X.K ρ ρ' (.own (.lst l)))
abbrev TD (X : Cx) (ρ : Rho) (e : Expr) (ρ' : Rho) (b : Bool) : Prop := PT X e (tDT X.K ρ ρ' b)
abbrev AD (X : Cx) (ρ : Rho) (es : List Expr) (ρ' : Rho) (ds : List PyData) : Prop := PA X es (tDA X.K ρ ρ' ds)
section
variable {X : Cx} {e : Expr} {t t' : TE}
theorem _root_.L2.PE.weak (h : PE X e t) (k : ∀ σ H Q, t' σ H Q → t σ H Q) : PE X e t' := ⟨fun pins s σ H Q I q => h.run pins s σ H Q I (k σ H Q q)⟩
theorem _root_.L2.PT.weak {t t' : TT} (h : PT X e t) (k : ∀ σ H Q, t' σ H Q → t σ H Q) : PT X e t' := ⟨fun pins s σ H Q I q => h.run pins s σ H Q I (k σ H Q q)⟩
theorem _root_.L2.PA.weak {es : List Expr} {t t' : TA} (h : PA X es t) (k : ∀ σ H Q, t' σ H Q → t σ H Q) : PA X es t' := ⟨fun pos pins s σ H Q I q => h.run pos pins s σ H Q I (k σ H Q q)⟩
theorem _root_.L2.PSs.weak {st : List Stmt} {t t' : TS} (h : PSs X st t) (k : ∀ D σ H, t' D σ H → t D σ H) : PSs X st t' := ⟨fun pins s σ H D I q => h.run pins s σ H D I (k D σ H q)⟩
theorem _root_.L2.PS.weak {st : Stmt} {t t' : TS} (h : PS X st t) (k : ∀ D σ H, t' D σ H → t D σ H) : PS X st t' := ⟨fun pins s σ H D I q => h.run pins s σ H D I (k D σ H q)⟩
end
end Cl

set_option maxRecDepth 100000
namespace Cl
open PySem PySem.Spec PyProof.Rows L2
theorem own_id {ρ : Rho} {σ : L2.St} : ∀ q, Own ρ σ q → Own ρ σ q := fun _ h => h
theorem same_laid {F H : Hp} (s : Same F H) {p : Addr} {o : HO} : Same (upd F p o) (upd H p o) := fun b u e => by
  by_cases hb : b = p
  · subst hb
    rw [upd_same] at e ⊢
    exact e
  · rw [upd_ne hb] at e ⊢
    exact s _ _ e
section
variable {X : Cx} {ρ ρ1 ρ2 ρ3 : Rho} {a b c e : Expr} {es : List Expr} {d d1 d2 d3 : PyData} {ds : List PyData} {pos p2 : Pos} {i j : Int}

/-! ### names, constants -/
theorem e_var (n : Nat) {x : Str} (h : ρ[n]? = some (some (.dat d))) (hN : X.N[n]? = some x) (hv : Vis X.env.scope x) (hd : (x == ("__debug__" : Str)) = false := by decide) (hcd : (x == ("__classdict__" : Str)) = false := by decide) :
    ED X ρ (.Name x pos) ρ d := (pe_var hN hv hd hcd).weak fun σ H Q ⟨F, S, k⟩ => by
  obtain ⟨v, e1, e2⟩ := S.dat h
  exact ⟨v, e1, k v F H (Step.refl S) own_id e2⟩
theorem e_c {v : V} (h : PE X e (tC v)) (hd : ∀ F, Dq X.K F v d) : ED X ρ e ρ d := h.weak fun σ H Q ⟨F, S, k⟩ => k v F H (Step.refl S) own_id (hd F)
theorem e_int {j : Nat} : ED X ρ (.Constant (.int i) j pos) ρ (.int i) := e_c pe_int fun _ => .int i
theorem e_bl {b : Bool} {j : Nat} : ED X ρ (.Constant (.bool b) j pos) ρ (.bool b) := e_c pe_bl fun _ => .bl b
theorem e_non {j : Nat} : ED X ρ (.Constant .none j pos) ρ .none := e_c pe_non fun _ => .non
theorem e_str {x : Str} {j : Nat} : ED X ρ (.Constant (.str x) j pos) ρ (.str x) := e_c pe_str fun _ => .str x
theorem e_conv (h : ED X ρ e ρ1 d) (q : d = d1) : ED X ρ e ρ1 d1 := by rw [← q]; exact h
theorem t_conv {u v : Bool} (h : TD X ρ e ρ1 u) (q : u = v) : TD X ρ e ρ1 v := by rw [← q]; exact h

/-! ### two-place operators on data: nothing is made -/
theorem e_op {op : Operator} {r : R2} (ho : OpR X (binaryOp op) r) (ha : ED X ρ a ρ1 d1) (hb : ED X ρ1 b ρ2 d2)
    (hr : ∀ F H x y Q, Same F H → Dq X.K F x d1 → Dq X.K F y d2 → (∀ z, Dq X.K F z d → Q z H) → r x y H Q) : ED X ρ (.BinOp a op b pos) ρ2 d :=
  (pe_op ho ha hb).weak fun σ H Q ⟨F, S, k⟩ => ⟨F, S, fun x F1 H1 s1 o1 v1 => ⟨F1, s1.sat, fun y F2 H2 s2 o2 v2 =>
    hr F2 H2 x y Q s2.sat.sub (Dq.mono s2.fr _ v1) v2 fun z hz => k z F2 H2 (s1.trans s2) (fun q h => o1 q (o2 q h)) hz⟩⟩
theorem e_ii {op : Operator} {C : Int → Int → Prop} {g : Int → Int → V} (ho : OpR X (binaryOp op) (rI C g)) (hg : ∀ F, Dq X.K F (g i j) d) (hc : C i j) (ha : ED X ρ a ρ1 (.int i)) (hb : ED X ρ1 b ρ2 (.int j)) : ED X ρ (.BinOp a op b pos) ρ2 d :=
  e_op ho ha hb fun F H x y Q _ hx hy k => by cases hx; cases hy; exact ⟨i, j, rfl, rfl, hc, k _ (hg F)⟩
theorem e_ii0 {op : Operator} {g : Int → Int → V} (ho : OpR X (binaryOp op) (rI0 g)) (hg : ∀ F, Dq X.K F (g i j) d) (ha : ED X ρ a ρ1 (.int i)) (hb : ED X ρ1 b ρ2 (.int j)) : ED X ρ (.BinOp a op b pos) ρ2 d :=
  e_op ho ha hb fun F H x y Q _ hx hy k => by cases hx; cases hy; exact ⟨i, j, rfl, rfl, k _ (hg F)⟩
theorem e_add (ha : ED X ρ a ρ1 (.int i)) (hb : ED X ρ1 b ρ2 (.int j)) : ED X ρ (.BinOp a .Add b pos) ρ2 (.int (i + j)) := e_ii0 op_add (fun _ => .int _) ha hb
theorem e_sub (ha : ED X ρ a ρ1 (.int i)) (hb : ED X ρ1 b ρ2 (.int j)) : ED X ρ (.BinOp a .Sub b pos) ρ2 (.int (i - j)) := e_ii0 op_sub (fun _ => .int _) ha hb
theorem e_mul (hc : CMulW i j) (ha : ED X ρ a ρ1 (.int i)) (hb : ED X ρ1 b ρ2 (.int j)) : ED X ρ (.BinOp a .Mult b pos) ρ2 (.int (i * j)) := e_ii op_mulW (fun _ => .int _) hc ha hb
theorem e_fdiv (hc : CDivW i j) (ha : ED X ρ a ρ1 (.int i)) (hb : ED X ρ1 b ρ2 (.int j)) : ED X ρ (.BinOp a .FloorDiv b pos) ρ2 (.int (i / j)) := e_ii op_fdivW (fun _ => .int _) hc ha hb
theorem e_mod (hc : j ≠ 0) (ha : ED X ρ a ρ1 (.int i)) (hb : ED X ρ1 b ρ2 (.int j)) : ED X ρ (.BinOp a .Mod b pos) ρ2 (.int (i.fmod j)) := e_ii op_modN (fun _ => .int _) hc ha hb
theorem e_pow (hc : CPow i j) (ha : ED X ρ a ρ1 (.int i)) (hb : ED X ρ1 b ρ2 (.int j)) : ED X ρ (.BinOp a .Pow b pos) ρ2 (.int (i ^ j.toNat)) := e_ii op_pow (fun _ => .int _) hc ha hb
theorem e_neg (ha : ED X ρ a ρ1 (.int i)) : ED X ρ (.UnaryOp .USub a pos) ρ1 (.int (-i)) := (pe_un un_neg ha).weak fun σ H Q ⟨F, S, k⟩ => ⟨F, S, fun x F1 H1 s1 o1 v1 => by
  have q : Dq X.K F1 x (.int i) := v1
  cases q
  exact ⟨i, rfl, k _ F1 H1 s1 o1 (.int _)⟩⟩

/-! ### comparisons -/
theorem e_cmp {op : CmpOp} {r : R2} (ho : OpR X (compareOp op) r) (ha : ED X ρ a ρ1 d1) (hb : ED X ρ1 b ρ2 d2) (hm : behindInMarks op b = false)
    (hr : ∀ F H x y Q, Same F H → Dq X.K F x d1 → Dq X.K F y d2 → (∀ z, Dq X.K F z d → Q z H) → r x y H Q) : ED X ρ (.Compare a [op] [b] pos) ρ2 d :=
  (pe_cmpR ho ha hb hm).weak fun σ H Q ⟨F, S, k⟩ => ⟨F, S, fun x F1 H1 s1 o1 v1 => ⟨F1, s1.sat, fun y F2 H2 s2 o2 v2 =>
    hr F2 H2 x y Q s2.sat.sub (Dq.mono s2.fr _ v1) v2 fun z hz => k z F2 H2 (s1.trans s2) (fun q h => o1 q (o2 q h)) hz⟩⟩
theorem t_cmp {op : CmpOp} {r : R2} {u : Bool} (ho : OpR X (compareOp op) r) (ha : ED X ρ a ρ1 d1) (hb : ED X ρ1 b ρ2 d2) (hm : behindInMarks op b = false)
    (hr : ∀ F H x y Q, Same F H → Dq X.K F x d1 → Dq X.K F y d2 → Q (.bl u) H → r x y H Q) : TD X ρ (.Compare a [op] [b] pos) ρ2 u :=
  (pt_cmpR ho ha hb hm).weak fun σ H Q ⟨F, S, k⟩ => ⟨F, S, fun x F1 H1 s1 o1 v1 => ⟨F1, s1.sat, fun y F2 H2 s2 o2 v2 =>
    hr F2 H2 x y _ s2.sat.sub (Dq.mono s2.fr _ v1) v2 ⟨u, rfl, k F2 H2 (s1.trans s2) (fun q h => o1 q (o2 q h))⟩⟩⟩
/-- what a comparison of data gives -/
structure CmpD (X : Cx) (op : CmpOp) (d1 d2 : PyData) (u : Bool) : Prop where
  ex : ∃ r, OpR X (compareOp op) r ∧ ∀ F H x y (Q : VK), Same F H → Dq X.K F x d1 → Dq X.K F y d2 → Q (.bl u) H → r x y H Q
theorem c_ii {op : CmpOp} {g : Int → Int → Bool} (ho : OpR X (compareOp op) (rI0 fun i j => .bl (g i j))) : CmpD X op (.int i) (.int j) (g i j) :=
  ⟨_, ho, fun F H x y Q _ hx hy k => by cases hx; cases hy; exact ⟨i, j, rfl, rfl, k⟩⟩
theorem c_lt : CmpD X .Lt (.int i) (.int j) (decide (i < j)) := c_ii (g := fun i j => decide (i < j)) op_lt
theorem c_le : CmpD X .LtE (.int i) (.int j) (decide (i ≤ j)) := c_ii (g := fun i j => decide (i ≤ j)) op_le
theorem c_gt : CmpD X .Gt (.int i) (.int j) (decide (j < i)) := c_ii (g := fun i j => decide (j < i)) op_gt
theorem c_ge : CmpD X .GtE (.int i) (.int j) (decide (j ≤ i)) := c_ii (g := fun i j => decide (j ≤ i)) op_ge
theorem c_eqI : CmpD X .Eq (.int i) (.int j) (decide (i = j)) := ⟨_, op_eq, fun F H x y Q _ hx hy k => by
  cases hx; cases hy
  refine ⟨rfl, ?_⟩
  have z : decide ((V.int i) = V.int j) = decide (i = j) := by
    by_cases h : i = j
    · subst h; simp
    · rw [decide_eq_false h, decide_eq_false fun q => h (V.int.inj q)]
  rw [z]
  exact k⟩
theorem c_neI : CmpD X .NotEq (.int i) (.int j) (!decide (i = j)) := ⟨_, op_ne, fun F H x y Q _ hx hy k => by
  cases hx; cases hy
  refine ⟨rfl, ?_⟩
  have z : decide ((V.int i) = V.int j) = decide (i = j) := by
    by_cases h : i = j
    · subst h; simp
    · rw [decide_eq_false h, decide_eq_false fun q => h (V.int.inj q)]
  rw [z]
  exact k⟩
theorem c_eqS {x y : Str} : CmpD X .Eq (.str x) (.str y) (decide (x = y)) := ⟨_, op_eq, fun F H u v Q _ hx hy k => by
  cases hx; cases hy
  refine ⟨rfl, ?_⟩
  have z : decide ((V.str x) = V.str y) = decide (x = y) := by
    by_cases h : x = y
    · subst h; simp
    · rw [decide_eq_false h, decide_eq_false fun q => h (V.str.inj q)]
  rw [z]
  exact k⟩
theorem c_neS {x y : Str} : CmpD X .NotEq (.str x) (.str y) (!decide (x = y)) := ⟨_, op_ne, fun F H u v Q _ hx hy k => by
  cases hx; cases hy
  refine ⟨rfl, ?_⟩
  have z : decide ((V.str x) = V.str y) = decide (x = y) := by
    by_cases h : x = y
    · subst h; simp
    · rw [decide_eq_false h, decide_eq_false fun q => h (V.str.inj q)]
  rw [z]
  exact k⟩
theorem op_eqQ (hu : X.A.units + 64 < cLine) : OpR X (compareOp .Eq) (fun x y H Q => ∃ d e, Dq X.K H x d ∧ Dq X.K H y e ∧ SeqAt.shaped d = true ∧ SeqAt.shaped e = true ∧ Q (.bl (PyData.eqv d e)) H) := by
  intro pins s σ H x y v u Q I rx ry h
  obtain ⟨d, e, hd, he, sd, se, q⟩ := h
  obtain ⟨_, r1⟩ := Dq.rd I d x v hd rx
  obtain ⟨_, r2⟩ := Dq.rd I e y u he ry
  exact SeqAt.compareEq_shaped r1 r2 sd se hu ⟨.bl _, H, I, rfl, q⟩
theorem op_neQ (hu : X.A.units + 64 < cLine) : OpR X (compareOp .NotEq) (fun x y H Q => ∃ d e, Dq X.K H x d ∧ Dq X.K H y e ∧ SeqAt.shaped d = true ∧ SeqAt.shaped e = true ∧ Q (.bl (!PyData.eqv d e)) H) := by
  intro pins s σ H x y v u Q I rx ry h
  obtain ⟨d, e, hd, he, sd, se, q⟩ := h
  obtain ⟨_, r1⟩ := Dq.rd I d x v hd rx
  obtain ⟨_, r2⟩ := Dq.rd I e y u he ry
  exact SeqAt.compareNe_shaped r1 r2 sd se hu ⟨.bl _, H, I, rfl, q⟩
theorem c_eqQ (hu : X.A.units + 64 < cLine) (s1 : SeqAt.shaped d1 = true) (s2 : SeqAt.shaped d2 = true) : CmpD X .Eq d1 d2 (PyData.eqv d1 d2) :=
  ⟨_, op_eqQ hu, fun F H x y Q s hx hy k => ⟨d1, d2, hx.mono s, hy.mono s, s1, s2, k⟩⟩
theorem c_neQ (hu : X.A.units + 64 < cLine) (s1 : SeqAt.shaped d1 = true) (s2 : SeqAt.shaped d2 = true) : CmpD X .NotEq d1 d2 (!PyData.eqv d1 d2) :=
  ⟨_, op_neQ hu, fun F H x y Q s hx hy k => ⟨d1, d2, hx.mono s, hy.mono s, s1, s2, k⟩⟩
theorem e_cm {op : CmpOp} {u : Bool} (hc : CmpD X op d1 d2 u) (ha : ED X ρ a ρ1 d1) (hb : ED X ρ1 b ρ2 d2) (hm : behindInMarks op b = false) : ED X ρ (.Compare a [op] [b] pos) ρ2 (.bool u) := by
  obtain ⟨r, ho, hr⟩ := hc.ex
  exact e_cmp ho ha hb hm fun F H x y Q s hx hy k => hr F H x y Q s hx hy (k _ (.bl u))
theorem t_cm {op : CmpOp} {u : Bool} (hc : CmpD X op d1 d2 u) (ha : ED X ρ a ρ1 d1) (hb : ED X ρ1 b ρ2 d2) (hm : behindInMarks op b = false) : TD X ρ (.Compare a [op] [b] pos) ρ2 u := by
  obtain ⟨r, ho, hr⟩ := hc.ex
  exact t_cmp ho ha hb hm hr
/-- a test by a value that is a bool -/
theorem t_val {u : Bool} (h : ED X ρ e ρ1 (.bool u)) (he : ∀ whole, isTrue e X.env whole = (do let v ← whole; standAt e.pos; holding [v] (truthy v)) := by intro _; rfl) : TD X ρ e ρ1 u :=
  (pt_val h he).weak fun σ H Q ⟨F, S, k⟩ => ⟨F, S, fun x F1 H1 s1 o1 v1 => by
    have q : Dq X.K F1 x (.bool u) := v1
    cases q
    exact ⟨u, rfl, k F1 H1 s1 o1⟩⟩
theorem t_not {u : Bool} (h : TD X ρ e ρ1 u) : TD X ρ (.UnaryOp .Not e pos) ρ1 (!u) := (pt_not h).weak fun σ H Q ⟨F, S, k⟩ => ⟨F, S, fun F1 H1 s1 o1 => k F1 H1 s1 o1⟩
theorem e_not {u : Bool} (h : ED X ρ e ρ1 (.bool u)) : ED X ρ (.UnaryOp .Not e pos) ρ1 (.bool (!u)) := (pe_not h).weak fun σ H Q ⟨F, S, k⟩ => ⟨F, S, fun x F1 H1 s1 o1 v1 => by
  have q : Dq X.K F1 x (.bool u) := v1
  cases q
  exact ⟨u, rfl, k _ F1 H1 s1 o1 (.bl _)⟩⟩
end
end Cl

set_option maxRecDepth 100000
namespace Cl
open PySem PySem.Spec PyProof.Rows L2
theorem _root_.L2.PW.weak {X : Cx} {e : Expr} {t t' : TT} (h : PW X e t) (k : ∀ σ H Q, t' σ H Q → t σ H Q) : PW X e t' := ⟨fun wh pins s σ H Q I q => h.run wh pins s σ H Q I (k σ H Q q)⟩
abbrev WD (X : Cx) (ρ : Rho) (e : Expr) (ρ' : Rho) (b : Bool) : Prop := PW X e (tDT X.K ρ ρ' b)
theorem pe_void {X : Cx} {e : Expr} : PE X e (fun _ _ _ => False) := ⟨fun _ _ _ _ _ _ h => h.elim⟩
theorem pt_void {X : Cx} {e : Expr} : PT X e (fun _ _ _ => False) := ⟨fun _ _ _ _ _ _ h => h.elim⟩
theorem pw_void {X : Cx} {e : Expr} : PW X e (fun _ _ _ => False) := ⟨fun _ _ _ _ _ _ _ h => h.elim⟩
section
variable {X : Cx} {ρ ρ1 ρ2 ρ3 : Rho} {a b c e : Expr} {es rest : List Expr} {d d1 d2 d3 : PyData} {ds ds1 ds2 : List PyData} {pos p2 : Pos} {i j : Int} {u v : Bool}

/-! ### and, or, if -/
theorem w_and1 (h : TD X ρ a ρ1 u) : WD X ρ (.BoolOp .And [a] pos) ρ1 u := pw_and1 h
theorem w_or1 (h : TD X ρ a ρ1 u) : WD X ρ (.BoolOp .Or [a] pos) ρ1 u := pw_or1 h
theorem w_and (ha : TD X ρ a ρ1 u) (hb : u = true → WD X ρ1 (.BoolOp .And (b :: rest) pos) ρ2 v) (h0 : u = false → ρ2 = ρ1 := by first | (intro _; rfl) | (intro h; cases h)) : WD X ρ (.BoolOp .And (a :: b :: rest) pos) ρ2 (u && v) := by
  cases u with
  | true =>
    refine (pw_and ha (hb rfl)).weak fun σ H Q ⟨F, S, k⟩ => ⟨F, S, fun F1 H1 s1 o1 => ?_⟩
    exact iteT ⟨F1, s1.sat, fun F2 H2 s2 o2 => k F2 H2 (s1.trans s2) fun q h => o1 q (o2 q h)⟩
  | false =>
    have e := h0 rfl
    subst e
    exact (pw_and ha pw_void).weak fun σ H Q ⟨F, S, k⟩ => ⟨F, S, fun F1 H1 s1 o1 => iteF (k F1 H1 s1 o1)⟩
theorem w_or (ha : TD X ρ a ρ1 u) (hb : u = false → WD X ρ1 (.BoolOp .Or (b :: rest) pos) ρ2 v) (h0 : u = true → ρ2 = ρ1 := by first | (intro _; rfl) | (intro h; cases h)) : WD X ρ (.BoolOp .Or (a :: b :: rest) pos) ρ2 (u || v) := by
  cases u with
  | false =>
    refine (pw_or ha (hb rfl)).weak fun σ H Q ⟨F, S, k⟩ => ⟨F, S, fun F1 H1 s1 o1 => ?_⟩
    exact iteF ⟨F1, s1.sat, fun F2 H2 s2 o2 => k F2 H2 (s1.trans s2) fun q h => o1 q (o2 q h)⟩
  | true =>
    have e := h0 rfl
    subst e
    exact (pw_or ha pw_void).weak fun σ H Q ⟨F, S, k⟩ => ⟨F, S, fun F1 H1 s1 o1 => iteT (k F1 H1 s1 o1)⟩
theorem t_w (h : WD X ρ e ρ1 u) : TD X ρ e ρ1 u := h.pt
theorem e_one {op : BoolOp} (h : ED X ρ a ρ1 d) : ED X ρ (.BoolOp op [a] pos) ρ1 d := pe_one h
theorem e_and (ha : ED X ρ a ρ1 (.bool u)) (hb : u = true → ED X ρ1 (.BoolOp .And (b :: rest) pos) ρ2 (.bool v)) (h0 : u = false → ρ2 = ρ1 := by first | (intro _; rfl) | (intro h; cases h)) : ED X ρ (.BoolOp .And (a :: b :: rest) pos) ρ2 (.bool (u && v)) := by
  cases u with
  | true =>
    refine (pe_and ha (hb rfl)).weak fun σ H Q ⟨F, S, k⟩ => ⟨F, S, fun x F1 H1 s1 o1 v1 => ?_⟩
    have q : Dq X.K F1 x (.bool true) := v1
    cases q
    exact ⟨true, rfl, iteT ⟨F1, s1.sat, fun y F2 H2 s2 o2 v2 => k y F2 H2 (s1.trans s2) (fun q h => o1 q (o2 q h)) v2⟩⟩
  | false =>
    have e := h0 rfl
    subst e
    refine (pe_and ha pe_void).weak fun σ H Q ⟨F, S, k⟩ => ⟨F, S, fun x F1 H1 s1 o1 v1 => ?_⟩
    have q : Dq X.K F1 x (.bool false) := v1
    cases q
    exact ⟨false, rfl, iteF (k _ F1 H1 s1 o1 (.bl _))⟩
theorem e_or (ha : ED X ρ a ρ1 (.bool u)) (hb : u = false → ED X ρ1 (.BoolOp .Or (b :: rest) pos) ρ2 (.bool v)) (h0 : u = true → ρ2 = ρ1 := by first | (intro _; rfl) | (intro h; cases h)) : ED X ρ (.BoolOp .Or (a :: b :: rest) pos) ρ2 (.bool (u || v)) := by
  cases u with
  | false =>
    refine (pe_or ha (hb rfl)).weak fun σ H Q ⟨F, S, k⟩ => ⟨F, S, fun x F1 H1 s1 o1 v1 => ?_⟩
    have q : Dq X.K F1 x (.bool false) := v1
    cases q
    exact ⟨false, rfl, iteF ⟨F1, s1.sat, fun y F2 H2 s2 o2 v2 => k y F2 H2 (s1.trans s2) (fun q h => o1 q (o2 q h)) v2⟩⟩
  | true =>
    have e := h0 rfl
    subst e
    refine (pe_or ha pe_void).weak fun σ H Q ⟨F, S, k⟩ => ⟨F, S, fun x F1 H1 s1 o1 v1 => ?_⟩
    have q : Dq X.K F1 x (.bool true) := v1
    cases q
    exact ⟨true, rfl, iteT (k _ F1 H1 s1 o1 (.bl _))⟩
/-- a if c else b -/
theorem e_if (hc : TD X ρ c ρ1 u) (ha : u = true → ED X ρ1 a ρ2 d) (hb : u = false → ED X ρ1 b ρ2 d) : ED X ρ (.IfExp c a b pos) ρ2 d := by
  cases u with
  | true =>
    refine (pe_ifExp hc (ha rfl) pe_void).weak fun σ H Q ⟨F, S, k⟩ => ⟨F, S, fun F1 H1 s1 o1 => iteT ⟨F1, s1.sat, fun y F2 H2 s2 o2 v2 => k y F2 H2 (s1.trans s2) (fun q h => o1 q (o2 q h)) v2⟩⟩
  | false =>
    refine (pe_ifExp hc pe_void (hb rfl)).weak fun σ H Q ⟨F, S, k⟩ => ⟨F, S, fun F1 H1 s1 o1 => iteF ⟨F1, s1.sat, fun y F2 H2 s2 o2 v2 => k y F2 H2 (s1.trans s2) (fun q h => o1 q (o2 q h)) v2⟩⟩

/-! ### arguments, displays -/
theorem a_nil : AD X ρ [] ρ [] := pa_nil.weak fun σ H Q ⟨F, S, k⟩ => k [] F H (Step.refl S) own_id .nil
theorem a_cons (h : ED X ρ e ρ1 d) (t : AD X ρ1 es ρ2 ds) (hs : starEach (e :: es) X.env = (false, eval e X.env) :: starEach es X.env := by rfl) : AD X ρ (e :: es) ρ2 (d :: ds) :=
  (pa_cons h t hs).weak fun σ H Q ⟨F, S, k⟩ => ⟨F, S, fun x F1 H1 s1 o1 v1 => ⟨F1, s1.sat, fun vs F2 H2 s2 o2 v2 => k _ F2 H2 (s1.trans s2) (fun q h => o1 q (o2 q h)) (.cons (Dq.mono s2.fr _ v1) v2)⟩⟩
theorem e_tup {k : Nat} (h : AD X ρ es ρ1 ds) (hz : ds.length ≤ 1000000 := by exact Nat.le_of_ble_eq_true rfl) : ED X ρ (.Tuple es k pos) ρ1 (.tuple ds) :=
  (pe_tup h).weak fun σ H Q ⟨F, S, k⟩ => ⟨F, S, fun vs F1 H1 s1 o1 v1 => ⟨by rw [v1.length]; exact Nat.le_trans hz (by decide), fun p hp => by
    have st := s1.trans (Step.laid s1.sat (o := .tup vs) hp)
    exact k _ _ _ st o1 (.tup (.inl (.inl upd_same)) (DqA.mono (same_upd (s1.sat.sub.free hp)) _ v1))⟩⟩
theorem e_lst (h : AD X ρ es ρ1 ds) (hz : ds.length ≤ 1000000 := by exact Nat.le_of_ble_eq_true rfl) : ED X ρ (.List es pos) ρ1 (.list ds) :=
  (pe_lst h).weak fun σ H Q ⟨F, S, k⟩ => ⟨F, S, fun vs F1 H1 s1 o1 v1 => ⟨by rw [v1.length]; exact Nat.le_trans hz (by decide), fun p hp => by
    have st := s1.trans (Step.laid s1.sat (o := .lst vs) hp)
    exact k _ _ _ st o1 (.lst upd_same (DqA.mono (same_upd (s1.sat.sub.free hp)) _ v1))⟩⟩
/-- fresh behind a step is fresh ahead of it -/
theorem Step.fresh {K : PySem.W.Frag} {F F' H H' : Hp} {ρ' : Rho} {σ σ' : L2.St} (s : Step K ρ σ F H ρ' σ' F' H') {p : Addr} (hp : H' p = none) : H p = none ∧ ¬ Own ρ' σ' p := by
  have no : ¬ Own ρ' σ' p := fun z => (s.sat.ownF z).2 hp
  refine ⟨?_, no⟩
  cases e : H p with
  | none => rfl
  | some o => exact absurd hp (s.live p (by rw [e]; simp))
/-- a new list, held alone -/
theorem o_lst (h : AD X ρ es ρ1 ds) (hz : ds.length ≤ 1000000 := by exact Nat.le_of_ble_eq_true rfl) : EO X ρ (.List es pos) ρ1 ds :=
  (pe_lst h).weak fun σ H Q ⟨F, S, k⟩ => ⟨F, S, fun vs F1 H1 s1 o1 v1 => ⟨by rw [v1.length]; exact Nat.le_trans hz (by decide), fun p hp => by
    have st := s1.trans (Step.laidM s1.sat (o := .lst vs) hp)
    exact k _ _ _ st o1 ⟨p, .lst vs, rfl, ⟨.inl (s1.fresh hp).1, (s1.fresh hp).2⟩, s1.sat.sub.free hp, upd_same, v1⟩⟩⟩
/-- a value that came as one's own is data from now on -/
theorem Step.freeze {K : PySem.W.Frag} {F F' H H' : Hp} {ρ' : Rho} {σ σ' : L2.St} (s : Step K ρ σ F H ρ' σ' F' H') {p : Addr} {o : HO} (h1 : H p = none ∨ Own ρ σ p) (h2 : ¬ Own ρ' σ' p) (h3 : F' p = none) (h4 : H' p = some o) : Step K ρ σ F H ρ' σ' (upd F' p o) H' := by
  have e : Same F' (upd F' p o) := same_upd h3
  refine ⟨s.fr.trans e, fun q a b c => ?_, s.keep, s.live, ⟨s.sat.len, fun b u z => ?_, fun i c x a b => ?_, s.sat.inj⟩, s.own⟩
  · have : q ≠ p := fun z => by
      subst z
      rcases h1 with y | y
      · exact b y
      · exact c y
    rw [upd_ne this]
    exact s.new q a b c
  · by_cases hb : b = p
    · subst hb
      rw [upd_same] at z
      rw [h4]
      exact z
    · rw [upd_ne hb] at z
      exact s.sat.sub _ _ z
  · have q := s.sat.slot i c x a b
    cases c with
    | none => trivial
    | some c =>
      cases c with
      | dat d =>
        obtain ⟨v, q1, q2⟩ := q
        exact ⟨v, q1, q2.mono e⟩
      | own m =>
        obtain ⟨r, u, q1, q2, q3, q4⟩ := q
        have : r ≠ p := fun z => h2 ⟨i, _, m, a, rfl, by rw [b, q1, z]⟩
        exact ⟨r, u, q1, by rw [upd_ne this]; exact q2, q3, q4.mono e⟩
      | bor r m =>
        obtain ⟨u, q1, q2, q3, q4⟩ := q
        have : r ≠ p := fun z => h2 ⟨i, _, m, a, rfl, by rw [b, q1, z]⟩
        exact ⟨u, q1, by rw [upd_ne this]; exact q2, q3, q4.mono e⟩
      | scr ns =>
        obtain ⟨r, q1, q2⟩ := q
        exact ⟨r, q1, e.seq q2⟩
theorem e_own {l : List PyData} (h : EO X ρ e ρ1 l) : ED X ρ e ρ1 (.list l) := h.weak fun σ H Q ⟨F, S, k⟩ => ⟨F, S, fun v F1 H1 s1 o1 ⟨p, o, e1, ⟨e2, e3⟩, e4, e5, e6⟩ => by
  cases o with
  | lst xs =>
    subst e1
    exact k _ _ _ (s1.freeze e2 e3 e4 e5) o1 (.lst upd_same (DqA.mono (same_upd e4) _ e6))
  | _ => exact e6.elim⟩

/-! ### places -/
theorem DqA.atI {K : PySem.W.Frag} {F : Hp} {vs : List V} {i : Int} (h : DqA K F vs ds) (e : atI ds i = some d) : ∃ v, L2.atI vs i = some v ∧ Dq K F v d := by
  unfold L2.atI at e ⊢
  rw [h.length]
  cases q : ixN ds.length i with
  | none => rw [q] at e; cases e
  | some j =>
    rw [q] at e
    exact h.get' e
theorem e_ixL (ha : ED X ρ a ρ1 (.list ds)) (hb : ED X ρ1 b ρ2 (.int i)) (hi : atI ds i = some d) (hs : PlainIx b := by intro _ _; rfl) : ED X ρ (.Subscript a b pos) ρ2 d :=
  (pe_ix ix_list ha hb hs).weak fun σ H Q ⟨F, S, k⟩ => ⟨F, S, fun x F1 H1 s1 o1 v1 => ⟨F1, s1.sat, fun y F2 H2 s2 o2 v2 => by
    have v3 := Dq.mono s2.fr _ v1
    have v4 : Dq X.K F2 y (.int i) := v2
    cases v4
    cases v3 with
    | lst hs ha =>
      obtain ⟨v, q1, q2⟩ := ha.atI hi
      exact ⟨_, _, i, v, rfl, rfl, .inl (.inl (s2.sat.sub _ _ hs)), q1, k v F2 H2 (s1.trans s2) (fun q h => o1 q (o2 q h)) q2⟩⟩⟩
theorem e_ixT (ha : ED X ρ a ρ1 (.tuple ds)) (hb : ED X ρ1 b ρ2 (.int i)) (hi : atI ds i = some d) (hs : PlainIx b := by intro _ _; rfl) : ED X ρ (.Subscript a b pos) ρ2 d :=
  (pe_ix ix_tup ha hb hs).weak fun σ H Q ⟨F, S, k⟩ => ⟨F, S, fun x F1 H1 s1 o1 v1 => ⟨F1, s1.sat, fun y F2 H2 s2 o2 v2 => by
    have v3 := Dq.mono s2.fr _ v1
    have v4 : Dq X.K F2 y (.int i) := v2
    cases v4
    cases v3 with
    | tup hs ha =>
      obtain ⟨v, q1, q2⟩ := ha.atI hi
      exact ⟨_, _, i, v, rfl, rfl, sqT_same s2.sat.sub hs, q1, k v F2 H2 (s1.trans s2) (fun q h => o1 q (o2 q h)) q2⟩⟩⟩
/-- a place of a list that a name holds alone -/
theorem e_ixO (n : Nat) {x : Str} {cc : Cell} {l : List PyData} (h : ρ[n]? = some (some cc)) (hm : cc.mu = some (.lst l)) (hN : X.N[n]? = some x) (hv : Vis X.env.scope x) (hb : ED X ρ b ρ (.int i)) (hi : atI l i = some d) (hs : PlainIx b := by intro _ _; rfl)
    (hd : (x == ("__debug__" : Str)) = false := by decide) (hcd : (x == ("__classdict__" : Str)) = false := by decide) : ED X ρ (.Subscript (.Name x p2) b pos) ρ d :=
  (pe_ix ix_list (pe_var hN hv hd hcd) hb hs).weak fun σ H Q ⟨F, S, k⟩ => by
    obtain ⟨p, o, e1, e2, e3, e4⟩ := S.held h hm
    refine ⟨_, e1, F, S, fun y F2 H2 s2 o2 v2 => ?_⟩
    have v4 : Dq X.K F2 y (.int i) := v2
    cases v4
    obtain ⟨p', o', f1, f2, f3, f4⟩ := s2.sat.held h hm
    rw [e1] at f1
    cases f1
    cases o' with
    | lst xs =>
      obtain ⟨v, q1, q2⟩ := DqA.atI f4 hi
      exact ⟨p, xs, i, v, rfl, rfl, .inl (.inl f3), q1, k v F2 H2 s2 o2 q2⟩
    | _ => exact f4.elim
/-- a place of the script -/
theorem e_ixS (n : Nat) {x : Str} {ns : List Int} {m : Int} (h : ρ[n]? = some (some (.scr ns))) (hN : X.N[n]? = some x) (hv : Vis X.env.scope x) (hb : ED X ρ b ρ (.int i)) (hi : atI ns i = some m) (hs : PlainIx b := by intro _ _; rfl)
    (hd : (x == ("__debug__" : Str)) = false := by decide) (hcd : (x == ("__classdict__" : Str)) = false := by decide) : ED X ρ (.Subscript (.Name x p2) b pos) ρ (.int m) :=
  (pe_ix ix_list (pe_var hN hv hd hcd) hb hs).weak fun σ H Q ⟨F, S, k⟩ => by
    obtain ⟨p, e1, e2⟩ := S.scr h
    refine ⟨_, e1, F, S, fun y F2 H2 s2 o2 v2 => ?_⟩
    have v4 : Dq X.K F2 y (.int i) := v2
    cases v4
    refine ⟨p, ns.map V.int, i, .int m, rfl, rfl, (s2.fr.trans s2.sat.sub).seq e2, ?_, k _ F2 H2 s2 o2 (.int m)⟩
    unfold L2.atI at hi ⊢
    rw [List.length_map]
    cases q : ixN ns.length i with
    | none => rw [q] at hi; cases hi
    | some j =>
      rw [q] at hi
      have hi' : ns[j]? = some m := hi
      show (ns.map V.int)[j]? = some (.int m)
      rw [List.getElem?_map, hi']
      rfl

/-! ### slices -/
def cutD (ds : List PyData) (lo hi : Option Int) : List PyData := (ds.drop (HT.sIx ds.length 0 lo)).take (HT.sIx ds.length ds.length hi - HT.sIx ds.length 0 lo)
def tDO (K : PySem.W.Frag) (ρ ρ' : Rho) (o : Option Int) : TO := fun σ H Q => ∃ F, Sat K F ρ σ H ∧ ∀ F' H', Step K ρ σ F H ρ' σ F' H' → (∀ q, Own ρ' σ q → Own ρ σ q) → Q o H'
abbrev OD (X : Cx) (ρ : Rho) (o : Option Expr) (ρ' : Rho) (n : Option Int) : Prop := PO X o (tDO X.K ρ ρ' n)
theorem _root_.L2.PO.weak {o : Option Expr} {t t' : TO} (h : PO X o t) (k : ∀ σ H Q, t' σ H Q → t σ H Q) : PO X o t' := ⟨fun pins s σ H Q I q => h.run pins s σ H Q I (k σ H Q q)⟩
theorem o_none : OD X ρ none ρ none := po_none.weak fun σ H Q ⟨F, S, k⟩ => k F H (Step.refl S) own_id
theorem o_some (h : ED X ρ e ρ1 (.int i)) : OD X ρ (some e) ρ1 (some i) := (po_some h).weak fun σ H Q ⟨F, S, k⟩ => ⟨F, S, fun x F1 H1 s1 o1 v1 => by
  have q : Dq X.K F1 x (.int i) := v1
  cases q
  exact ⟨i, rfl, k F1 H1 s1 o1⟩⟩
theorem DqA.cut {K : PySem.W.Frag} {F : Hp} {vs : List V} (h : DqA K F vs ds) (lo hi : Option Int) : DqA K F (cutV vs lo hi) (cutD ds lo hi) := by
  unfold cutV cutD
  rw [h.length]
  exact (h.drop _).take _
theorem e_slL {lo hi : Option Expr} {m n : Option Int} (ha : ED X ρ a ρ1 (.list ds)) (hl : OD X ρ1 lo ρ2 m) (hh : OD X ρ2 hi ρ3 n) : ED X ρ (.Subscript a (.Slice lo hi none p2) pos) ρ3 (.list (cutD ds m n)) :=
  (pe_slice sl_list ha hl hh).weak fun σ H Q ⟨F, S, k⟩ => ⟨F, S, fun x F1 H1 s1 o1 v1 => ⟨F1, s1.sat, fun F2 H2 s2 o2 => ⟨F2, s2.sat, fun F3 H3 s3 o3 => by
    have v3 := Dq.mono (s2.fr.trans s3.fr) _ v1
    cases v3 with
    | lst hs ha =>
      refine ⟨_, _, rfl, .inl (.inl (s3.sat.sub _ _ hs)), fun p hp => ?_⟩
      exact k _ _ _ (Step.trans ((s1.trans s2).trans s3) (Step.laid s3.sat hp)) (fun q h => o1 q (o2 q (o3 q h))) (.lst upd_same (DqA.mono (same_upd (s3.sat.sub.free hp)) _ (ha.cut m n)))⟩⟩⟩
theorem e_slLc {lo hi : Option Expr} {m n : Option Int} {l : List PyData} (ha : ED X ρ a ρ1 (.list ds)) (hl : OD X ρ1 lo ρ2 m) (hh : OD X ρ2 hi ρ3 n) (h : cutD ds m n = l) : ED X ρ (.Subscript a (.Slice lo hi none p2) pos) ρ3 (.list l) := by
  rw [← h]
  exact e_slL ha hl hh
theorem cutV_whole {xs : List V} {m n : Option Int} (h : HT.sIx xs.length 0 m = 0 ∧ HT.sIx xs.length xs.length n = xs.length) : cutV xs m n = xs := by
  unfold cutV
  rw [h.1, h.2]
  simp
theorem e_slT {lo hi : Option Expr} {m n : Option Int} (ha : ED X ρ a ρ1 (.tuple ds)) (hl : OD X ρ1 lo ρ2 m) (hh : OD X ρ2 hi ρ3 n) : ED X ρ (.Subscript a (.Slice lo hi none p2) pos) ρ3 (.tuple (cutD ds m n)) :=
  (pe_slice sl_tupA ha hl hh).weak fun σ H Q ⟨F, S, k⟩ => ⟨F, S, fun x F1 H1 s1 o1 v1 => ⟨F1, s1.sat, fun F2 H2 s2 o2 => ⟨F2, s2.sat, fun F3 H3 s3 o3 => by
    have v3 := Dq.mono (s2.fr.trans s3.fr) _ v1
    cases v3 with
    | tup hs ha =>
      refine ⟨_, _, rfl, sqT_same s3.sat.sub hs, fun z => ?_, fun z p hp => ?_⟩
      · refine k _ _ _ ((s1.trans s2).trans s3) (fun q h => o1 q (o2 q (o3 q h))) (.tup hs ?_)
        have q := ha.cut m n
        rw [cutV_whole z] at q
        exact q
      · exact k _ _ _ (Step.trans ((s1.trans s2).trans s3) (Step.laid s3.sat hp)) (fun q h => o1 q (o2 q (o3 q h))) (.tup (.inl (.inl upd_same)) (DqA.mono (same_upd (s3.sat.sub.free hp)) _ (ha.cut m n)))⟩⟩⟩

/-! ### list + list, tuple + tuple, times -/
theorem e_catL (ha : ED X ρ a ρ1 (.list ds1)) (hb : ED X ρ1 b ρ2 (.list ds2)) (hz : ds1.length + ds2.length ≤ 1000000) : ED X ρ (.BinOp a .Add b pos) ρ2 (.list (ds1 ++ ds2)) :=
  (pe_op op_cat ha hb).weak fun σ H Q ⟨F, S, k⟩ => ⟨F, S, fun x F1 H1 s1 o1 v1 => ⟨F1, s1.sat, fun y F2 H2 s2 o2 v2 => by
    have v3 := Dq.mono s2.fr _ v1
    have v4 : Dq X.K F2 y (.list ds2) := v2
    cases v3 with
    | lst hs ha =>
      cases v4 with
      | lst hs' ha' =>
        refine ⟨_, _, _, _, rfl, rfl, s2.sat.sub _ _ hs, s2.sat.sub _ _ hs', by rw [ha.length, ha'.length]; exact Nat.le_trans hz (by decide), fun p hp => ?_⟩
        exact k _ _ _ (Step.trans (s1.trans s2) (Step.laid s2.sat hp)) (fun q h => o1 q (o2 q h)) (.lst upd_same (DqA.mono (same_upd (s2.sat.sub.free hp)) _ (ha.append ha')))⟩⟩
theorem e_catT (ha : ED X ρ a ρ1 (.tuple ds1)) (hb : ED X ρ1 b ρ2 (.tuple ds2)) (hz : ds1.length + ds2.length ≤ 1000000) : ED X ρ (.BinOp a .Add b pos) ρ2 (.tuple (ds1 ++ ds2)) :=
  (pe_op op_catA ha hb).weak fun σ H Q ⟨F, S, k⟩ => ⟨F, S, fun x F1 H1 s1 o1 v1 => ⟨F1, s1.sat, fun y F2 H2 s2 o2 v2 => by
    have v3 := Dq.mono s2.fr _ v1
    have v4 : Dq X.K F2 y (.tuple ds2) := v2
    have oo : ∀ q, Own ρ2 σ q → Own ρ σ q := fun q h => o1 q (o2 q h)
    cases v3 with
    | tup hs ha =>
      cases v4 with
      | tup hs' ha' =>
        refine ⟨_, _, _, _, rfl, rfl, sqT_same s2.sat.sub hs, sqT_same s2.sat.sub hs', by rw [ha.length, ha'.length]; exact Nat.le_trans hz (by decide), fun z => ?_, fun _ z => ?_, fun _ _ p hp => ?_⟩
        · subst z
          cases ha
          exact k _ _ _ (s1.trans s2) oo (.tup hs' ha')
        · subst z
          cases ha'
          exact k _ _ _ (s1.trans s2) oo (.tup hs (by rw [List.append_nil]; exact ha))
        · exact k _ _ _ (Step.trans (s1.trans s2) (Step.laid s2.sat hp)) oo (.tup (.inl (.inl upd_same)) (DqA.mono (same_upd (s2.sat.sub.free hp)) _ (ha.append ha')))⟩⟩
theorem e_repL (ha : ED X ρ a ρ1 (.list ds)) (hb : ED X ρ1 b ρ2 (.int i)) (h1 : -(2 ^ 63) ≤ i) (h2 : i < 2 ^ 63) (hz : ds.length * i.toNat ≤ 1000000) : ED X ρ (.BinOp a .Mult b pos) ρ2 (.list (List.replicate i.toNat ds).flatten) :=
  (pe_op op_rep ha hb).weak fun σ H Q ⟨F, S, k⟩ => ⟨F, S, fun x F1 H1 s1 o1 v1 => ⟨F1, s1.sat, fun y F2 H2 s2 o2 v2 => by
    have v3 := Dq.mono s2.fr _ v1
    have v4 : Dq X.K F2 y (.int i) := v2
    cases v4
    cases v3 with
    | lst hs ha =>
      refine ⟨_, i, _, rfl, rfl, s2.sat.sub _ _ hs, h1, h2, by rw [ha.length]; exact Nat.le_trans hz (by decide), fun p hp => ?_⟩
      exact k _ _ _ (Step.trans (s1.trans s2) (Step.laid s2.sat hp)) (fun q h => o1 q (o2 q h)) (.lst upd_same (DqA.mono (same_upd (s2.sat.sub.free hp)) _ (ha.repeat i.toNat)))⟩⟩
theorem e_catLc {l : List PyData} (ha : ED X ρ a ρ1 (.list ds1)) (hb : ED X ρ1 b ρ2 (.list ds2)) (hz : ds1.length + ds2.length ≤ 1000000) (h : ds1 ++ ds2 = l) : ED X ρ (.BinOp a .Add b pos) ρ2 (.list l) := by
  rw [← h]
  exact e_catL ha hb hz
theorem e_repLc {l : List PyData} (ha : ED X ρ a ρ1 (.list ds)) (hb : ED X ρ1 b ρ2 (.int i)) (h1 : -(2 ^ 63) ≤ i) (h2 : i < 2 ^ 63) (hz : ds.length * i.toNat ≤ 1000000) (h : (List.replicate i.toNat ds).flatten = l) : ED X ρ (.BinOp a .Mult b pos) ρ2 (.list l) := by
  rw [← h]
  exact e_repL ha hb h1 h2 hz
theorem e_repT (ha : ED X ρ a ρ1 (.tuple ds)) (hb : ED X ρ1 b ρ2 (.int i)) (h1 : 2 ≤ i) (h2 : i ≤ 1000) (h0 : ds ≠ []) (hz : ds.length ≤ 1000) : ED X ρ (.BinOp a .Mult b pos) ρ2 (.tuple (List.replicate i.toNat ds).flatten) :=
  (pe_op op_repT ha hb).weak fun σ H Q ⟨F, S, k⟩ => ⟨F, S, fun x F1 H1 s1 o1 v1 => ⟨F1, s1.sat, fun y F2 H2 s2 o2 v2 => by
    have v3 := Dq.mono s2.fr _ v1
    have v4 : Dq X.K F2 y (.int i) := v2
    cases v4
    cases v3 with
    | tup hs ha =>
      refine ⟨_, i, _, rfl, rfl, sqT_same s2.sat.sub hs, fun z => ?_, h1, h2, by rw [ha.length]; exact hz, fun p hp => ?_⟩
      · subst z
        cases ha
        exact h0 rfl
      exact k _ _ _ (Step.trans (s1.trans s2) (Step.laid s2.sat hp)) (fun q h => o1 q (o2 q h)) (.tup (.inl (.inl upd_same)) (DqA.mono (same_upd (s2.sat.sub.free hp)) _ (ha.repeat i.toNat)))⟩⟩
end
end Cl

set_option maxRecDepth 100000
namespace Cl
open PySem PySem.Spec PyProof.Rows L2
/-- the frozen part and the heap have grown -/
structure Grow (F H F' H' : Hp) : Prop where
  fr : Same F F'
  new : ∀ q, F q = none → H q ≠ none → F' q = none
  k : Same H H'
  s : Same F' H'
theorem Grow.refl {F H : Hp} (s : Same F H) : Grow F H F H := ⟨Same.refl F, fun _ h _ => h, Same.refl H, s⟩
theorem Grow.laid {F H : Hp} (s : Same F H) {p : Addr} {o : HO} (h : H p = none) : Grow F H (upd F p o) (upd H p o) :=
  ⟨same_upd (s.free h), fun q h1 h2 => by
    have : q ≠ p := fun z => h2 (by rw [z]; exact h)
    rw [upd_ne this]
    exact h1, same_upd h, same_laid s⟩
theorem Grow.step {K : PySem.W.Frag} {ρ : Rho} {σ : L2.St} {F H F' H' : Hp} (g : Grow F H F' H') (S : Sat K F ρ σ H) : Step K ρ σ F H ρ σ F' H' := Step.grow S g.fr g.new g.k g.s
theorem Grow.trans {F H F1 H1 F2 H2 : Hp} (a : Grow F H F1 H1) (b : Grow F1 H1 F2 H2) : Grow F H F2 H2 :=
  ⟨a.fr.trans b.fr, fun q h1 h2 => b.new q (a.new q h1 h2) (fun z => h2 (a.k.free z)), a.k.trans b.k, b.s⟩
/-- a call of f on data gives data -/
structure CallD (X : Cx) (f : Value) (ds : List PyData) (d : PyData) : Prop where
  ex : ∃ r, CallR X f r ∧ ∀ F H vs (Q : VK), Same F H → DqA X.K F vs ds → (∀ v F' H', Grow F H F' H' → Dq X.K F' v d → Q v H') → r vs H Q
section
variable {X : Cx} {ρ ρ1 ρ2 ρ3 : Rho} {a b c e : Expr} {es rest : List Expr} {d d1 d2 d3 : PyData} {ds ds1 ds2 : List PyData} {pos p2 p : Pos} {i j : Int} {u v : Bool} {x : Str}
theorem e_cb {r : List V → Hp → VK → Prop} (h : PE X e (tCB r (tDA X.K ρ ρ1 ds))) (hr : ∀ F H vs (Q : VK), Same F H → DqA X.K F vs ds → (∀ v F' H', Grow F H F' H' → Dq X.K F' v d → Q v H') → r vs H Q) : ED X ρ e ρ1 d :=
  h.weak fun σ H Q ⟨F, S, k⟩ => ⟨F, S, fun vs F1 H1 s1 o1 v1 => hr F1 H1 vs Q s1.sat.sub v1 fun v F2 H2 g hv => k v F2 H2 (s1.trans (g.step s1.sat)) o1 hv⟩
theorem e_bi {id : String} (hc : CallD X (.builtin id) ds d) (hg : Gl X x) (hm : X.mg x = none) (hv : bootBuiltins x = some (.builtin id)) (ha : AD X ρ (e :: es) ρ1 ds) (hn : x ≠ "__name__" := by decide) (hdb : (x == ("__debug__" : Str)) = false := by decide)
    (he : starEach (e :: es) X.env = (false, eval e X.env) :: starEach es X.env := by rfl) (hpl : (backTo pos (starEach es X.env)).any (·.1) = false := by rfl) : ED X ρ (.Call (.Name x p) (e :: es) [] pos) ρ1 d := by
  obtain ⟨r, h1, h2⟩ := hc.ex
  exact e_cb (pe_callB h1 hg hm hv ha hn hdb he hpl) h2
theorem e_bt {T : String} (hc : CallD X (.type T) ds d) (hg : Gl X x) (hm : X.mg x = none) (hv : bootBuiltins x = some (.type T)) (ha : AD X ρ (e :: es) ρ1 ds) (hn : x ≠ "__name__" := by decide) (hdb : (x == ("__debug__" : Str)) = false := by decide)
    (he : starEach (e :: es) X.env = (false, eval e X.env) :: starEach es X.env := by rfl) (hpl : (backTo pos (starEach es X.env)).any (·.1) = false := by rfl) : ED X ρ (.Call (.Name x p) (e :: es) [] pos) ρ1 d := by
  obtain ⟨r, h1, h2⟩ := hc.ex
  exact e_cb (pe_callTy h1 hg hm hv ha hn hdb he hpl) h2
theorem e_bf {id : String} (hc : CallD X (.builtin id) ds d) (hg : Gl X x) (hm : X.mg x = some (.builtin id)) (ha : AD X ρ (e :: es) ρ1 ds) (hdb : (x == ("__debug__" : Str)) = false := by decide)
    (he : starEach (e :: es) X.env = (false, eval e X.env) :: starEach es X.env := by rfl) (hpl : (backTo pos (starEach es X.env)).any (·.1) = false := by rfl) : ED X ρ (.Call (.Name x p) (e :: es) [] pos) ρ1 d := by
  obtain ⟨r, h1, h2⟩ := hc.ex
  exact e_cb (pe_callBfun h1 hg hm ha hdb he hpl) h2
theorem f_gcd : CallD X (.builtin "math.gcd") [.int i, .int j] (.int ((Nat.gcd i.natAbs j.natAbs : Nat) : Int)) := ⟨_, cr_gcd, fun F H vs Q s h k => by
  cases h with
  | cons h1 t =>
    cases h1
    cases t with
    | cons h2 t =>
      cases h2; cases t
      exact ⟨i, j, rfl, k _ F H (Grow.refl s) (.int _)⟩⟩
theorem f_abs : CallD X (.builtin "abs") [.int i] (.int (i.natAbs : Int)) := ⟨_, call_abs, fun F H vs Q s h k => by
  cases h with
  | cons h1 t =>
    cases h1; cases t
    have e : (if i < 0 then -i else i) = (i.natAbs : Int) := by split <;> omega
    refine ⟨i, rfl, ?_⟩
    rw [e]
    exact k _ F H (Grow.refl s) (.int _)⟩
theorem f_max (hc : X.calm = true) : CallD X (.builtin "max") [.int i, .int j] (.int (max i j)) := ⟨_, call_max2 hc, fun F H vs Q s h k => by
  cases h with
  | cons h1 t =>
    cases h1
    cases t with
    | cons h2 t =>
      cases h2; cases t
      have e : (if j > i then j else i) = max i j := by omega
      refine ⟨i, j, rfl, ?_⟩
      rw [e]
      exact k _ F H (Grow.refl s) (.int _)⟩
theorem f_min (hc : X.calm = true) : CallD X (.builtin "min") [.int i, .int j] (.int (min i j)) := ⟨_, call_min2 hc, fun F H vs Q s h k => by
  cases h with
  | cons h1 t =>
    cases h1
    cases t with
    | cons h2 t =>
      cases h2; cases t
      have e : (if j < i then j else i) = min i j := by omega
      refine ⟨i, j, rfl, ?_⟩
      rw [e]
      exact k _ F H (Grow.refl s) (.int _)⟩
theorem f_int : CallD X (.type "int") [.int i] (.int i) := ⟨_, call_int1, fun F H vs Q s h k => by
  cases h with
  | cons h1 t =>
    cases h1; cases t
    exact .inl ⟨i, rfl, k _ F H (Grow.refl s) (.int _)⟩⟩
theorem f_intB : CallD X (.type "int") [.bool u] (.int (if u then 1 else 0)) := ⟨_, call_int1, fun F H vs Q s h k => by
  cases h with
  | cons h1 t =>
    cases h1; cases t
    exact .inr ⟨u, rfl, k _ F H (Grow.refl s) (.int _)⟩⟩
theorem f_lenL : CallD X (.builtin "len") [.list ds] (.int ds.length) := ⟨_, call_len, fun F H vs Q s h k => by
  cases h with
  | cons h1 t =>
    cases h1 with
    | lst hs ha =>
      cases t
      exact ⟨_, ds.length, rfl, .inl ⟨_, .inl (.inl (s _ _ hs)), ha.length.symm⟩, k _ F H (Grow.refl s) (.int _)⟩⟩
theorem f_lenT : CallD X (.builtin "len") [.tuple ds] (.int ds.length) := ⟨_, call_len, fun F H vs Q s h k => by
  cases h with
  | cons h1 t =>
    cases h1 with
    | tup hs ha =>
      cases t
      exact ⟨_, ds.length, rfl, .inr ⟨_, sqT_same s hs, ha.length.symm⟩, k _ F H (Grow.refl s) (.int _)⟩⟩
theorem f_lenS {z : Str} (hz : z.length ≤ 1000000) : CallD X (.builtin "len") [.str z] (.int z.length) := ⟨_, call_len, fun F H vs Q s h k => by
  cases h with
  | cons h1 t =>
    cases h1; cases t
    exact ⟨_, z.length, rfl, ⟨Nat.le_trans hz (by decide), rfl⟩, k _ F H (Grow.refl s) (.int _)⟩⟩
theorem f_listL : CallD X (.type "list") [.list ds] (.list ds) := ⟨_, call_list_of, fun F H vs Q s h k => by
  cases h with
  | cons h1 t =>
    cases h1 with
    | lst hs ha =>
      cases t
      exact ⟨_, _, rfl, .inl (.inl (.inl (s _ _ hs))), fun p hp => k _ _ _ (Grow.laid s hp) (.lst upd_same (DqA.mono (same_upd (s.free hp)) _ ha))⟩⟩
theorem f_listT : CallD X (.type "list") [.tuple ds] (.list ds) := ⟨_, call_list_of, fun F H vs Q s h k => by
  cases h with
  | cons h1 t =>
    cases h1 with
    | tup hs ha =>
      cases t
      exact ⟨_, _, rfl, .inr (sqT_same s hs), fun p hp => k _ _ _ (Grow.laid s hp) (.lst upd_same (DqA.mono (same_upd (s.free hp)) _ ha))⟩⟩
theorem f_tupL : CallD X (.type "tuple") [.list ds] (.tuple ds) := ⟨_, call_tuple_of, fun F H vs Q s h k => by
  cases h with
  | cons h1 t =>
    cases h1 with
    | lst hs ha =>
      cases t
      exact ⟨_, _, rfl, .inl ⟨.inl (.inl (s _ _ hs)), fun p hp => k _ _ _ (Grow.laid s hp) (.tup (.inl (.inl upd_same)) (DqA.mono (same_upd (s.free hp)) _ ha))⟩⟩⟩
theorem f_tupT : CallD X (.type "tuple") [.tuple ds] (.tuple ds) := ⟨_, call_tuple_of, fun F H vs Q s h k => by
  cases h with
  | cons h1 t =>
    cases h1 with
    | tup hs ha =>
      cases t
      exact ⟨_, _, rfl, .inr ⟨sqT_same s hs, k _ _ _ (Grow.refl s) (.tup hs ha)⟩⟩⟩
theorem dqA_bools {K : PySem.W.Frag} {F : Hp} : ∀ {bs : List Bool} {vs : List V}, DqA K F vs (bs.map .bool) → vs = bs.map .bl
  | [], _, h => by cases h; rfl
  | b :: bs, _, h => by
    cases h with
    | cons h1 t =>
      cases h1
      rw [dqA_bools (bs := bs) t]
      rfl
theorem dqA_ints {K : PySem.W.Frag} {F : Hp} : ∀ {bs : List Int} {vs : List V}, DqA K F vs (bs.map .int) → vs = bs.map .int
  | [], _, h => by cases h; rfl
  | b :: bs, _, h => by
    cases h with
    | cons h1 t =>
      cases h1
      rw [dqA_ints (bs := bs) t]
      rfl
theorem f_all {bs : List Bool} (hc : X.calm = true) (hd : ds = bs.map .bool) : CallD X (.builtin "all") [.list ds] (.bool (bs.all id)) := ⟨_, cr_all hc, fun F H vs Q s h k => by
  subst hd
  cases h with
  | cons h1 t =>
    cases h1 with
    | lst hs ha =>
      cases t
      rw [dqA_bools ha] at hs
      exact ⟨_, bs, rfl, .inl (.inl (s _ _ hs)), k _ F H (Grow.refl s) (.bl _)⟩⟩
theorem f_any {bs : List Bool} (hc : X.calm = true) (hd : ds = bs.map .bool) : CallD X (.builtin "any") [.list ds] (.bool (bs.any id)) := ⟨_, cr_any hc, fun F H vs Q s h k => by
  subst hd
  cases h with
  | cons h1 t =>
    cases h1 with
    | lst hs ha =>
      cases t
      rw [dqA_bools ha] at hs
      exact ⟨_, bs, rfl, .inl (.inl (s _ _ hs)), k _ F H (Grow.refl s) (.bl _)⟩⟩
theorem divp_small {i j : Int} (h : 0 < j) (hb : j.natAbs.log2 < 9000) : CDivP i j := by
  refine ⟨h, ?_⟩
  unfold Builtin.divisionGoesByPylong
  have hd : ¬ ((if j == 0 then 0 else j.natAbs.log2 / 30 + 1) > 300) := by
    split
    · omega
    · omega
  show (decide _ && decide _) = false
  rw [decide_eq_false hd]
  rfl
theorem f_divmod (h : 0 < j) (hb : j.natAbs.log2 < 9000) : CallD X (.builtin "divmod") [.int i, .int j] (.tuple [.int (i / j), .int (i % j)]) := ⟨_, call_divmodW, fun F H vs Q s hh k => by
  cases hh with
  | cons h1 t =>
    cases h1
    cases t with
    | cons h2 t =>
      cases h2; cases t
      exact ⟨i, j, rfl, divp_small h hb, fun p hp => k _ _ _ (Grow.laid s hp) (.tup (.inl (.inl upd_same)) (.cons (.int _) (.cons (.int _) .nil)))⟩⟩
/-- repr of data -/
theorem cr_repr (hg : X.A.guards = some []) (hu : X.A.units + 64 < cLine) : CallR X (.builtin "repr") (fun vs H Q => ∃ a d, vs = [.ref a] ∧ Dq X.K H (.ref a) d ∧ d.showable = true ∧ d.hasDict = false ∧ d.depth ≤ 60 ∧ d.shown.length ≤ sizeLine ∧ Q (.str d.shown) H) := by
  intro pins s σ H vs us Q I r h
  obtain ⟨a, d, rfl, hd, h1, h2, h3, h4, q⟩ := h
  cases r with
  | cons r1 t =>
    cases t
    cases r1
    obtain ⟨as, rd⟩ := Dq.rd I d _ _ hd rfl
    refine repr_of_reads' rd h1 (PySem.PyData.noDict_hsm h2) hg (by omega) (fun _ _ e => e) (fun h' u tk hk => ?_) h4
    exact ⟨.str d.shown, H, I.kept hk, ⟨u, rfl⟩, q⟩
end
end Cl
namespace Cl
open PySem PySem.Spec PyProof.Rows L2
def CDivX (_ j : Int) : Prop := j ≠ 0 ∧ j.natAbs.log2 < 9000
section
variable {X : Cx} {ρ ρ1 ρ2 : Rho} {a b : Expr} {pos : Pos} {i j : Int}
theorem op_fdivX : OpR X (binaryOp .FloorDiv) (rI CDivX fun i j => .int (i.fdiv j)) := opI fun i j _ _ _ _ _ hc q => floordiv_int hc.1 q (.inl (PyProof.noPylong_of_log2 hc.2))
theorem e_fdivX (hc : CDivX i j) (ha : ED X ρ a ρ1 (.int i)) (hb : ED X ρ1 b ρ2 (.int j)) : ED X ρ (.BinOp a .FloorDiv b pos) ρ2 (.int (i.fdiv j)) := e_ii op_fdivX (fun _ => .int _) hc ha hb
end
end Cl

set_option maxRecDepth 100000
namespace Cl
open PySem PySem.Spec PyProof.Rows L2
/-! ### defs whose callers are known not to stand within a repr (the hand layer's room does not tell it) -/
structure FnG (P : Program) (w : World) (K : PySem.W.Frag) (mg : Str → Option Value) (base : Heap) (CX : CXT) (k : Nat) (f : Addr) (fd : FuncData) (ps : List Str) (sp : Sp) : Prop where
  len : ∀ vs H Q E, sp vs H Q E → vs.length = ps.length
  run : ∀ (A : Around) (outer : List Env) (s : Shared) (H : Hp) (args : Args) (us : List Value) (vs : List V) (Q : VK) (E : XK), Room k A → A.guards = some [] → Env0 P w K mg base A outer s H →
    BindsTo s fd args (ps.zip us) → Vals vs us → sp vs H Q E → codeAny (model P w) A (.call (.ref f) args) (CR CX outer P w H s Q E) s
section
variable {P : Program} {w : World} {K : PySem.W.Frag} {mg : Str → Option Value} {base : Heap} {CX : CXT} {j k : Nat} {f : Addr} {fd : FuncData} {ps N : List Str} {sp : Sp} {x qual : Str} {st : Stmt}
theorem FnG.mono (G : FnG P w K mg base CX j f fd ps sp) (h : j ≤ k) : FnG P w K mg base CX k f fd ps sp :=
  ⟨G.len, fun A o s H ar us vs Q E room => G.run A o s H ar us vs Q E (room.mono h)⟩
theorem guards_deeper {A : Around} {env : Env} (h : A.guards = some []) : (A.deeper env).guards = some [] := h
theorem fn_body (F : Fun K x qual st f fd) (Sc : FnScope N ps (defScope st)) (len : ∀ vs H Q E, sp vs H Q E → vs.length = ps.length)
    (body : ∀ (cdv : Value) (A : Around) (outer : List Env) (s : Shared) (H : Hp) (vs : List V) (Q : VK) (E : XK), Room k (A.deeper (envOfC qual (defScope st) s.heap.objs.size f cdv)) → A.guards = some [] → sp vs H Q E →
      ∃ t, PSs (cxOf CX P w K mg base N qual (defScope st) f cdv A outer s H E) (defBody st) t ∧ t { nx := fun _ H' => Q .non H', rt := Q } (start N vs) H) : FnG P w K mg base CX (k + 1) f fd ps sp := by
  obtain ⟨_, _, _, _, _, _, cdv, _, _, rfl, lk, hcode⟩ := F.ex
  constructor
  · exact len
  intro A outer s H args us vs Q E room grd env0 bnd rel pr
  have nl := len _ _ _ _ pr
  have kin : K.In s.heap := env0.mod.kin.keeps fun b o e => (env0.bs b o e).1
  have nlim : s.heap.NoLimit := env0.mod.nolimit.keeps fun b o e => (env0.bs b o e).1
  have kinds : ∀ y ∈ ps.zip us, (defScope st).names.lookup y.1 = some .local ∨ ((defScope st).names.lookup y.1 = some .cell ∧ ((cellsFrom (s.heap.objs.size + 1) (defScope st).names []).lookup y.1).isSome = true) := by
    intro y hy
    have par := Sc.par y.1 (List.of_mem_zip hy).1
    rcases par with p1 | p2
    · exact Or.inl p1
    · exact Or.inr ⟨p2, PySem.W.cellsFrom_some _ _ _ (Or.inl p2)⟩
  apply codeAny_call_function room.depth (kin _ _ lk) rfl Sc.co Sc.gen rfl (PySem.W.codeRec_of kin hcode)
  apply bnd
  apply wpAny_newFunctionEnv_cells Sc.kind kinds
  intro env henv s1 hin
  subst henv
  refine ⟨nlim.keeps hin.toInCall.keep, ?_⟩
  apply codeAny_func
  obtain ⟨t, ht, hq⟩ := body cdv A outer s H vs Q E (room.deeper _) grd pr
  have start0 : Inv (cxOf CX P w K mg base N qual (defScope st) f cdv A outer s H E) [] (start N vs) H s1 := inv_start Sc room.hd env0 nl rel hin
  have fin : ∀ {σ' : L2.St} {H' : Hp} {s' : Shared} {v : V} {u : Value}, Inv (cxOf CX P w K mg base N qual (defScope st) f cdv A outer s H E) [] σ' H' s' → RelV v u → Q v H' → CE outer P w H s Q u s' := by
    intro σ' H' s' v u J rv q
    exact ⟨v, H', J.os, J.bare, J.base, J.hok, rv, q⟩
  refine wpAny_mono (ht.run [] s1 (start N vs) H _ start0 hq) ?_ ?_
  · intro fl s' hs
    cases fl with
    | ret u =>
      obtain ⟨v, _, H', J, rv, q⟩ := hs
      exact fin J rv q
    | next =>
      obtain ⟨_, H', J, q⟩ := hs
      exact fin (v := .non) (u := Value.none) J rfl q
    | brk => exact hs.elim fun _ z => z.elim fun _ y => y.2.elim
    | cont => exact hs.elim fun _ z => z.elim fun _ y => y.2.elim
  · intro e s' hs
    exact hs
end

/-! ### calls -/
section
variable {X : Cx} {CX : CXT} {k : Nat} {f : Addr} {fd : FuncData} {ps ks : List Str} {sp : Sp} {dvs : List V} {dfl : List Value} {E : XK} {x : Str} {p pos : Pos} {e : Expr} {es : List Expr} {ta t tk : TA} {kws : List Keyword}
variable {g : List Value → List Value → List Value} {gV : List V → List V → List V}
theorem CR.end_ {pins : List (Addr × Obj)} {σ : L2.St} {H : Hp} {s s' : Shared} {Q : VK} {r : Result} (I : Inv X pins σ H s) (px : Passes CX X E) (h : CR CX X.stack X.prog X.w H s Q E r s') :
    (match r with | .ok (.ret u) => EP X pins σ Q u s' | .ok _ => False | .error e => X.xe e s') := by
  cases r with
  | error e => exact px pins σ H s e s' I h
  | ok fl =>
    cases fl with
    | ret u => exact I.after h
    | next => exact h
    | brk => exact h
    | cont => exact h
theorem run_g {pins : List (Addr × Obj)} {σ : L2.St} {H : Hp} {s : Shared} {Q : VK} {us ws : List Value} {vs : List V} (G : FnG X.prog X.w X.K X.mg X.base CX k f fd ps sp) (room : Room k X.A) (grd : X.A.guards = some []) (bn : BindsTo s fd ⟨us, ks.zip ws⟩ (ps.zip us'))
    (px : Passes CX X E) (I : Inv X pins σ H s) (r : Vals vs us') (h : sp vs H Q E) : wpAny (model X.prog X.w) X.A (call (.ref f) us (ks.zip ws)) (EP X pins σ Q) X.xe s := by
  have c := G.run X.A X.stack s H ⟨us, ks.zip ws⟩ us' vs Q E room grd I.env0 bn r h
  apply wpAny_call
  apply codeAny_mono c
  intro r s' hq
  have q := CR.end_ I px hq
  cases r with
  | error e => exact q
  | ok fl =>
    cases fl with
    | ret u => exact q
    | next => exact q.elim
    | brk => exact q.elim
    | cont => exact q.elim
theorem g_call (G : FnG X.prog X.w X.K X.mg X.base CX k f fd ps sp) (room : Room k X.A) (grd : X.A.guards = some []) (gl : Gl X x) (hm : X.mg x = some (.ref f)) (kp : PySem.W.keepIn X.K (.ref f) = true) (bn : Binds X.K fd ps dfl) (hd : Vals dvs dfl) (px : Passes CX X E)
    (ha : PA X (e :: es) t) (hdb : (x == ("__debug__" : Str)) = false := by decide) (he : starEach (e :: es) X.env = (false, eval e X.env) :: starEach es X.env := by rfl) (hpl : (backTo pos (starEach es X.env)).any (·.1) = false := by rfl) :
    PE X (.Call (.Name x p) (e :: es) [] pos) (tCall sp dvs E t) := by
  constructor
  intro pins s σ H Q I h
  apply wpAny_Call_Name_kw
  apply ld_glob I gl hm _ hdb
  refine PySem.W.callWith_K (h₀ := X.base) I.ok.mod.kin kp (thn (ha.run pos pins s σ H _ I h) ?_) he hpl
  rintro us s1 ⟨vs, H1, I1, r, q⟩
  have r2 : Vals (vs ++ dvs) (us ++ dfl) := r.append hd
  exact ⟨I1.kIn, run_g (ks := []) (ws := []) G room grd (bn s1 us I1.kIn (by rw [← r2.length]; exact G.len _ _ _ _ q)) px I1 r2 q⟩
theorem g_call0 (G : FnG X.prog X.w X.K X.mg X.base CX k f fd ps sp) (room : Room k X.A) (grd : X.A.guards = some []) (gl : Gl X x) (hm : X.mg x = some (.ref f)) (kp : PySem.W.keepIn X.K (.ref f) = true) (bn : Binds X.K fd ps dfl) (hd : Vals dvs dfl) (px : Passes CX X E)
    (hdb : (x == ("__debug__" : Str)) = false := by decide) : PE X (.Call (.Name x p) [] [] pos) (tCall sp dvs E tNil) := by
  constructor
  intro pins s σ H Q I h
  apply wpAny_Call_Name_kw
  apply ld_glob I gl hm _ hdb
  have r2 : Vals ([] ++ dvs) ([] ++ dfl) := hd
  exact PySem.W.callWith_K0 I.kIn kp (run_g (ks := []) (ws := []) G room grd (bn s [] I.kIn (by rw [← r2.length]; exact G.len _ _ _ _ h)) px I r2 h)
theorem g_callK (G : FnG X.prog X.w X.K X.mg X.base CX k f fd ps sp) (room : Room k X.A) (grd : X.A.guards = some []) (gl : Gl X x) (hm : X.mg x = some (.ref f)) (kp : PySem.W.keepIn X.K (.ref f) = true) (kb : KBinds X.K fd ps ks g gV) (px : Passes CX X E)
    (ha : PA X (e :: es) t) (hkw : PK X kws tk) (hall : (backToKw pos (keywordEach kws X.env)).all (·.1.isSome) = true := by rfl) (hks : (backToKw pos (keywordEach kws X.env)).filterMap (·.1) = ks := by rfl)
    (hdb : (x == ("__debug__" : Str)) = false := by decide) (he : starEach (e :: es) X.env = (false, eval e X.env) :: starEach es X.env := by rfl)
    (hpl : ((backTo pos (starEach (e :: es) X.env)).any (·.1) || (backToKw pos (keywordEach kws X.env)).any (·.1.isNone)) = false := by rfl) :
    PE X (.Call (.Name x p) (e :: es) kws pos) (tCallK sp gV E t tk) := by
  constructor
  intro pins s σ H Q I h
  apply wpAny_Call_Name_kw
  apply ld_glob I gl hm _ hdb
  refine PySem.W.callWith_KW (h₀ := X.base) I.ok.mod.kin kp hall (thn (ha.run pos pins s σ H _ I h) ?_) hpl he
  rintro us s1 ⟨vs, H1, I1, r, q⟩
  refine thn (hkw.run pos pins s1 σ H1 _ I1 q) ?_
  rintro ws s2 ⟨zs, H2, I2, rz, q2⟩
  rw [hks]
  have r2 := kb.rel r rz
  exact ⟨I2.kIn, run_g G room grd (kb.to s2 us ws I2.kIn (by rw [← r2.length]; exact G.len _ _ _ _ q2)) px I2 r2 q2⟩
end
end Cl

set_option maxRecDepth 100000
namespace Cl
open PySem PySem.Spec PyProof.Rows L2
/-! ### what a def promises of cells -/
abbrev Spec := List Cell → Cell → List Cell → Prop
def spOf (K : PySem.W.Frag) (S : Spec) : Sp := fun vs H Q _ => ∃ cs r cs', S cs r cs' ∧ ∃ F, Sat K F (cs.map some) (vs.map some) H ∧
  ∀ v F' H', Step K (cs.map some) (vs.map some) F H (cs'.map some) (vs.map some) F' H' → (∀ q, Own (cs'.map some) (vs.map some) q → Own (cs.map some) (vs.map some) q) → Val K F' H' (fun p => H p = none) v r → Q v H'
theorem nilArgs (sp : Sp) (vs : List V) (H : Hp) (Q : VK) (E : XK) (h : sp vs H Q E) : sp (vs ++ []) H Q E := by
  rw [List.append_nil]
  exact h
/-- data in, data out -/
def pureS (R : List PyData → PyData → Prop) : Spec := fun cs r cs' => ∃ ds d, R ds d ∧ cs = ds.map .dat ∧ r = .dat d ∧ cs' = cs
/-- data in, a new list out -/
def newS (R : List PyData → List PyData → Prop) : Spec := fun cs r cs' => ∃ ds l, R ds l ∧ cs = ds.map .dat ∧ r = .own (.lst l) ∧ cs' = cs
/-- a list lent in the first place, which is changed -/
def potS (R : List PyData → List PyData → List PyData → PyData → Prop) : Spec := fun cs r cs' => ∃ p m ds m' d, R m ds m' d ∧ cs = .bor p (.lst m) :: ds.map .dat ∧ r = .dat d ∧ cs' = .bor p (.lst m') :: ds.map .dat
/-- the script in the first place -/
def scrS (R : List Int → List PyData → Cell → Prop) : Spec := fun cs r cs' => ∃ ns ds, R ns ds r ∧ cs = .scr ns :: ds.map .dat ∧ cs' = cs
section
variable {K : PySem.W.Frag} {F F' H H' : Hp} {ρ ρ' : Rho} {σ σ' : L2.St} {ds : List PyData} {vs : List V}
theorem DqA.slots (h : DqA K F vs ds) {i : Nat} {c : Option Cell} {x : Option V} (e1 : ((ds.map Cell.dat).map some)[i]? = some c) (e2 : (vs.map some)[i]? = some x) : SlotOk K F H c x := by
  rw [List.map_map, List.getElem?_map] at e1
  rw [List.getElem?_map] at e2
  cases q : ds[i]? with
  | none => rw [q] at e1; cases e1
  | some d =>
    rw [q] at e1
    cases e1
    obtain ⟨v, h1, h2⟩ := h.get' q
    rw [h1] at e2
    cases e2
    exact ⟨v, rfl, h2⟩
theorem noHeld {i : Nat} {q : Addr} : ¬ Held ((ds.map Cell.dat).map some) σ i q := by
  rintro ⟨c, m, e1, e2, _⟩
  rw [List.map_map, List.getElem?_map] at e1
  cases z : ds[i]? with
  | none => rw [z] at e1; cases e1
  | some d =>
    rw [z] at e1
    cases e1
    cases e2
theorem sat_dats (h : DqA K F vs ds) (s : Same F H) : Sat K F ((ds.map Cell.dat).map some) (vs.map some) H :=
  ⟨by rw [List.length_map, List.length_map, List.length_map]; exact h.length, s, fun _ _ _ e1 e2 => h.slots e1 e2, fun _ _ _ h _ => (noHeld h).elim⟩
theorem Step.ofDats {F0 H0 : Hp} {ρ0 : Rho} {σ0 : L2.St} (S : Sat K F0 ρ0 σ0 H0) (st : Step K ((ds.map Cell.dat).map some) (vs.map some) F0 H0 ρ' σ' F' H') : Grow F0 H0 F' H' :=
  ⟨st.fr, fun q h1 h2 => st.new q h1 h2 fun ⟨_, z⟩ => noHeld z, fun q o h => st.keep q o h fun ⟨_, z⟩ => noHeld z, st.sat.sub⟩
end
section
variable {X : Cx} {k : Nat} {f : Addr} {fd : FuncData} {ps ks : List Str} {ρ ρ1 ρ2 : Rho} {x y : Str} {p pos px : Pos} {e : Expr} {es : List Expr} {kws : List Keyword} {ds : List PyData} {d : PyData} {l : List PyData}
/-- f(e, ..): data -/
theorem e_call {R : List PyData → PyData → Prop} (G : FnG X.prog X.w X.K X.mg X.base CX0 k f fd ps (spOf X.K (pureS R))) (room : Room k X.A) (grd : X.A.guards = some []) (gl : Gl X x) (hm : X.mg x = some (.ref f)) (kp : PySem.W.keepIn X.K (.ref f) = true)
    (bn : Binds X.K fd ps []) (ha : AD X ρ (e :: es) ρ1 ds) (hR : R ds d) (hdb : (x == ("__debug__" : Str)) = false := by decide) (he : starEach (e :: es) X.env = (false, eval e X.env) :: starEach es X.env := by rfl)
    (hpl : (backTo pos (starEach es X.env)).any (·.1) = false := by rfl) : ED X ρ (.Call (.Name x p) (e :: es) [] pos) ρ1 d :=
  (g_call G room grd gl hm kp bn .nil pass0 ha hdb he hpl).weak fun σ H Q ⟨F, S, kk⟩ => ⟨F, S, fun vs F1 H1 s1 o1 v1 => by
    refine nilArgs (spOf X.K _) vs H1 Q _ ?_
    refine ⟨_, _, _, ⟨ds, d, hR, rfl, rfl, rfl⟩, F1, sat_dats v1 s1.sat.sub, fun v F2 H2 st _ hv => ?_⟩
    exact kk v F2 H2 (s1.trans ((Step.ofDats s1.sat st).step s1.sat)) o1 hv⟩
theorem o_call {R : List PyData → List PyData → Prop} (G : FnG X.prog X.w X.K X.mg X.base CX0 k f fd ps (spOf X.K (newS R))) (room : Room k X.A) (grd : X.A.guards = some []) (gl : Gl X x) (hm : X.mg x = some (.ref f)) (kp : PySem.W.keepIn X.K (.ref f) = true)
    (bn : Binds X.K fd ps []) (ha : AD X ρ (e :: es) ρ1 ds) (hR : R ds l) (hdb : (x == ("__debug__" : Str)) = false := by decide) (he : starEach (e :: es) X.env = (false, eval e X.env) :: starEach es X.env := by rfl)
    (hpl : (backTo pos (starEach es X.env)).any (·.1) = false := by rfl) : EO X ρ (.Call (.Name x p) (e :: es) [] pos) ρ1 l :=
  (g_call G room grd gl hm kp bn .nil pass0 ha hdb he hpl).weak fun σ H Q ⟨F, S, kk⟩ => ⟨F, S, fun vs F1 H1 s1 o1 v1 => by
    refine nilArgs (spOf X.K _) vs H1 Q _ ?_
    refine ⟨_, _, _, ⟨ds, l, hR, rfl, rfl, rfl⟩, F1, sat_dats v1 s1.sat.sub, fun v F2 H2 st _ hv => ?_⟩
    have s2 := s1.trans ((Step.ofDats s1.sat st).step s1.sat)
    obtain ⟨q, o, e1, e2, e3, e4, e5⟩ := hv
    exact kk v F2 H2 s2 o1 ⟨q, o, e1, ⟨.inl (s1.fresh e2).1, fun z => (s1.sat.ownF z).2 e2⟩, e3, e4, e5⟩⟩
/-- keywords -/
abbrev KD (X : Cx) (ρ : Rho) (kws : List Keyword) (ρ' : Rho) (ds : List PyData) : Prop := PK X kws (tDA X.K ρ ρ' ds)
theorem _root_.L2.PK.weak {t t' : TA} (h : PK X kws t) (k : ∀ σ H Q, t' σ H Q → t σ H Q) : PK X kws t' := ⟨fun pos pins s σ H Q I q => h.run pos pins s σ H Q I (k σ H Q q)⟩
theorem k_nil : KD X ρ [] ρ [] := pk_nil.weak fun σ H Q ⟨F, S, k⟩ => k [] F H (Step.refl S) own_id .nil
theorem k_cons {nm : Option Str} {kpos : Pos} (h : ED X ρ e ρ1 d) (t : KD X ρ1 kws ρ2 ds) : KD X ρ (⟨nm, e, kpos⟩ :: kws) ρ2 (d :: ds) :=
  (pk_cons h t).weak fun σ H Q ⟨F, S, k⟩ => ⟨F, S, fun x F1 H1 s1 o1 v1 => ⟨F1, s1.sat, fun vs F2 H2 s2 o2 v2 => k _ F2 H2 (s1.trans s2) (fun q h => o1 q (o2 q h)) (.cons (Dq.mono s2.fr _ v1) v2)⟩⟩
variable {g : List Value → List Value → List Value} {gV : List V → List V → List V}
theorem g_callK0 {sp : Sp} {E : XK} {tk : TA} {CX : CXT} (G : FnG X.prog X.w X.K X.mg X.base CX k f fd ps sp) (room : Room k X.A) (grd : X.A.guards = some []) (gl : Gl X x) (hm : X.mg x = some (.ref f)) (kp : PySem.W.keepIn X.K (.ref f) = true) (kb : KBinds X.K fd ps ks g gV) (px : Passes CX X E)
    (hkw : PK X kws tk) (hall : (backToKw pos (keywordEach kws X.env)).all (·.1.isSome) = true := by rfl) (hks : (backToKw pos (keywordEach kws X.env)).filterMap (·.1) = ks := by rfl)
    (hdb : (x == ("__debug__" : Str)) = false := by decide)
    (hpl : ((backTo pos (starEach [] X.env)).any (·.1) || (backToKw pos (keywordEach kws X.env)).any (·.1.isNone)) = false := by rfl) :
    PE X (.Call (.Name x p) [] kws pos) (tCallK sp gV E tNil tk) := by
  constructor
  intro pins s σ H Q I h
  apply wpAny_Call_Name_kw
  apply ld_glob I gl hm _ hdb
  refine PySem.W.callWith_KW0 (h₀ := X.base) I.ok.mod.kin kp hall ?_ hpl
  refine thn (hkw.run pos pins s σ H _ I h) ?_
  rintro ws s2 ⟨zs, H2, I2, rz, q2⟩
  rw [hks]
  have r2 := kb.rel (.nil : Vals [] []) rz
  exact ⟨I2.kIn, run_g G room grd (kb.to s2 [] ws I2.kIn (by rw [← r2.length]; exact G.len _ _ _ _ q2)) px I2 r2 q2⟩
/-- an arrangement of the arguments by a list of places -/
def perm {α : Type} (ix : List Nat) (us ws : List α) : List α := ix.filterMap fun i => (us ++ ws)[i]?
theorem perm_rel {ix : List Nat} {vs zs : List V} {us ws : List Value} (a : Vals vs us) (b : Vals zs ws) : Vals (perm ix vs zs) (perm ix us ws) := by
  have h := a.append b
  unfold perm
  induction ix with
  | nil => exact .nil
  | cons i r ih =>
    rw [List.filterMap_cons, List.filterMap_cons]
    cases q : (vs ++ zs)[i]? with
    | none =>
      rw [h.none_of q]
      exact ih
    | some v =>
      obtain ⟨u, h1, h2⟩ := h.get q
      rw [h1]
      exact .cons h2 ih
theorem perm_dqA {K : PySem.W.Frag} {F : Hp} {ix : List Nat} {vs zs : List V} {us ws : List PyData} (a : DqA K F vs us) (b : DqA K F zs ws) : DqA K F (perm ix vs zs) (perm ix us ws) := by
  have h := a.append b
  unfold perm
  induction ix with
  | nil => exact .nil
  | cons i r ih =>
    rw [List.filterMap_cons, List.filterMap_cons]
    cases q : (us ++ ws)[i]? with
    | none =>
      have : (vs ++ zs)[i]? = none := by
        rw [List.getElem?_eq_none_iff] at q ⊢
        rw [h.length]
        exact q
      rw [this]
      exact ih
    | some v =>
      obtain ⟨u, h1, h2⟩ := h.get' q
      rw [h1]
      exact .cons h2 ih
/-- no places, so many keywords -/
def permK {α : Type} (ix : List Nat) (m : Nat) (us ws : List α) : List α := if us.length = 0 ∧ ws.length = m then perm ix us ws else []
theorem permK_rel {ix : List Nat} {m : Nat} {vs zs : List V} {us ws : List Value} (a : Vals vs us) (b : Vals zs ws) : Vals (permK ix m vs zs) (permK ix m us ws) := by
  unfold permK
  rw [a.length, b.length]
  split
  · exact perm_rel a b
  · exact .nil
theorem permK_dqA {K : PySem.W.Frag} {F : Hp} {ix : List Nat} {m : Nat} {vs zs : List V} {us ws : List PyData} (a : DqA K F vs us) (b : DqA K F zs ws) : DqA K F (permK ix m vs zs) (permK ix m us ws) := by
  unfold permK
  rw [a.length, b.length]
  split
  · exact perm_dqA a b
  · exact .nil
theorem permK_len {α : Type} {ix : List Nat} {m k : Nat} {us ws : List α} (h : (permK ix m us ws).length = k) (hk : 0 < k) : us = [] ∧ ws.length = m := by
  unfold permK at h
  split at h
  · rename_i q
    exact ⟨List.eq_nil_of_length_eq_zero q.1, q.2⟩
  · have : (0 : Nat) = k := h
    omega
theorem kbinds_of {K : PySem.W.Frag} {fd : FuncData} {ps ks : List Str} {ix : List Nat} {m : Nat} (hp : 0 < ps.length) (h : ∀ ws : List Value, ws.length = m → bindArgs fd ⟨[], ks.zip ws⟩ = pure (ps.zip (permK ix m [] ws))) : KBinds K fd ps ks (permK ix m) (permK ix m) :=
  ⟨fun s us ws _ hl => by
    obtain ⟨h1, h2⟩ := permK_len hl hp
    subst h1
    exact .of_eq (h ws h2), fun a b => permK_rel a b⟩
theorem e_callK0 {ix : List Nat} {m : Nat} {R : List PyData → PyData → Prop} {ds' : List PyData} (G : FnG X.prog X.w X.K X.mg X.base CX0 k f fd ps (spOf X.K (pureS R))) (room : Room k X.A) (grd : X.A.guards = some []) (gl : Gl X x) (hm : X.mg x = some (.ref f)) (kp : PySem.W.keepIn X.K (.ref f) = true)
    (kb : KBinds X.K fd ps ks (permK ix m) (permK ix m)) (hkw : KD X ρ kws ρ1 ds) (hp : permK ix m [] ds = ds') (hR : R ds' d) (hall : (backToKw pos (keywordEach kws X.env)).all (·.1.isSome) = true := by rfl) (hks : (backToKw pos (keywordEach kws X.env)).filterMap (·.1) = ks := by rfl)
    (hdb : (x == ("__debug__" : Str)) = false := by decide)
    (hpl : ((backTo pos (starEach [] X.env)).any (·.1) || (backToKw pos (keywordEach kws X.env)).any (·.1.isNone)) = false := by rfl) : ED X ρ (.Call (.Name x p) [] kws pos) ρ1 d := by
  subst hp
  exact (g_callK0 G room grd gl hm kp kb pass0 hkw hall hks hdb hpl).weak fun σ H Q ⟨F, S, kk⟩ => ⟨F, S, fun vs F1 H1 s1 o1 v1 => by
    refine ⟨_, _, _, ⟨_, d, hR, rfl, rfl, rfl⟩, F1, sat_dats (permK_dqA .nil v1) s1.sat.sub, fun v F2 H2 st _ hv => ?_⟩
    exact kk v F2 H2 (s1.trans ((Step.ofDats s1.sat st).step s1.sat)) o1 hv⟩
theorem o_callK0 {ix : List Nat} {m : Nat} {R : List PyData → List PyData → Prop} {ds' : List PyData} (G : FnG X.prog X.w X.K X.mg X.base CX0 k f fd ps (spOf X.K (newS R))) (room : Room k X.A) (grd : X.A.guards = some []) (gl : Gl X x) (hm : X.mg x = some (.ref f)) (kp : PySem.W.keepIn X.K (.ref f) = true)
    (kb : KBinds X.K fd ps ks (permK ix m) (permK ix m)) (hkw : KD X ρ kws ρ1 ds) (hp : permK ix m [] ds = ds') (hR : R ds' l) (hall : (backToKw pos (keywordEach kws X.env)).all (·.1.isSome) = true := by rfl) (hks : (backToKw pos (keywordEach kws X.env)).filterMap (·.1) = ks := by rfl)
    (hdb : (x == ("__debug__" : Str)) = false := by decide)
    (hpl : ((backTo pos (starEach [] X.env)).any (·.1) || (backToKw pos (keywordEach kws X.env)).any (·.1.isNone)) = false := by rfl) : EO X ρ (.Call (.Name x p) [] kws pos) ρ1 l := by
  subst hp
  exact (g_callK0 G room grd gl hm kp kb pass0 hkw hall hks hdb hpl).weak fun σ H Q ⟨F, S, kk⟩ => ⟨F, S, fun vs F1 H1 s1 o1 v1 => by
    refine ⟨_, _, _, ⟨_, l, hR, rfl, rfl, rfl⟩, F1, sat_dats (permK_dqA .nil v1) s1.sat.sub, fun v F2 H2 st _ hv => ?_⟩
    have s2 := s1.trans ((Step.ofDats s1.sat st).step s1.sat)
    obtain ⟨q, o, e1, e2, e3, e4, e5⟩ := hv
    exact kk v F2 H2 s2 o1 ⟨q, o, e1, ⟨.inl (s1.fresh e2).1, fun z => (s1.sat.ownF z).2 e2⟩, e3, e4, e5⟩⟩
end

/-! ### a thing lent -/
section
variable {K : PySem.W.Frag} {F F' H H' : Hp} {ρ ρ' : Rho} {σ σ' : L2.St} {ds : List PyData} {vs : List V} {q : Addr} {m m' : Mu} {n : Nat} {c : Cell}
theorem own_bor (h : Own ((Cell.bor q m :: ds.map Cell.dat).map some) ((V.ref q :: vs).map some) p) : p = q := by
  obtain ⟨i, c, m1, e1, e2, e3⟩ := h
  cases i with
  | zero =>
    have : some (some (V.ref q)) = some (some (V.ref p)) := e3
    cases this
    rfl
  | succ i => exact (noHeld (ds := ds) (σ := vs.map some) (i := i) (q := p) ⟨c, m1, by simpa using e1, e2, by simpa using e3⟩).elim
theorem bor_own : Own ((Cell.bor q m :: ds.map Cell.dat).map some) ((V.ref q :: vs).map some) q := ⟨0, _, m, rfl, rfl, rfl⟩
theorem sat_bor (h : DqA K F vs ds) (s : Same F H) (h1 : F q = none) {o : HO} (h2 : H q = some o) (h3 : MuOk K F m o) : Sat K F ((Cell.bor q m :: ds.map Cell.dat).map some) ((V.ref q :: vs).map some) H := by
  refine ⟨?_, s, fun i c x e1 e2 => ?_, fun i j r a b => ?_⟩
  · simp only [List.map_cons, List.length_cons, List.length_map]
    rw [h.length]
  · cases i with
    | zero =>
      cases e1
      cases e2
      exact ⟨o, rfl, h1, h2, h3⟩
    | succ i => exact h.slots (i := i) (by simpa using e1) (by simpa using e2)
  · have z : ∀ i, Held ((Cell.bor q m :: ds.map Cell.dat).map some) ((V.ref q :: vs).map some) i r → i = 0 := fun i a => by
      cases i with
      | zero => rfl
      | succ i =>
        obtain ⟨c, m1, e1, e2, e3⟩ := a
        exact (noHeld (ds := ds) (σ := vs.map some) (i := i) (q := r) ⟨c, m1, by simpa using e1, e2, by simpa using e3⟩).elim
    rw [z i a, z j b]
theorem mu_put (h : c.mu = some m) : (c.put m').mu = some m' := by
  cases c with
  | dat d => cases h
  | own _ => rfl
  | bor _ _ => rfl
  | scr _ => cases h
/-- the slot n holds another thing at the same place -/
theorem held_put (h : ρ[n]? = some (some c)) (hm : c.mu = some m) {i : Nat} {r : Addr} : Held (ρ.set n (some (c.put m'))) σ i r ↔ Held ρ σ i r := by
  constructor
  · rintro ⟨c1, m1, e1, e2, e3⟩
    by_cases e : n = i
    · subst e
      exact ⟨c, m, h, hm, e3⟩
    · rw [List.getElem?_set_ne e] at e1
      exact ⟨c1, m1, e1, e2, e3⟩
  · rintro ⟨c1, m1, e1, e2, e3⟩
    by_cases e : n = i
    · subst e
      exact ⟨c.put m', m', by rw [List.getElem?_set_self (List.getElem?_eq_some_iff.mp h).1], mu_put hm, e3⟩
    · exact ⟨c1, m1, by rw [List.getElem?_set_ne e]; exact e1, e2, e3⟩
theorem own_put (h : ρ[n]? = some (some c)) (hm : c.mu = some m) {r : Addr} : Own (ρ.set n (some (c.put m'))) σ r ↔ Own ρ σ r :=
  ⟨fun ⟨i, z⟩ => ⟨i, (held_put h hm).mp z⟩, fun ⟨i, z⟩ => ⟨i, (held_put h hm).mpr z⟩⟩
/-- the thing of the slot n is changed, at q, and the frozen part and the heap grow -/
theorem Step.changed (S : Sat K F ρ σ H) (h : ρ[n]? = some (some c)) (hm : c.mu = some m) (hq : σ[n]? = some (some (.ref q))) (fr : Same F F') (new : ∀ r, F r = none → H r ≠ none → r ≠ q → F' r = none) (keep : ∀ r o, H r = some o → r ≠ q → H' r = some o)
    (sub : Same F' H') {o' : HO} (h1 : F' q = none) (h2 : H' q = some o') (h3 : MuOk K F' m' o') : Step K ρ σ F H (ρ.set n (some (c.put m'))) σ F' H' := by
  have oq : Own ρ σ q := ⟨n, c, m, h, hm, hq⟩
  refine ⟨fr, fun r a b z => new r a b fun e => z (by rw [e]; exact oq), fun r o a z => keep r o a fun e => z (by rw [e]; exact oq), fun r a => ?_, ⟨by rw [List.length_set]; exact S.len, sub, fun i c1 x e1 e2 => ?_, fun i j r a b => S.inj i j r ((held_put h hm).mp a) ((held_put h hm).mp b)⟩, fun r z => .inl ((own_put h hm).mp z)⟩
  · by_cases e : r = q
    · rw [e, h2]
      simp
    · cases z : H r with
      | none => exact absurd z a
      | some o => rw [keep r o z e]; simp
  · by_cases e : n = i
    · subst e
      rw [List.getElem?_set_self (List.getElem?_eq_some_iff.mp h).1] at e1
      cases e1
      rw [hq] at e2
      cases e2
      have sl := S.slot n _ _ h hq
      cases c with
      | dat d => cases hm
      | scr ns => cases hm
      | own m1 => exact ⟨q, o', rfl, h1, h2, h3⟩
      | bor p1 m1 =>
        obtain ⟨_, e3, _⟩ := sl
        cases e3
        exact ⟨o', rfl, h1, h2, h3⟩
    · rw [List.getElem?_set_ne e] at e1
      have sl := S.slot i _ _ e1 e2
      cases c1 with
      | none => trivial
      | some c1 =>
        cases c1 with
        | dat d =>
          obtain ⟨v, q1, q2⟩ := sl
          exact ⟨v, q1, q2.mono fr⟩
        | scr ns =>
          obtain ⟨a, q1, q2⟩ := sl
          exact ⟨a, q1, fr.seq q2⟩
        | own m1 =>
          obtain ⟨r, u, q1, q2, q3, q4⟩ := sl
          have ne : r ≠ q := fun z => e (S.inj n i q ⟨c, m, h, hm, hq⟩ ⟨_, m1, e1, rfl, by rw [e2, q1, z]⟩)
          exact ⟨r, u, q1, new r q2 (by rw [q3]; simp) ne, keep r u q3 ne, q4.mono fr⟩
        | bor r m1 =>
          obtain ⟨u, q1, q2, q3, q4⟩ := sl
          have ne : r ≠ q := fun z => e (S.inj n i q ⟨c, m, h, hm, hq⟩ ⟨_, m1, e1, rfl, by rw [e2, q1, z]⟩)
          exact ⟨u, q1, new r q2 (by rw [q3]; simp) ne, keep r u q3 ne, q4.mono fr⟩
theorem Step.lent (S : Sat K F ρ σ H) (h : ρ[n]? = some (some c)) (hm : c.mu = some m) (hq : σ[n]? = some (some (.ref q)))
    (st : Step K ((Cell.bor q m :: ds.map Cell.dat).map some) ((V.ref q :: vs).map some) F H ((Cell.bor q m' :: ds.map Cell.dat).map some) ((V.ref q :: vs).map some) F' H') : Step K ρ σ F H (ρ.set n (some (c.put m'))) σ F' H' := by
  obtain ⟨o, e1, e2, e3, e4⟩ := st.sat.slot 0 _ _ rfl rfl
  exact Step.changed S h hm hq st.fr (fun r a b z => st.new r a b fun y => z (own_bor y)) (fun r o a z => st.keep r o a fun y => z (own_bor y)) st.sat.sub e2 e3 e4
end
section
variable {X : Cx} {k n : Nat} {f : Addr} {fd : FuncData} {ps ks : List Str} {ρ ρ1 ρ2 : Rho} {x y : Str} {p pos px : Pos} {e : Expr} {es : List Expr} {kws : List Keyword} {ds : List PyData} {d : PyData} {l m0 m m' : List PyData} {c c1 : Cell}
/-- f(x, e, ..), x a list that is lent -/
theorem e_callP (n : Nat) {R : List PyData → List PyData → List PyData → PyData → Prop} (G : FnG X.prog X.w X.K X.mg X.base CX0 k f fd ps (spOf X.K (potS R))) (room : Room k X.A) (grd : X.A.guards = some []) (gl : Gl X x) (hm : X.mg x = some (.ref f)) (kp : PySem.W.keepIn X.K (.ref f) = true)
    (bn : Binds X.K fd ps []) (h0 : ρ[n]? = some (some c)) (hc : c.mu = some (.lst m0)) (ha : AD X ρ es ρ1 ds) (h1 : ρ1[n]? = some (some c1)) (hc1 : c1.mu = some (.lst m)) (hR : R m ds m' d) (hN : X.N[n]? = some y) (hv : Vis X.env.scope y)
    (hd1 : (y == ("__debug__" : Str)) = false := by decide) (hcd : (y == ("__classdict__" : Str)) = false := by decide)
    (hdb : (x == ("__debug__" : Str)) = false := by decide) (he : starEach (.Name y px :: es) X.env = (false, eval (.Name y px) X.env) :: starEach es X.env := by rfl)
    (hpl : (backTo pos (starEach es X.env)).any (·.1) = false := by rfl) : ED X ρ (.Call (.Name x p) (.Name y px :: es) [] pos) (ρ1.set n (some (c1.put (.lst m')))) d :=
  (g_call G room grd gl hm kp bn .nil pass0 (pa_cons (pe_var hN hv hd1 hcd) ha he) hdb he hpl).weak fun σ H Q ⟨F, S, kk⟩ => by
    obtain ⟨q, o, e1, e2, e3, e4⟩ := S.held h0 hc
    refine ⟨_, e1, F, S, fun vs F1 H1 s1 o1 v1 => ?_⟩
    obtain ⟨q', o', f1, f2, f3, f4⟩ := s1.sat.held h1 hc1
    rw [e1] at f1
    cases f1
    refine nilArgs (spOf X.K _) (V.ref q :: vs) H1 Q _ ?_
    refine ⟨_, _, _, ⟨q, m, ds, m', d, hR, rfl, rfl, rfl⟩, F1, ?_, fun v F2 H2 st _ hv => ?_⟩
    · exact sat_bor v1 s1.sat.sub f2 f3 f4
    · exact kk v F2 H2 (s1.trans (Step.lent s1.sat h1 hc1 e1 st)) (fun r z => o1 r ((own_put h1 hc1).mp z)) hv
/-- f(x, e, ..), x the script -/
theorem c_callS (n : Nat) {R : List Int → List PyData → Cell → Prop} {ns : List Int} {r : Cell} (G : FnG X.prog X.w X.K X.mg X.base CX0 k f fd ps (spOf X.K (scrS R))) (room : Room k X.A) (grd : X.A.guards = some []) (gl : Gl X x) (hm : X.mg x = some (.ref f)) (kp : PySem.W.keepIn X.K (.ref f) = true)
    (bn : Binds X.K fd ps []) (h0 : ρ[n]? = some (some (.scr ns))) (ha : AD X ρ es ρ1 ds) (hR : R ns ds r) (hN : X.N[n]? = some y) (hv : Vis X.env.scope y)
    (hd1 : (y == ("__debug__" : Str)) = false := by decide) (hcd : (y == ("__classdict__" : Str)) = false := by decide)
    (hdb : (x == ("__debug__" : Str)) = false := by decide) (he : starEach (.Name y px :: es) X.env = (false, eval (.Name y px) X.env) :: starEach es X.env := by rfl)
    (hpl : (backTo pos (starEach es X.env)).any (·.1) = false := by rfl) : PE X (.Call (.Name x p) (.Name y px :: es) [] pos) (tD X.K ρ ρ1 r) :=
  (g_call G room grd gl hm kp bn .nil pass0 (pa_cons (pe_var hN hv hd1 hcd) ha he) hdb he hpl).weak fun σ H Q ⟨F, S, kk⟩ => by
    obtain ⟨q, e1, e2⟩ := S.scr h0
    refine ⟨_, e1, F, S, fun vs F1 H1 s1 o1 v1 => ?_⟩
    refine nilArgs (spOf X.K _) (V.ref q :: vs) H1 Q _ ?_
    have nh : ∀ i r, ¬ Held ((Cell.scr ns :: ds.map Cell.dat).map some) ((V.ref q :: vs).map some) i r := fun i r => by
      rintro ⟨c, m1, a1, a2, a3⟩
      cases i with
      | zero =>
        cases a1
        cases a2
      | succ i => exact noHeld (ds := ds) (σ := vs.map some) (i := i) (q := r) ⟨c, m1, by simpa using a1, a2, by simpa using a3⟩
    refine ⟨_, _, _, ⟨ns, ds, hR, rfl, rfl⟩, F1, ⟨?_, s1.sat.sub, fun i c x a1 a2 => ?_, fun i j r a _ => (nh i r a).elim⟩, fun v F2 H2 st _ hv => ?_⟩
    · simp only [List.map_cons, List.length_cons, List.length_map]
      rw [v1.length]
    · cases i with
      | zero =>
        cases a1
        cases a2
        exact ⟨q, rfl, s1.fr.seq e2⟩
      | succ i => exact v1.slots (i := i) (by simpa using a1) (by simpa using a2)
    · have g : Grow F1 H1 F2 H2 := ⟨st.fr, fun r a b => st.new r a b fun ⟨i, z⟩ => nh i r z, fun r o a => st.keep r o a fun ⟨i, z⟩ => nh i r z, st.sat.sub⟩
      refine kk v F2 H2 (s1.trans (g.step s1.sat)) o1 ?_
      cases r with
      | dat d => exact hv
      | own mm =>
        obtain ⟨r, o, b1, b2, b3, b4, b5⟩ := hv
        exact ⟨r, o, b1, ⟨.inl (s1.fresh b2).1, fun z => (s1.sat.ownF z).2 b2⟩, b3, b4, b5⟩
      | bor _ _ => exact hv
      | scr _ => exact hv
end
end Cl

set_option maxRecDepth 100000
namespace Cl
open PySem PySem.Spec PyProof.Rows L2
/-! ### statements -/
inductive Out where
  | nx (ρ : Rho)
  | rt (c : Cell) (bs : List (Addr × Mu))
  | bk (ρ : Rho)
  | ct (ρ : Rho)
def Goes (K : PySem.W.Frag) (o : Out) (D : Ends) (ρ : Rho) (σ : L2.St) (F H : Hp) : Prop :=
  match o with
  | .nx ρ' => ∀ σ' F' H', Step K ρ σ F H ρ' σ' F' H' → D.nx σ' H'
  | .rt c bs => ∀ v ρ' σ' F' H', Step K ρ σ F H ρ' σ' F' H' → (∀ q ∈ bs, ∃ j : Nat, ρ'[j]? = some (some (.bor q.1 q.2))) → Val K F' H' (fun p => (H p = none ∨ Own ρ σ p) ∧ ¬ Own ρ' σ' p) v c → D.rt v H'
  | .bk ρ' => ∀ σ' F' H', Step K ρ σ F H ρ' σ' F' H' → D.bk σ' H'
  | .ct ρ' => ∀ σ' F' H', Step K ρ σ F H ρ' σ' F' H' → D.ct σ' H'
theorem Val.imp {K : PySem.W.Frag} {F H : Hp} {N N' : Addr → Prop} {v : V} {c : Cell} (h : Val K F H N v c) (k : ∀ p, N p → N' p) : Val K F H N' v c := by
  cases c with
  | dat d => exact h
  | own m =>
    obtain ⟨p, o, h1, h2, h3⟩ := h
    exact ⟨p, o, h1, k p h2, h3⟩
  | bor _ _ => exact h
  | scr _ => exact h
/-- what was so far nobody's or mine -/
theorem Step.mine {K : PySem.W.Frag} {F F1 H H1 : Hp} {ρ ρ1 : Rho} {σ σ1 : L2.St} (a : Step K ρ σ F H ρ1 σ1 F1 H1) {p : Addr} (h : H1 p = none ∨ Own ρ1 σ1 p) : H p = none ∨ Own ρ σ p := by
  rcases h with h | h
  · exact .inl (a.fresh h).1
  · rcases a.own p h with h | h
    · exact .inr h
    · exact .inl h
theorem Goes.step {K : PySem.W.Frag} {o : Out} {D : Ends} {ρ ρ1 : Rho} {σ σ1 : L2.St} {F H F1 H1 : Hp} (a : Step K ρ σ F H ρ1 σ1 F1 H1) (g : Goes K o D ρ σ F H) : Goes K o D ρ1 σ1 F1 H1 := by
  cases o with
  | nx ρ' => exact fun σ' F' H' b => g σ' F' H' (a.trans b)
  | rt c bs => exact fun v ρ' σ' F' H' b hb hv => g v ρ' σ' F' H' (a.trans b) hb (hv.imp fun p hp => ⟨a.mine hp.1, hp.2⟩)
  | bk ρ' => exact fun σ' F' H' b => g σ' F' H' (a.trans b)
  | ct ρ' => exact fun σ' F' H' b => g σ' F' H' (a.trans b)
def tS (K : PySem.W.Frag) (ρ : Rho) (o : Out) : TS := fun D σ H => ∃ F, Sat K F ρ σ H ∧ Goes K o D ρ σ F H
abbrev SD (X : Cx) (ρ : Rho) (st : Stmt) (o : Out) : Prop := PS X st (tS X.K ρ o)
abbrev SDs (X : Cx) (ρ : Rho) (sts : List Stmt) (o : Out) : Prop := PSs X sts (tS X.K ρ o)
def Out.stops : Out → Bool
  | .nx _ => false
  | _ => true
section
variable {X : Cx} {ρ ρ1 ρ2 ρ3 : Rho} {st : Stmt} {sts a b : List Stmt} {o : Out} {e e1 e2 c : Expr} {d d1 d2 : PyData} {l l1 : List PyData} {pos p p2 p3 : Pos} {u : Bool} {x y : Str} {cc c1 : Cell}
theorem ss_nil : SDs X ρ [] (.nx ρ) := pss_nil.weak fun D σ H ⟨F, S, g⟩ => g σ F H (Step.refl S)
theorem ss_one (h : SD X ρ st o) : SDs X ρ [st] o := pss_one h
theorem ss_cons (h : SD X ρ st (.nx ρ1)) (t : SDs X ρ1 sts o) : SDs X ρ (st :: sts) o :=
  (pss_cons h t).weak fun D σ H ⟨F, S, g⟩ => ⟨F, S, fun σ1 F1 H1 s1 => ⟨F1, s1.sat, g.step s1⟩⟩
theorem ss_stop (h : SD X ρ st o) (hs : o.stops = true := by rfl) : SDs X ρ (st :: sts) o :=
  (pss_cons h pss_never).weak fun D σ H ⟨F, S, g⟩ => ⟨F, S, by
    cases o with
    | nx ρ' => cases hs
    | rt c bs => exact g
    | bk ρ' => exact g
    | ct ρ' => exact g⟩
theorem s_ret {bs : List (Addr × Mu)} (h : ED X ρ e ρ1 d) (hb : ∀ q ∈ bs, ∃ j : Nat, ρ1[j]? = some (some (.bor q.1 q.2)) := by exact fun _ h => nomatch h) : SD X ρ (.Return (some e) pos) (.rt (.dat d) bs) := (ps_ret h).weak fun D σ H ⟨F, S, g⟩ => ⟨F, S, fun v F1 H1 s1 o1 hv => g v ρ1 σ F1 H1 s1 hb hv⟩
theorem s_retO {bs : List (Addr × Mu)} (h : EO X ρ e ρ1 l) (hb : ∀ q ∈ bs, ∃ j : Nat, ρ1[j]? = some (some (.bor q.1 q.2)) := by exact fun _ h => nomatch h) : SD X ρ (.Return (some e) pos) (.rt (.own (.lst l)) bs) := (ps_ret h).weak fun D σ H ⟨F, S, g⟩ => ⟨F, S, fun v F1 H1 s1 o1 hv => g v ρ1 σ F1 H1 s1 hb hv⟩
theorem s_retN {bs : List (Addr × Mu)} (hb : ∀ q ∈ bs, ∃ j : Nat, ρ[j]? = some (some (.bor q.1 q.2)) := by exact fun _ h => nomatch h) : SD X ρ (.Return none pos) (.rt (.dat .none) bs) := ps_retN.weak fun D σ H ⟨F, S, g⟩ => g .non ρ σ F H (Step.refl S) hb .non
theorem one_bor {ρ : Rho} {p : Addr} {m : Mu} (j : Nat) (h : ρ[j]? = some (some (.bor p m))) : ∀ q ∈ [(p, m)], ∃ j : Nat, ρ[j]? = some (some (.bor q.1 q.2)) := fun q hq => by
  have e := List.mem_singleton.mp hq
  subst e
  exact ⟨j, h⟩
theorem s_pass : SD X ρ (.Pass pos) (.nx ρ) := ps_pass.weak fun D σ H ⟨F, S, g⟩ => g σ F H (Step.refl S)
theorem s_expr (h : ED X ρ e ρ1 d) (hs : swapsWith e none pos.line X.env = pure false := by rfl) : SD X ρ (.Expr e pos) (.nx ρ1) := (ps_expr h hs).weak fun D σ H ⟨F, S, g⟩ => ⟨F, S, fun v F1 H1 s1 o1 hv => g σ F1 H1 s1⟩
theorem s_if (hc : TD X ρ c ρ1 u) (ha : u = true → SDs X ρ1 a o) (hb : u = false → SDs X ρ1 b o) : SD X ρ (.If c a b pos) o := by
  cases u with
  | true => exact (ps_if hc (ha rfl) pss_never).weak fun D σ H ⟨F, S, g⟩ => ⟨F, S, fun F1 H1 s1 o1 => iteT ⟨F1, s1.sat, g.step s1⟩⟩
  | false => exact (ps_if hc pss_never (hb rfl)).weak fun D σ H ⟨F, S, g⟩ => ⟨F, S, fun F1 H1 s1 o1 => iteF ⟨F1, s1.sat, g.step s1⟩⟩
theorem s_ifT (hc : TD X ρ c ρ1 true) (ha : SDs X ρ1 a o) : SD X ρ (.If c a b pos) o := s_if hc (fun _ => ha) fun h => by cases h
theorem s_ifF (hc : TD X ρ c ρ1 false) (hb : SDs X ρ1 b o) : SD X ρ (.If c a b pos) o := s_if hc (fun h => by cases h) fun _ => hb
/-- two ways -/
theorem ss_split (hc : TD X ρ c ρ1 u) (hT : u = true → TD X ρ c ρ1 true → SDs X ρ (.If c a b pos :: sts) o) (hF : u = false → TD X ρ c ρ1 false → SDs X ρ (.If c a b pos :: sts) o) : SDs X ρ (.If c a b pos :: sts) o := by
  cases u with
  | true => exact hT rfl hc
  | false => exact hF rfl hc
theorem o_conv {o o' : Out} (h : SDs X ρ sts o) (e : o = o') : SDs X ρ sts o' := by rw [← e]; exact h
theorem s_brk : SD X ρ (.Break pos) (.bk ρ) := ps_break.weak fun D σ H ⟨F, S, g⟩ => g σ F H (Step.refl S)
theorem s_cont : SD X ρ (.Continue pos) (.ct ρ) := ps_continue.weak fun D σ H ⟨F, S, g⟩ => g σ F H (Step.refl S)

/-! ### stores to names -/
section
variable {K : PySem.W.Frag} {F F' H H' : Hp} {σ σ' : L2.St} {n : Nat}
theorem Held.ofSet {cn : Option Cell} {v : Option V} (hn : ∀ c, cn = some c → c.mu = none) {i : Nat} {q : Addr} (h : Held (ρ.set n cn) (σ.set n v) i q) : Held ρ σ i q ∧ i ≠ n := by
  obtain ⟨c, m, e1, e2, e3⟩ := h
  by_cases e : n = i
  · subst e
    rw [List.getElem?_set] at e1
    rw [if_pos rfl] at e1
    split at e1
    · cases e1
      rw [hn c rfl] at e2
      cases e2
    · cases e1
  · rw [List.getElem?_set_ne e] at e1 e3
    exact ⟨⟨c, m, e1, e2, e3⟩, fun z => e z.symm⟩
theorem Step.setD (S : Sat K F ρ σ H) {v : V} (hv : Dq K F v d) : Step K ρ σ F H (ρ.set n (some (.dat d))) (σ.set n (some v)) F H := by
  have z : ∀ c, some (Cell.dat d) = some c → c.mu = none := fun c e => by cases e; rfl
  refine ⟨Same.refl F, fun _ a _ _ => a, fun _ _ a _ => a, fun _ a => a, ⟨by rw [List.length_set, List.length_set]; exact S.len, S.sub, fun i c x a b => ?_, fun i j q a b => S.inj i j q (Held.ofSet z a).1 (Held.ofSet z b).1⟩, fun q ⟨i, a⟩ => .inl ⟨i, (Held.ofSet z a).1⟩⟩
  by_cases e : n = i
  · subst e
    rw [List.getElem?_set, if_pos rfl] at a b
    split at a
    · split at b
      · cases a
        cases b
        exact ⟨v, rfl, hv⟩
      · cases b
    · cases a
  · rw [List.getElem?_set_ne e] at a b
    exact S.slot i c x a b
/-- a slot is forgotten -/
theorem Step.forget (S : Sat K F ρ σ H) : Step K ρ σ F H (ρ.set n none) σ F H := by
  have z : ∀ {i q}, Held (ρ.set n none) σ i q → Held ρ σ i q := fun {i q} ⟨c, m, e1, e2, e3⟩ => by
    by_cases e : n = i
    · subst e
      rw [List.getElem?_set, if_pos rfl] at e1
      split at e1 <;> cases e1
    · rw [List.getElem?_set_ne e] at e1
      exact ⟨c, m, e1, e2, e3⟩
  refine ⟨Same.refl F, fun _ a _ _ => a, fun _ _ a _ => a, fun _ a => a, ⟨by rw [List.length_set]; exact S.len, S.sub, fun i c x a b => ?_, fun i j q a b => S.inj i j q (z a) (z b)⟩, fun q ⟨i, a⟩ => .inl ⟨i, z a⟩⟩
  by_cases e : n = i
  · subst e
    rw [List.getElem?_set, if_pos rfl] at a
    split at a
    · cases a
      trivial
    · cases a
  · rw [List.getElem?_set_ne e] at a
    exact S.slot i c x a b
theorem Step.setO (S : Sat K F ρ σ H) {p : Addr} {ho : HO} {m : Mu} (h1 : ¬ Own ρ σ p) (h2 : F p = none) (h3 : H p = some ho) (h4 : MuOk K F m ho) (hp : ∀ H0 : Hp, True) : Sat K F (ρ.set n (some (.own m))) (σ.set n (some (.ref p))) H ∧ ∀ q, Own (ρ.set n (some (.own m))) (σ.set n (some (.ref p))) q → Own ρ σ q ∨ q = p := by
  have z : ∀ {i q}, Held (ρ.set n (some (.own m))) (σ.set n (some (.ref p))) i q → (Held ρ σ i q ∧ i ≠ n) ∨ (i = n ∧ q = p) := fun {i q} ⟨c, m1, e1, e2, e3⟩ => by
    by_cases e : n = i
    · subst e
      rw [List.getElem?_set, if_pos rfl] at e3
      split at e3
      · cases e3
        exact .inr ⟨rfl, rfl⟩
      · cases e3
    · rw [List.getElem?_set_ne e] at e1 e3
      exact .inl ⟨⟨c, m1, e1, e2, e3⟩, fun z => e z.symm⟩
  refine ⟨⟨by rw [List.length_set, List.length_set]; exact S.len, S.sub, fun i c x a b => ?_, fun i j q a b => ?_⟩, fun q ⟨i, a⟩ => ?_⟩
  · by_cases e : n = i
    · subst e
      rw [List.getElem?_set, if_pos rfl] at a b
      split at a
      · split at b
        · cases a
          cases b
          exact ⟨p, ho, rfl, h2, h3, h4⟩
        · cases b
      · cases a
    · rw [List.getElem?_set_ne e] at a b
      exact S.slot i c x a b
  · rcases z a with ⟨a1, ai⟩ | ⟨ai, aq⟩
    · rcases z b with ⟨b1, bi⟩ | ⟨bi, bq⟩
      · exact S.inj i j q a1 b1
      · exact (h1 ⟨i, by rw [← bq]; exact a1⟩).elim
    · rcases z b with ⟨b1, bi⟩ | ⟨bi, bq⟩
      · exact (h1 ⟨j, by rw [← aq]; exact b1⟩).elim
      · rw [ai, bi]
  · rcases z a with ⟨a, _⟩ | ⟨_, q⟩
    · exact .inl ⟨i, a⟩
    · exact .inr q
end
theorem Step.into {K : PySem.W.Frag} {F H F1 H1 : Hp} {σ σ1 : L2.St} {n : Nat} (s1 : Step K ρ σ F H ρ1 σ1 F1 H1) {v : V} {m : Mu} (hv : Val K F1 H1 (fun p => (H p = none ∨ Own ρ σ p) ∧ ¬ Own ρ1 σ1 p) v (.own m)) : Step K ρ σ F H (ρ1.set n (some (.own m))) (σ1.set n (some v)) F1 H1 := by
  obtain ⟨p, o, h0, ⟨h1, h2⟩, h3, h4, h5⟩ := hv
  subst h0
  obtain ⟨a, b⟩ := Step.setO (n := n) s1.sat h2 h3 h4 h5 fun _ => trivial
  refine ⟨s1.fr, s1.new, s1.keep, s1.live, a, fun q z => ?_⟩
  rcases b q z with y | y
  · exact s1.own q y
  · subst y
    rcases h1 with h | h
    · exact .inr h
    · exact .inl h
theorem s_set (n : Nat) (h : ED X ρ e ρ1 d) (nd : X.N.Nodup) (hN : X.N[n]? = some x) (hx : Loc X.env.scope x) (hs : swapsWith e (some (.Name x p)) pos.line X.env = pure false := by rfl) (hf : X.fn x = true ∨ X.env.scope.names.lookup x = some .local := by first | exact .inl rfl | exact .inr rfl | assumption) :
    SD X ρ (.Assign [.Name x p] e pos) (.nx (ρ1.set n (some (.dat d)))) := (ps_set nd hN hx h hs hf).weak fun D σ H ⟨F, S, g⟩ => ⟨F, S, fun v F1 H1 s1 o1 hv => g _ _ _ (s1.trans (Step.setD s1.sat hv))⟩
theorem s_setO (n : Nat) (h : EO X ρ e ρ1 l) (nd : X.N.Nodup) (hN : X.N[n]? = some x) (hx : Loc X.env.scope x) (hs : swapsWith e (some (.Name x p)) pos.line X.env = pure false := by rfl) (hf : X.fn x = true ∨ X.env.scope.names.lookup x = some .local := by first | exact .inl rfl | exact .inr rfl | assumption) :
    SD X ρ (.Assign [.Name x p] e pos) (.nx (ρ1.set n (some (.own (.lst l))))) := (ps_set nd hN hx h hs hf).weak fun D σ H ⟨F, S, g⟩ => ⟨F, S, fun v F1 H1 s1 o1 hv => g _ _ _ (s1.into hv)⟩
/-- a, b = e1, e2: two locals, without a tuple -/
theorem s_par (n m : Nat) {kt k2 : Nat} {pt pt2 px py : Pos} (hc : X.calm = true) (ha : ED X ρ e1 ρ1 d1) (hb : ED X ρ1 e2 ρ2 d2) (nd : X.N.Nodup) (hN : X.N[n]? = some x) (hM : X.N[m]? = some y) (hnm : n ≠ m) (hx : X.env.scope.names.lookup x = some .local)
    (hy : X.env.scope.names.lookup y = some .local) (hw : swappedStores [.Tuple [.Name x px, .Name y py] kt pt] (.Tuple [e1, e2] k2 pt2) X.env = pure (some [x, y])) (hq : starEach [e1, e2] X.env = (false, eval e1 X.env) :: starEach [e2] X.env := by rfl) (hq2 : starEach [e2] X.env = (false, eval e2 X.env) :: starEach [] X.env := by rfl)
    (hs : swapsWithSole [.Tuple [.Name x px, .Name y py] kt pt] (.Tuple [e1, e2] k2 pt2) pos.line X.env = pure false := by rfl) :
    SD X ρ (.Assign [.Tuple [.Name x px, .Name y py] kt pt] (.Tuple [e1, e2] k2 pt2) pos) (.nx ((ρ2.set n (some (.dat d1))).set m (some (.dat d2)))) :=
  (ps_par hc nd hN hM hnm hx hy (a_cons ha (a_cons hb a_nil hq2) hq) hw hs).weak fun D σ H ⟨F, S, g⟩ => ⟨F, S, fun vs F1 H1 s1 o1 hv => by
    cases hv with
    | cons h1 t =>
      cases t with
      | cons h2 t =>
        cases t
        have t1 := s1.trans (Step.setD (n := n) s1.sat h1)
        exact ⟨_, _, rfl, g _ _ _ (t1.trans (Step.setD (n := m) t1.sat h2))⟩⟩
theorem s_parO (n m : Nat) {kt k2 : Nat} {pt pt2 px py : Pos} (hc : X.calm = true) (ha : ED X ρ e1 ρ1 d1) (hb : EO X ρ1 e2 ρ2 l) (nd : X.N.Nodup) (hN : X.N[n]? = some x) (hM : X.N[m]? = some y) (hnm : n ≠ m) (hx : X.env.scope.names.lookup x = some .local)
    (hy : X.env.scope.names.lookup y = some .local) (hw : swappedStores [.Tuple [.Name x px, .Name y py] kt pt] (.Tuple [e1, e2] k2 pt2) X.env = pure (some [x, y])) (hq : starEach [e1, e2] X.env = (false, eval e1 X.env) :: starEach [e2] X.env := by rfl) (hq2 : starEach [e2] X.env = (false, eval e2 X.env) :: starEach [] X.env := by rfl)
    (hs : swapsWithSole [.Tuple [.Name x px, .Name y py] kt pt] (.Tuple [e1, e2] k2 pt2) pos.line X.env = pure false := by rfl) :
    SD X ρ (.Assign [.Tuple [.Name x px, .Name y py] kt pt] (.Tuple [e1, e2] k2 pt2) pos) (.nx ((ρ2.set n (some (.dat d1))).set m (some (.own (.lst l))))) :=
  (ps_par hc nd hN hM hnm hx hy (pa_cons ha (pa_cons hb pa_nil hq2) hq) hw hs).weak fun D σ H ⟨F, S, g⟩ => ⟨F, S, fun v1 F1 H1 s1 o1 h1 => ⟨F1, s1.sat, fun v2 F2 H2 s2 o2 h2 => by
    have t1 := (s1.trans s2).trans (Step.setD (n := n) (d := d1) s2.sat (Dq.mono s2.fr _ h1))
    refine ⟨_, _, rfl, g _ _ _ (t1.into (n := m) (Val.imp h2 fun q hq => ⟨s1.mine hq.1, fun ⟨i, z⟩ => hq.2 ⟨i, (Held.ofSet (fun c e => by cases e; rfl) z).1⟩⟩))⟩⟩⟩
/-- targets -/
def Same0 (vs : List Nat) (σ σ' : L2.St) : Prop := σ'.length = σ.length ∧ ∀ i, i ∉ vs → σ'[i]? = σ[i]?
def tG (K : PySem.W.Frag) (vs : List Nat) (ρ : Rho) (d : PyData) (ρ' : Rho) : TG := fun v σ H Q => ∃ F, Sat K F ρ σ H ∧ Dq K F v d ∧ ∀ σ' F' H', Step K ρ σ F H ρ' σ' F' H' → Same0 vs σ σ' → (∀ q, Own ρ' σ' q → Own ρ σ q) → Q σ' H'
def tGs (K : PySem.W.Frag) (vs : List Nat) (ρ : Rho) (ds : List PyData) (ρ' : Rho) : TGs := fun us σ H Q => ∃ F, Sat K F ρ σ H ∧ DqA K F us ds ∧ ∀ σ' F' H', Step K ρ σ F H ρ' σ' F' H' → Same0 vs σ σ' → (∀ q, Own ρ' σ' q → Own ρ σ q) → Q σ' H'
abbrev GD (X : Cx) (vs : List Nat) (ρ : Rho) (tg : Expr) (d : PyData) (ρ' : Rho) : Prop := PG X tg (tG X.K vs ρ d ρ')
abbrev GDs (X : Cx) (vs : List Nat) (ρ : Rho) (tg : List Expr) (ds : List PyData) (ρ' : Rho) : Prop := PGs X tg (tGs X.K vs ρ ds ρ')
theorem _root_.L2.PG.weak {tg : Expr} {t t' : TG} (h : PG X tg t) (k : ∀ v σ H Q, t' v σ H Q → t v σ H Q) : PG X tg t' := ⟨fun pins s σ H v u Q I r q => h.run pins s σ H v u Q I r (k v σ H Q q)⟩
theorem _root_.L2.PGs.weak {tg : List Expr} {t t' : TGs} (h : PGs X tg t) (k : ∀ v σ H Q, t' v σ H Q → t v σ H Q) : PGs X tg t' := ⟨fun pins s σ H v u Q I r q => h.run pins s σ H v u Q I r (k v σ H Q q)⟩
theorem Same0.trans {vs us : List Nat} {σ σ1 σ2 : L2.St} (a : Same0 vs σ σ1) (b : Same0 us σ1 σ2) : Same0 (vs ++ us) σ σ2 :=
  ⟨b.1.trans a.1, fun i h => (b.2 i fun z => h (List.mem_append_right _ z)).trans (a.2 i fun z => h (List.mem_append_left _ z))⟩
theorem g_name (n : Nat) (nd : X.N.Nodup) (hN : X.N[n]? = some x) (hx : Loc X.env.scope x) (hf : X.fn x = true ∨ X.env.scope.names.lookup x = some .local := by first | exact .inl rfl | exact .inr rfl | assumption) : GD X [n] ρ (.Name x p) d (ρ.set n (some (.dat d))) :=
  (pg_name nd hN hx hf).weak fun v σ H Q ⟨F, S, hv, k⟩ => k _ F H (Step.setD S hv) ⟨List.length_set, fun i hi => List.getElem?_set_ne fun z => hi (by rw [z]; exact List.mem_singleton.mpr rfl)⟩ fun q ⟨i, z⟩ => ⟨i, (Held.ofSet (fun c e => by cases e; rfl) z).1⟩
theorem gs_nil : GDs X [] ρ [] [] ρ := pgs_nil.weak fun v σ H Q ⟨F, S, hv, k⟩ => by
  cases hv
  exact ⟨rfl, k σ F H (Step.refl S) ⟨rfl, fun _ _ => rfl⟩ own_id⟩
theorem gs_cons {vs us : List Nat} {tg : Expr} {tgs : List Expr} {ds : List PyData} (h : GD X vs ρ tg d ρ1) (t : GDs X us ρ1 tgs ds ρ2) (hs : (assignEach (tg :: tgs) X.env).map (·.2) = assign tg X.env :: (assignEach tgs X.env).map (·.2) := by rfl) : GDs X (vs ++ us) ρ (tg :: tgs) (d :: ds) ρ2 :=
  (pgs_cons h t hs).weak fun v σ H Q ⟨F, S, hv, k⟩ => by
    cases hv with
    | cons h1 t1 => exact ⟨_, _, rfl, F, S, h1, fun σ1 F1 H1 s1 e1 o1 => ⟨F1, s1.sat, DqA.mono s1.fr _ t1, fun σ2 F2 H2 s2 e2 o2 => k σ2 F2 H2 (s1.trans s2) (e1.trans e2) fun q h => o1 q (o2 q h)⟩⟩
theorem g_tup {vs : List Nat} {es : List Expr} {kk : Nat} {ds : List PyData} (hc : X.calm = true) (h : GDs X vs ρ es ds ρ1) (hn : (assignEach es X.env).length = ds.length := by rfl) (hst : (assignEach es X.env).findIdx? (·.1) = none := by rfl) : GD X vs ρ (.Tuple es kk pos) (.tuple ds) ρ1 :=
  (pg_tup hc h hn hst).weak fun v σ H Q ⟨F, S, hv, k⟩ => by
    cases hv with
    | tup hs ha => exact ⟨_, _, rfl, sqT_same S.sub hs, ha.length, F, S, ha, k⟩
/-- x[i] = .., x a list held alone -/
theorem g_sub (n : Nat) {i : Int} {j : Nat} {ei : Expr} (h : ρ[n]? = some (some cc)) (hm : cc.mu = some (.lst l)) (hN : X.N[n]? = some x) (hv : Vis X.env.scope x) (hb : ED X ρ ei ρ (.int i)) (hj : ixN l.length i = some j)
    (hd : (x == ("__debug__" : Str)) = false := by decide) (hcd : (x == ("__classdict__" : Str)) = false := by decide) (ha : ∀ v, assign (.Subscript (.Name x p) ei pos) X.env v = (do
      let ov ← holding [v] (eval (.Name x p) X.env)
      let iv ← holding [v, ov] (eval ei X.env)
      standAt pos
      holding [v, ov, iv] (setItem ov iv v)
      release [v, ov, iv] []) := by intro _; rfl) : GD X [] ρ (.Subscript (.Name x p) ei pos) d (ρ.set n (some (cc.put (.lst (l.set j d))))) :=
  (pg_sub (pe_var hN hv hd hcd) hb set_list ha).weak fun v σ H Q ⟨F, S, hv, k⟩ => by
    obtain ⟨q, o, e1, e2, e3, e4⟩ := S.held h hm
    refine ⟨_, e1, F, S, fun y F2 H2 s2 o2 v2 => ?_⟩
    have v4 : Dq X.K F2 y (.int i) := v2
    cases v4
    obtain ⟨q', o', f1, f2, f3, f4⟩ := s2.sat.held h hm
    rw [e1] at f1
    cases f1
    cases o' with
    | lst xs =>
      have f5 : DqA X.K F2 xs l := f4
      refine ⟨q, xs, i, j, rfl, rfl, f3, by rw [f5.length]; exact hj, ?_⟩
      refine k σ F2 _ (s2.trans (Step.changed (q := q) (m' := .lst (l.set j d)) s2.sat h hm e1 (Same.refl F2) (fun r a _ _ => a) (fun r o a ne => by rw [upd_ne ne]; exact a) (fun b u z => ?_) f2 upd_same (f5.set (Dq.mono s2.fr _ hv) j))) ⟨rfl, fun _ _ => rfl⟩ fun r z => o2 r ((own_put h hm).mp z)
      have ne : b ≠ q := fun w => by rw [w, f2] at z; cases z
      rw [upd_ne ne]
      exact s2.sat.sub _ _ z
    | _ => exact f4.elim
theorem s_asg {vs : List Nat} {tg : Expr} (h : ED X ρ e ρ1 d) (hg : GD X vs ρ1 tg d ρ2) (hs : swapsWithSole [tg] e pos.line X.env = pure false := by rfl) (hw : swappedStores [tg] e X.env = pure none := by rfl) (h1 : (assignEach [tg] X.env).map (·.2) = [assign tg X.env] := by rfl) : SD X ρ (.Assign [tg] e pos) (.nx ρ2) :=
  (ps_asg h hg hs hw h1).weak fun D σ H ⟨F, S, g⟩ => ⟨F, S, fun v F1 H1 s1 o1 hv => ⟨F1, s1.sat, hv, fun σ2 F2 H2 s2 _ _ => g σ2 F2 H2 (s1.trans s2)⟩⟩

/-- a list that a name holds alone is handed on -/
theorem e_move (n : Nat) (h : ρ[n]? = some (some (.own (.lst l)))) (hN : X.N[n]? = some x) (hv : Vis X.env.scope x) (hd : (x == ("__debug__" : Str)) = false := by decide) (hcd : (x == ("__classdict__" : Str)) = false := by decide) :
    EO X ρ (.Name x pos) (ρ.set n none) l := (pe_var hN hv hd hcd).weak fun σ H Q ⟨F, S, k⟩ => by
  obtain ⟨q, o, e1, e2, e3, e4⟩ := S.held h rfl
  have s1 := Step.forget (n := n) S
  refine ⟨_, e1, k _ F H s1 (fun r z => ?_) ⟨q, o, rfl, ⟨.inr ⟨n, _, _, h, rfl, e1⟩, ?_⟩, e2, e3, e4⟩⟩
  · obtain ⟨i, c, m, a, b, d⟩ := z
    by_cases w : n = i
    · subst w
      rw [List.getElem?_set, if_pos rfl] at a
      split at a <;> cases a
    · rw [List.getElem?_set_ne w] at a
      exact ⟨i, c, m, a, b, d⟩
  · rintro ⟨i, c, m, a, b, d⟩
    by_cases w : n = i
    · subst w
      rw [List.getElem?_set, if_pos rfl] at a
      split at a <;> cases a
    · rw [List.getElem?_set_ne w] at a
      exact w (S.inj n i q ⟨_, _, h, rfl, e1⟩ ⟨c, m, a, b, d⟩)
/-! ### methods of a list held alone -/
theorem e_meth1 (n : Nat) {id : String} {nm : Str} {l' : List PyData} {r : V → List V → Hp → VK → Prop} {es : List Expr} {ds : List PyData} {apos : Pos} (slot : Slot "list" nm id) (hty : typeOf (.builtin id) = pure (.type "method_descriptor")) (hr : MtM X id r)
    (h : ρ[n]? = some (some cc)) (hm : cc.mu = some (.lst l)) (hN : X.N[n]? = some x) (hv : Vis X.env.scope x) (ha : AD X ρ (e :: es) ρ1 ds) (h1 : ρ1[n]? = some (some c1)) (hm1 : c1.mu = some (.lst l1))
    (k : ∀ F H q xs vs (Q : VK), Same F H → H q = some (.lst xs) → DqA X.K F xs l1 → DqA X.K F vs ds → (∀ v ys, DqA X.K F ys l' → Dq X.K F v d → Q v (upd H q (.lst ys))) → r (.ref q) vs H Q)
    (hd : (x == ("__debug__" : Str)) = false := by decide) (hcd : (x == ("__classdict__" : Str)) = false := by decide)
    (hbase : attributeBase (.Name x p) nm X.env (eval (.Name x p) X.env) = eval (.Name x p) X.env := by rfl)
    (hfew : ((backTo pos (starEach (e :: es) X.env)).all (fun x => !x.1) && (backToKw pos (keywordEach [] X.env)).all (fun x => x.1.isSome)
      && decide ((e :: es).length + ([] : List Keyword).length + (if ([] : List Keyword).isEmpty then 0 else 1) < 30)) = true := by rfl)
    (hline : (apos.endLine == pos.line) = true := by rfl) (he : starEach (e :: es) X.env = (false, eval e X.env) :: starEach es X.env := by rfl) (hpl : (backTo pos (starEach es X.env)).any (·.1) = false := by rfl) :
    ED X ρ (.Call (.Attribute (.Name x p) nm apos) (e :: es) [] pos) (ρ1.set n (some (c1.put (.lst l')))) d := by
  refine (pe_bm PySem.F.plainAttrs_list slot hty hr (pe_var hN hv hd hcd) ha hbase hfew hline he hpl).weak fun σ H Q ⟨F, S, kk⟩ => ?_
  obtain ⟨q, o, e1, e2, e3, e4⟩ := S.held h hm
  cases o with
  | lst xs0 =>
    refine ⟨_, e1, .inl ⟨rfl, xs0, .inl (.inl e3)⟩, F, S, fun vs F2 H2 s2 o2 v2 => ?_⟩
    obtain ⟨q', o', f1, f2, f3, f4⟩ := s2.sat.held h1 hm1
    rw [e1] at f1
    cases f1
    cases o' with
    | lst xs =>
      refine k F2 H2 q xs vs Q s2.sat.sub f3 f4 v2 fun v ys hy hv => ?_
      refine kk v F2 _ (s2.trans (Step.changed (q := q) (m' := .lst l') s2.sat h1 hm1 e1 (Same.refl F2) (fun r a _ _ => a) (fun r o a ne => by rw [upd_ne ne]; exact a) (fun b u z => ?_) f2 upd_same hy)) (fun r z => o2 r ((own_put h1 hm1).mp z)) hv
      have ne : b ≠ q := fun w => by rw [w, f2] at z; cases z
      rw [upd_ne ne]
      exact s2.sat.sub _ _ z
    | _ => exact f4.elim
  | _ => exact e4.elim
theorem sz1 {n : Nat} (h : n < 1000000) : n < sizeLine := Nat.lt_of_lt_of_le h (by decide)
variable {apos : Pos} {i : Int} {es : List Expr}
theorem e_append (n : Nat) (h : ρ[n]? = some (some cc)) (hm : cc.mu = some (.lst l)) (hN : X.N[n]? = some x) (hv : Vis X.env.scope x) (ha : ED X ρ e ρ1 d) (h1 : ρ1[n]? = some (some c1)) (hm1 : c1.mu = some (.lst l1)) (hz : l1.length < 1000000)
    (hd : (x == ("__debug__" : Str)) = false := by decide) (hcd : (x == ("__classdict__" : Str)) = false := by decide)
    (hbase : attributeBase (.Name x p) "append" X.env (eval (.Name x p) X.env) = eval (.Name x p) X.env := by rfl)
    (hfew : ((backTo pos (starEach [e] X.env)).all (fun x => !x.1) && (backToKw pos (keywordEach [] X.env)).all (fun x => x.1.isSome)
      && decide ([e].length + ([] : List Keyword).length + (if ([] : List Keyword).isEmpty then 0 else 1) < 30)) = true := by rfl)
    (hline : (apos.endLine == pos.line) = true := by rfl) (he : starEach [e] X.env = (false, eval e X.env) :: starEach [] X.env := by rfl) (hpl : (backTo pos (starEach [] X.env)).any (·.1) = false := by rfl) :
    ED X ρ (.Call (.Attribute (.Name x p) "append" apos) [e] [] pos) (ρ1.set n (some (c1.put (.lst (l1 ++ [d]))))) .none :=
  e_meth1 n PySem.F.slot_list_append PySem.F.type_list_append mt_append h hm hN hv (a_cons ha a_nil he) h1 hm1 (fun F H q xs vs Q s hq hx hvs k => by
    cases hvs with
    | cons g1 t =>
      cases t
      exact ⟨q, xs, _, rfl, rfl, hq, sz1 (by rw [hx.length]; exact hz), k _ _ (hx.append (.cons g1 .nil)) .non⟩) hd hcd hbase hfew hline he hpl
theorem e_extend (n : Nat) {l2 : List PyData} (h : ρ[n]? = some (some cc)) (hm : cc.mu = some (.lst l)) (hN : X.N[n]? = some x) (hv : Vis X.env.scope x) (ha : ED X ρ e ρ1 (.list l2)) (h1 : ρ1[n]? = some (some c1)) (hm1 : c1.mu = some (.lst l1)) (hz : l1.length + l2.length < 1000000)
    (hd : (x == ("__debug__" : Str)) = false := by decide) (hcd : (x == ("__classdict__" : Str)) = false := by decide)
    (hbase : attributeBase (.Name x p) "extend" X.env (eval (.Name x p) X.env) = eval (.Name x p) X.env := by rfl)
    (hfew : ((backTo pos (starEach [e] X.env)).all (fun x => !x.1) && (backToKw pos (keywordEach [] X.env)).all (fun x => x.1.isSome)
      && decide ([e].length + ([] : List Keyword).length + (if ([] : List Keyword).isEmpty then 0 else 1) < 30)) = true := by rfl)
    (hline : (apos.endLine == pos.line) = true := by rfl) (he : starEach [e] X.env = (false, eval e X.env) :: starEach [] X.env := by rfl) (hpl : (backTo pos (starEach [] X.env)).any (·.1) = false := by rfl) :
    ED X ρ (.Call (.Attribute (.Name x p) "extend" apos) [e] [] pos) (ρ1.set n (some (c1.put (.lst (l1 ++ l2))))) .none :=
  e_meth1 n PySem.F.slot_list_extend PySem.F.type_list_extend mt_extend h hm hN hv (a_cons ha a_nil he) h1 hm1 (fun F H q xs vs Q s hq hx hvs k => by
    cases hvs with
    | cons g1 t =>
      cases t
      cases g1 with
      | lst hs ha => exact ⟨q, _, xs, _, rfl, rfl, hq, s _ _ hs, Nat.le_of_lt (sz1 (by rw [hx.length, ha.length]; exact hz)), k _ _ (hx.append ha) .non⟩) hd hcd hbase hfew hline he hpl
theorem e_insert (n : Nat) {e2 : Expr} (h : ρ[n]? = some (some cc)) (hm : cc.mu = some (.lst l)) (hN : X.N[n]? = some x) (hv : Vis X.env.scope x) (ha : AD X ρ [e, e2] ρ1 [.int i, d]) (h1 : ρ1[n]? = some (some c1)) (hm1 : c1.mu = some (.lst l1)) (hz : l1.length < 1000000) (hi : 0 ≤ i ∧ i < 2 ^ 63)
    (hd : (x == ("__debug__" : Str)) = false := by decide) (hcd : (x == ("__classdict__" : Str)) = false := by decide)
    (hbase : attributeBase (.Name x p) "insert" X.env (eval (.Name x p) X.env) = eval (.Name x p) X.env := by rfl)
    (hfew : ((backTo pos (starEach [e, e2] X.env)).all (fun x => !x.1) && (backToKw pos (keywordEach [] X.env)).all (fun x => x.1.isSome)
      && decide ([e, e2].length + ([] : List Keyword).length + (if ([] : List Keyword).isEmpty then 0 else 1) < 30)) = true := by rfl)
    (hline : (apos.endLine == pos.line) = true := by rfl) (he : starEach [e, e2] X.env = (false, eval e X.env) :: starEach [e2] X.env := by rfl) (hpl : (backTo pos (starEach [e2] X.env)).any (·.1) = false := by rfl) :
    ED X ρ (.Call (.Attribute (.Name x p) "insert" apos) [e, e2] [] pos) (ρ1.set n (some (c1.put (.lst (l1.take i.toNat ++ [d] ++ l1.drop i.toNat))))) .none :=
  e_meth1 n PySem.F.slot_list_insert PySem.F.type_list_insert mt_insert h hm hN hv ha h1 hm1 (fun F H q xs vs Q s hq hx hvs k => by
    cases hvs with
    | cons g1 t =>
      cases g1
      cases t with
      | cons g2 t =>
        cases t
        exact ⟨q, xs, i, _, rfl, rfl, hq, sz1 (by rw [hx.length]; exact hz), hi.1, hi.2, k _ _ (((hx.take _).append (.cons g2 .nil)).append (hx.drop _)) .non⟩) hd hcd hbase hfew hline he hpl
theorem e_popAt (n : Nat) {j : Nat} (h : ρ[n]? = some (some cc)) (hm : cc.mu = some (.lst l)) (hN : X.N[n]? = some x) (hv : Vis X.env.scope x) (ha : ED X ρ e ρ1 (.int i)) (h1 : ρ1[n]? = some (some c1)) (hm1 : c1.mu = some (.lst l1)) (hi : -(2 ^ 63) ≤ i ∧ i < 2 ^ 63) (hj : seqIndex? i l1.length = some j) (hg : l1[j]? = some d)
    (hd : (x == ("__debug__" : Str)) = false := by decide) (hcd : (x == ("__classdict__" : Str)) = false := by decide)
    (hbase : attributeBase (.Name x p) "pop" X.env (eval (.Name x p) X.env) = eval (.Name x p) X.env := by rfl)
    (hfew : ((backTo pos (starEach [e] X.env)).all (fun x => !x.1) && (backToKw pos (keywordEach [] X.env)).all (fun x => x.1.isSome)
      && decide ([e].length + ([] : List Keyword).length + (if ([] : List Keyword).isEmpty then 0 else 1) < 30)) = true := by rfl)
    (hline : (apos.endLine == pos.line) = true := by rfl) (he : starEach [e] X.env = (false, eval e X.env) :: starEach [] X.env := by rfl) (hpl : (backTo pos (starEach [] X.env)).any (·.1) = false := by rfl) :
    ED X ρ (.Call (.Attribute (.Name x p) "pop" apos) [e] [] pos) (ρ1.set n (some (c1.put (.lst (l1.eraseIdx j))))) d :=
  e_meth1 n PySem.F.slot_list_pop PySem.F.type_list_pop mt_popAt h hm hN hv (a_cons ha a_nil he) h1 hm1 (fun F H q xs vs Q s hq hx hvs k => by
    cases hvs with
    | cons g1 t =>
      cases g1
      cases t
      obtain ⟨v, b1, b2⟩ := hx.get' hg
      exact ⟨q, xs, i, j, v, rfl, rfl, hq, hi.1, hi.2, by rw [hx.length]; exact hj, b1, k _ _ (hx.eraseIdx j) b2⟩) hd hcd hbase hfew hline he hpl
end
end Cl

set_option maxRecDepth 100000
namespace Cl
open PySem PySem.Spec PyProof.Rows L2
/-! ### while -/
/-- what a while comes to, turn by turn -/
inductive WhD (X : Cx) (c : Expr) (body : List Stmt) (o : Out) : Nat → Rho → Prop where
  | stop {m : Nat} {ρ ρ1 : Rho} (h : TD X ρ c ρ1 false) (e : o = .nx ρ1) : WhD X c body o m ρ
  | turn {m : Nat} {ρ ρ1 ρ2 : Rho} (h : TD X ρ c ρ1 true) (b : SDs X ρ1 body (.nx ρ2)) (r : WhD X c body o m ρ2) : WhD X c body o (m + 1) ρ
  | cont {m : Nat} {ρ ρ1 ρ2 : Rho} (h : TD X ρ c ρ1 true) (b : SDs X ρ1 body (.ct ρ2)) (r : WhD X c body o m ρ2) : WhD X c body o (m + 1) ρ
  | ret {m : Nat} {ρ ρ1 : Rho} {r : Cell} {bs : List (Addr × Mu)} (h : TD X ρ c ρ1 true) (b : SDs X ρ1 body (.rt r bs)) (e : o = .rt r bs) : WhD X c body o m ρ
  | brk {m : Nat} {ρ ρ1 ρ2 : Rho} (h : TD X ρ c ρ1 true) (b : SDs X ρ1 body (.bk ρ2)) (e : o = .nx ρ2) : WhD X c body o m ρ
section
variable {X : Cx} {ρ ρ1 ρ2 : Rho} {c : Expr} {body : List Stmt} {o : Out} {pos : Pos}
/-- all that a while's test and body do, told at once for every place of it -/
structure Turns (X : Cx) (c : Expr) (body : List Stmt) (o : Out) (tc : TT) (tb : TS) : Prop where
  c : PT X c tc
  b : PSs X body tb
theorem pt_all {X : Cx} {e : Expr} : ∃ t : TT, PT X e t ∧ ∀ ρ ρ' b, TD X ρ e ρ' b → ∀ σ H Q, tDT X.K ρ ρ' b σ H Q → t σ H Q := by
  refine ⟨fun σ H Q => ∃ t, PT X e t ∧ t σ H Q, ⟨fun pins s σ H Q I ⟨t, h, q⟩ => h.run pins s σ H Q I q⟩, fun ρ ρ' b h σ H Q q => ⟨_, h, q⟩⟩
theorem pss_all {X : Cx} {sts : List Stmt} : ∃ t : TS, PSs X sts t ∧ ∀ t', PSs X sts t' → ∀ D σ H, t' D σ H → t D σ H :=
  ⟨fun D σ H => ∃ t, PSs X sts t ∧ t D σ H, ⟨fun pins s σ H D I ⟨t, h, q⟩ => h.run pins s σ H D I q⟩, fun t h D σ H q => ⟨t, h, q⟩⟩
theorem s_while {m : Nat} (h : WhD X c body o m ρ) (hp : PassesOwn (model X.prog X.w) X.A X.env X.xe) : SD X ρ (.While c body [] pos) o := by
  obtain ⟨tc, hc, kc⟩ := pt_all (X := X) (e := c)
  obtain ⟨tb, hb, kb⟩ := pss_all (X := X) (sts := body)
  refine (ps_while hp hc hb).weak fun D σ H ⟨F, S, g⟩ => ?_
  refine ⟨fun n σ H => ∃ ρ, WhD X c body o n ρ ∧ tS X.K ρ o D σ H, ⟨m, ρ, h, F, S, g⟩, ?_⟩
  rintro n σ H ⟨ρ, h, F, S, g⟩
  cases h with
  | stop hh e =>
    subst e
    exact kc _ _ _ hh σ H _ ⟨F, S, fun F1 H1 s1 o1 => iteF (g σ F1 H1 s1)⟩
  | turn hh b r => exact kc _ _ _ hh σ H _ ⟨F, S, fun F1 H1 s1 o1 => iteT ⟨_, fun _ _ z => z, kb _ b _ _ _ ⟨F1, s1.sat, fun σ2 F2 H2 s2 => ⟨_, Nat.lt_succ_self _, _, r, F2, s2.sat, g.step (s1.trans s2)⟩⟩⟩⟩
  | cont hh b r => exact kc _ _ _ hh σ H _ ⟨F, S, fun F1 H1 s1 o1 => iteT ⟨_, fun _ _ z => z, kb _ b _ _ _ ⟨F1, s1.sat, fun σ2 F2 H2 s2 => ⟨_, Nat.lt_succ_self _, _, r, F2, s2.sat, g.step (s1.trans s2)⟩⟩⟩⟩
  | ret hh b e =>
    subst e
    exact kc _ _ _ hh σ H _ ⟨F, S, fun F1 H1 s1 o1 => iteT ⟨_, fun _ _ z => z, kb _ b _ _ _ ⟨F1, s1.sat, fun v ρ2 σ2 F2 H2 s2 hb hv => (g.step s1) v ρ2 σ2 F2 H2 s2 hb hv⟩⟩⟩
  | brk hh b e =>
    subst e
    exact kc _ _ _ hh σ H _ ⟨F, S, fun F1 H1 s1 o1 => iteT ⟨_, fun _ _ z => z, kb _ b _ _ _ ⟨F1, s1.sat, fun σ2 F2 H2 s2 => g σ2 F2 H2 (s1.trans s2)⟩⟩⟩
end

/-! ### what is walked -/
def Yd (K : PySem.W.Frag) (F : Hp) (ds : List PyData) : Nat → Hp → V → Hp → Prop := fun i H v H' => ∀ F2, Same F F2 → Same F2 H → ∃ F3, Grow F2 H F3 H' ∧ ∃ d, ds[i]? = some d ∧ Dq K F3 v d
def tI (K : PySem.W.Frag) (ρ ρ' : Rho) (ds : List PyData) : TI := fun σ H R => ∃ F, Sat K F ρ σ H ∧
  ∀ J F' H', Step K ρ σ F H ρ' σ F' H' → (∀ q, Own ρ' σ q → Own ρ σ q) → Walk J ds.length (fun H2 => Same F' H2) (Yd K F' ds) → R J H'
abbrev ID (X : Cx) (ρ : Rho) (tg iter : Expr) (ρ' : Rho) (ds : List PyData) : Prop := PI X tg iter (tI X.K ρ ρ' ds)
theorem _root_.L2.PI.weak {X : Cx} {tg iter : Expr} {t t' : TI} (h : PI X tg iter t) (k : ∀ σ H Q, t' σ H Q → t σ H Q) : PI X tg iter t' := ⟨fun pins s σ H R I q => h.run pins s σ H R I (k σ H R q)⟩
section
variable {X : Cx} {ρ ρ1 ρ2 : Rho} {tg iter e e2 : Expr} {ds ds1 ds2 : List PyData} {d : PyData} {pos p : Pos} {es : List Expr} {i j : Int}
theorem yd_at {K : PySem.W.Frag} {F : Hp} {xs : List V} (h : DqA K F xs ds) {i : Nat} {H H' : Hp} {v : V} (y : YAt xs i H v H') : Yd K F ds i H v H' := fun F2 a b => by
  obtain ⟨rfl, e⟩ := y
  obtain ⟨d, e1, e2⟩ := h.get e
  exact ⟨F2, Grow.refl b, d, e1, e2.mono a⟩
theorem i_list (h : ED X ρ iter ρ1 (.list ds)) : ID X ρ tg iter ρ1 ds := (pi_list h).weak fun σ H R ⟨F, S, k⟩ => ⟨F, S, fun v F1 H1 s1 o1 hv => by
  have q : Dq X.K F1 v (.list ds) := hv
  cases q with
  | lst hs ha =>
    refine ⟨_, rfl, ⟨_, .inl (.inl (s1.sat.sub _ _ hs))⟩, k _ F1 H1 s1 o1 ?_⟩
    rw [← ha.length]
    exact walk_list.mono (fun H2 z => .inl (.inl (z _ _ hs))) fun i H2 v H3 _ _ y => yd_at ha y⟩
theorem i_tup (h : ED X ρ iter ρ1 (.tuple ds)) : ID X ρ tg iter ρ1 ds := (pi_tup h).weak fun σ H R ⟨F, S, k⟩ => ⟨F, S, fun v F1 H1 s1 o1 hv => by
  have q : Dq X.K F1 v (.tuple ds) := hv
  cases q with
  | tup hs ha =>
    refine ⟨_, rfl, ⟨_, sqT_same s1.sat.sub hs⟩, k _ F1 H1 s1 o1 ?_⟩
    rw [← ha.length]
    exact walk_tup.mono (fun H2 z => sqT_same z hs) fun i H2 v H3 _ _ y => yd_at ha y⟩
def rangeD (lo : Int) (n : Nat) : List PyData := (List.range n).map fun (i : Nat) => .int (lo + (i : Int))
theorem rangeD_len {lo : Int} {n : Nat} : (rangeD lo n).length = n := by unfold rangeD; rw [List.length_map, List.length_range]
theorem i_range1 (hg : Gl X "range") (hm : X.mg "range" = none) (h : AD X ρ [e] ρ1 [.int j]) (hj : -(2 ^ 62) ≤ j ∧ j < 2 ^ 62) (hs : starEach [e] X.env = [(false, eval e X.env)] := by rfl) : ID X ρ tg (.Call (.Name "range" p) [e] [] pos) ρ1 (rangeD 0 j.toNat) :=
  (pi_range1 hg hm h hs).weak fun σ H R ⟨F, S, k⟩ => ⟨F, S, fun vs F1 H1 s1 o1 hv => by
    cases hv with
    | cons h1 t =>
      cases h1; cases t
      refine ⟨j, rfl, hj.1, hj.2, k _ F1 H1 s1 o1 ?_⟩
      rw [rangeD_len]
      refine walk_range.mono (fun _ _ => trivial) fun i H2 v H3 hi _ y F2 a b => ?_
      obtain ⟨rfl, rfl⟩ := y
      refine ⟨F2, Grow.refl b, .int (0 + (i : Int)), ?_, .int _⟩
      unfold rangeD
      rw [List.getElem?_map, List.getElem?_range hi]
      rfl⟩
theorem i_range2 (hg : Gl X "range") (hm : X.mg "range" = none) (h : AD X ρ [e, e2] ρ1 [.int i, .int j]) (hj : -(2 ^ 62) ≤ i ∧ i < 2 ^ 62 ∧ -(2 ^ 62) ≤ j ∧ j < 2 ^ 62) (hs : starEach [e, e2] X.env = [(false, eval e X.env), (false, eval e2 X.env)] := by rfl) (hs2 : starEach [e2] X.env = [(false, eval e2 X.env)] := by rfl) : ID X ρ tg (.Call (.Name "range" p) [e, e2] [] pos) ρ1 (rangeD i (j - i).toNat) :=
  (pi_range2 hg hm h hs hs2).weak fun σ H R ⟨F, S, k⟩ => ⟨F, S, fun vs F1 H1 s1 o1 hv => by
    cases hv with
    | cons h1 t =>
      cases h1
      cases t with
      | cons h2 t =>
        cases h2; cases t
        refine ⟨i, j, rfl, hj, k _ F1 H1 s1 o1 ?_⟩
        rw [rangeD_len]
        refine walk_range.mono (fun _ _ => trivial) fun n H2 v H3 hi _ y F2 a b => ?_
        obtain ⟨rfl, rfl⟩ := y
        refine ⟨F2, Grow.refl b, .int (i + (n : Int)), ?_, .int _⟩
        unfold rangeD
        rw [List.getElem?_map, List.getElem?_range hi]
        rfl⟩
def pairD (ds es : List PyData) : List PyData := List.zipWith (fun a b => .tuple [a, b]) ds es
theorem yd_pair {K : PySem.W.Frag} {F : Hp} {f g : Nat → Option V} {i : Nat} {H H' : Hp} {v : V} {ps : List PyData} (y : YPair f g i H v H')
    (h : ∀ x y F2, f i = some x → g i = some y → Same F F2 → ∃ a b, ps[i]? = some (.tuple [a, b]) ∧ Dq K F2 x a ∧ Dq K F2 y b) : Yd K F ps i H v H' := fun F2 a b => by
  obtain ⟨T, x, y, rfl, nT, rfl, e1, e2⟩ := y
  obtain ⟨d1, d2, q, q1, q2⟩ := h x y F2 e1 e2 a
  have e := same_upd (o := .tup [x, y]) (b.free nT)
  exact ⟨_, Grow.laid b nT, _, q, .tup (.inl (.inl upd_same)) (.cons (q1.mono e) (.cons (q2.mono e) .nil))⟩
theorem zip_get {ps qs : List PyData} {i : Nat} {a b : PyData} (h1 : ps[i]? = some a) (h2 : qs[i]? = some b) : (pairD ps qs)[i]? = some (.tuple [a, b]) := by
  unfold pairD
  rw [List.getElem?_zipWith, h1, h2]
theorem i_zipL {elts : List Expr} {kk : Nat} {tpos : Pos} (hg : Gl X "zip") (hm : X.mg "zip" = none) (h : AD X ρ [e, e2] ρ1 [.list ds1, .list ds2]) (hs : starEach [e, e2] X.env = (false, eval e X.env) :: starEach [e2] X.env := by rfl) (hpl : (backTo pos (starEach [e2] X.env)).any (·.1) = false := by rfl) : ID X ρ (.Tuple elts kk tpos) (.Call (.Name "zip" p) [e, e2] [] pos) ρ1 (pairD ds1 ds2) :=
  (pi_zip hg hm h hs hpl).weak fun σ H R ⟨F, S, k⟩ => ⟨F, S, fun vs F1 H1 s1 o1 hv => by
    cases hv with
    | cons h1 t =>
      cases t with
      | cons h2 t =>
        cases t
        cases h1 with
        | lst hs ha =>
          cases h2 with
          | lst hs' ha' =>
            refine ⟨_, _, _, _, rfl, .inl (.inl (s1.sat.sub _ _ hs)), .inl (.inl (s1.sat.sub _ _ hs')), k _ F1 H1 s1 o1 ?_⟩
            refine (walk_zip (n := (pairD ds1 ds2).length) ?_).mono (fun H2 z => ⟨.inl (.inl (z _ _ hs)), .inl (.inl (z _ _ hs'))⟩) fun i H2 v H3 _ _ y => yd_pair y fun x y F2 e1 e2 a => ?_
            · unfold pairD
              rw [List.length_zipWith, ha.length, ha'.length]
            · obtain ⟨d1, q1, q2⟩ := ha.get e1
              obtain ⟨d2, q3, q4⟩ := ha'.get e2
              exact ⟨d1, d2, zip_get q1 q3, q2.mono a, q4.mono a⟩⟩
theorem i_enum {elts : List Expr} {kk : Nat} {tpos : Pos} (hg : Gl X "enumerate") (hm : X.mg "enumerate" = none) (h : AD X ρ [e] ρ1 [.list ds]) (hs : starEach [e] X.env = [(false, eval e X.env)] := by rfl) : ID X ρ (.Tuple elts kk tpos) (.Call (.Name "enumerate" p) [e] [] pos) ρ1 (pairD (rangeD 0 ds.length) ds) :=
  (pi_enum hg hm h hs).weak fun σ H R ⟨F, S, k⟩ => ⟨F, S, fun vs F1 H1 s1 o1 hv => by
    cases hv with
    | cons h1 t =>
      cases t
      cases h1 with
      | lst hs ha =>
        refine ⟨_, _, rfl, .inl (.inl (s1.sat.sub _ _ hs)), k _ F1 H1 s1 o1 ?_⟩
        have hl : (pairD (rangeD 0 ds.length) ds).length = ds.length := by
          unfold pairD
          rw [List.length_zipWith, rangeD_len, Nat.min_self]
        rw [hl, ← ha.length]
        refine walk_enum.mono (fun H2 z => .inl (.inl (z _ _ hs))) fun i H2 v H3 hi _ y => yd_pair y fun x y F2 e1 e2 a => ?_
        obtain ⟨d2, q3, q4⟩ := ha.get e2
        cases e1
        refine ⟨.int (i : Nat), d2, zip_get ?_ q3, .int _, q4.mono a⟩
        unfold rangeD
        rw [List.getElem?_map, List.getElem?_range hi]
        show some (PyData.int (0 + (i : Int))) = _
        rw [Int.zero_add]⟩
end

/-! ### for -/
inductive ForD (X : Cx) (tg : Expr) (vs : List Nat) (body : List Stmt) (o : Out) : List PyData → Rho → Prop where
  | nil {ρ : Rho} (e : o = .nx ρ) : ForD X tg vs body o [] ρ
  | next {d : PyData} {ds : List PyData} {ρ ρ1 ρ2 : Rho} (h : GD X vs ρ tg d ρ1) (b : SDs X ρ1 body (.nx ρ2)) (r : ForD X tg vs body o ds ρ2) : ForD X tg vs body o (d :: ds) ρ
  | cont {d : PyData} {ds : List PyData} {ρ ρ1 ρ2 : Rho} (h : GD X vs ρ tg d ρ1) (b : SDs X ρ1 body (.ct ρ2)) (r : ForD X tg vs body o ds ρ2) : ForD X tg vs body o (d :: ds) ρ
  | ret {d : PyData} {ds : List PyData} {ρ ρ1 : Rho} {r : Cell} {bs : List (Addr × Mu)} (h : GD X vs ρ tg d ρ1) (b : SDs X ρ1 body (.rt r bs)) (e : o = .rt r bs) : ForD X tg vs body o (d :: ds) ρ
  | brk {d : PyData} {ds : List PyData} {ρ ρ1 ρ2 : Rho} (h : GD X vs ρ tg d ρ1) (b : SDs X ρ1 body (.bk ρ2)) (e : o = .nx ρ2) : ForD X tg vs body o (d :: ds) ρ
theorem pg_all {X : Cx} {e : Expr} : ∃ t : TG, PG X e t ∧ ∀ t', PG X e t' → ∀ v σ H Q, t' v σ H Q → t v σ H Q :=
  ⟨fun v σ H Q => ∃ t, PG X e t ∧ t v σ H Q, ⟨fun pins s σ H v u Q I r ⟨t, h, q⟩ => h.run pins s σ H v u Q I r q⟩, fun t h v σ H Q q => ⟨t, h, q⟩⟩
section
variable {X : Cx} {ρ ρ1 ρ2 : Rho} {tg iter : Expr} {vs : List Nat} {body : List Stmt} {o : Out} {ds : List PyData} {pos : Pos}
theorem s_for (hi : ID X ρ tg iter ρ1 ds) (hf : ForD X tg vs body o ds ρ1) (hp : PassesOwn (model X.prog X.w) X.A X.env X.xe) (hc : X.calm = true) (hs : ∀ x, foldedSetIterable iter X.env x = pure x := by intro _; rfl) : SD X ρ (.For tg iter body [] pos) o := by
  obtain ⟨tg', hg, kg⟩ := pg_all (X := X) (e := tg)
  obtain ⟨tb, hb, kb⟩ := pss_all (X := X) (sts := body)
  refine (ps_for hp hc hi hg hb hs).weak fun D σ H ⟨F, S, g⟩ => ⟨F, S, fun J F1 H1 s1 o1 w => ?_⟩
  refine for_it w (fun i σ H => ∃ ρ F, Sat X.K F ρ σ H ∧ Same F1 F ∧ ForD X tg vs body o (ds.drop i) ρ ∧ Goes X.K o D ρ σ F H) ⟨ρ1, F1, s1.sat, Same.refl _, hf, g.step s1⟩ (fun i σ H _ ⟨ρ, F, S, e, _⟩ => e.trans S.sub) ?_ ?_
  · rintro i x σ H H' hi ⟨ρ, F, S, e, f, g⟩ y
    obtain ⟨F3, gr, d, hd, hx⟩ := y F e S.sub
    have st := gr.step S
    have ed : ds.drop i = d :: ds.drop (i + 1) := by
      obtain ⟨h1, h2⟩ := List.getElem?_eq_some_iff.mp hd
      rw [← h2]
      exact List.drop_eq_getElem_cons h1
    rw [ed] at f
    cases f with
    | next h b r => exact kg _ h _ _ _ _ ⟨F3, st.sat, hx, fun σ2 F4 H4 s2 _ _ => kb _ b _ _ _ ⟨F4, s2.sat, fun σ5 F5 H5 s5 => ⟨_, F5, s5.sat, ((e.trans gr.fr).trans s2.fr).trans s5.fr, r, g.step ((st.trans s2).trans s5)⟩⟩⟩
    | cont h b r => exact kg _ h _ _ _ _ ⟨F3, st.sat, hx, fun σ2 F4 H4 s2 _ _ => kb _ b _ _ _ ⟨F4, s2.sat, fun σ5 F5 H5 s5 => ⟨_, F5, s5.sat, ((e.trans gr.fr).trans s2.fr).trans s5.fr, r, g.step ((st.trans s2).trans s5)⟩⟩⟩
    | ret h b z =>
      subst z
      exact kg _ h _ _ _ _ ⟨F3, st.sat, hx, fun σ2 F4 H4 s2 _ _ => kb _ b _ _ _ ⟨F4, s2.sat, fun v ρ5 σ5 F5 H5 s5 hb hv => (g.step (st.trans s2)) v ρ5 σ5 F5 H5 s5 hb hv⟩⟩
    | brk h b z =>
      subst z
      exact kg _ h _ _ _ _ ⟨F3, st.sat, hx, fun σ2 F4 H4 s2 _ _ => kb _ b _ _ _ ⟨F4, s2.sat, fun σ5 F5 H5 s5 => g σ5 F5 H5 ((st.trans s2).trans s5)⟩⟩
  · rintro σ H ⟨ρ, F, S, e, f, g⟩
    rw [List.drop_length] at f
    cases f with
    | nil z =>
      subst z
      exact g σ F H (Step.refl S)
end
end Cl

set_option maxRecDepth 100000
namespace Cl
open PySem PySem.Spec PyProof.Rows L2
/-! ### comprehensions -/
/-- the slots vs forgotten -/
def forgetR (ρ : Rho) : List Nat → Rho
  | [] => ρ
  | v :: vs => (forgetR ρ vs).set v none
section
variable {K : PySem.W.Frag} {F F' H H' : Hp} {ρ ρ' : Rho} {σ σ' : L2.St}
theorem forgetR_len (ρ : Rho) : ∀ vs, (forgetR ρ vs).length = ρ.length
  | [] => rfl
  | v :: vs => by
    unfold forgetR
    rw [List.length_set, forgetR_len ρ vs]
theorem forgetR_out {i : Nat} : ∀ {vs : List Nat}, i ∉ vs → (forgetR ρ vs)[i]? = ρ[i]?
  | [], _ => rfl
  | v :: vs, h => by
    unfold forgetR
    rw [List.getElem?_set_ne fun z => h (by rw [z]; exact List.mem_cons_self), forgetR_out fun z => h (List.mem_cons_of_mem _ z)]
theorem forgetR_in {i : Nat} {c : Option Cell} : ∀ {vs : List Nat}, i ∈ vs → (forgetR ρ vs)[i]? = some c → c = none
  | v :: vs, h, e => by
    unfold forgetR at e
    by_cases z : v = i
    · subst z
      rw [List.getElem?_set, if_pos rfl] at e
      split at e
      · cases e
        rfl
      · cases e
    · rw [List.getElem?_set_ne z] at e
      rcases List.mem_cons.mp h with q | q
      · exact absurd q.symm z
      · exact forgetR_in q e
theorem Step.forgetS (S : Sat K F ρ σ H) : ∀ vs, Step K ρ σ F H (forgetR ρ vs) σ F H
  | [] => Step.refl S
  | v :: vs => (Step.forgetS S vs).trans (Step.forget (Step.forgetS S vs).sat)
/-- where the slots vs are forgotten, what stands in them does not matter -/
theorem Sat.slots (S : Sat K F (forgetR ρ vs) σ H) (e : Same0 vs σ σ') : Sat K F (forgetR ρ vs) σ' H := by
  have z : ∀ {i q}, Held (forgetR ρ vs) σ' i q → Held (forgetR ρ vs) σ i q := fun {i q} ⟨c, m, e1, e2, e3⟩ => by
    by_cases h : i ∈ vs
    · cases forgetR_in h e1
    · exact ⟨c, m, e1, e2, by rw [← e.2 i h]; exact e3⟩
  refine ⟨by rw [e.1]; exact S.len, S.sub, fun i c x a b => ?_, fun i j q a b => S.inj i j q (z a) (z b)⟩
  by_cases h : i ∈ vs
  · cases forgetR_in h a
    trivial
  · rw [e.2 i h] at b
    exact S.slot i c x a b
theorem own_slots (e : Same0 vs σ σ') {q : Addr} (h : Own (forgetR ρ vs) σ' q) : Own (forgetR ρ vs) σ q := by
  obtain ⟨i, c, m, e1, e2, e3⟩ := h
  by_cases h : i ∈ vs
  · cases forgetR_in h e1
  · exact ⟨i, c, m, e1, e2, by rw [← e.2 i h]; exact e3⟩
theorem Same0.symm {vs : List Nat} (e : Same0 vs σ σ') : Same0 vs σ' σ := ⟨e.1.symm, fun i h => (e.2 i h).symm⟩
theorem same0_wipe (σ : L2.St) (vs : List Nat) : Same0 vs σ (wipe σ vs) := ⟨wipe_length σ vs, fun i h => wipe_out h⟩
theorem wipe_in {i : Nat} {x : Option V} : ∀ {vs : List Nat}, i ∈ vs → (wipe σ vs)[i]? = some x → x = none
  | v :: vs, h, e => by
    unfold wipe at e
    by_cases z : v = i
    · subst z
      rw [List.getElem?_set, if_pos rfl] at e
      split at e
      · cases e
        rfl
      · cases e
    · rw [List.getElem?_set_ne z] at e
      rcases List.mem_cons.mp h with q | q
      · exact absurd q.symm z
      · exact wipe_in q e
theorem wipe_eq {vs : List Nat} (e : Same0 vs σ σ') : wipe σ' vs = wipe σ vs := by
  refine List.ext_getElem? fun i => ?_
  by_cases h : i ∈ vs
  · have l1 : (wipe σ' vs).length = (wipe σ vs).length := by rw [wipe_length, wipe_length, e.1]
    cases q1 : (wipe σ' vs)[i]? with
    | none =>
      have : (wipe σ vs)[i]? = none := by
        rw [List.getElem?_eq_none_iff] at q1 ⊢
        rw [← l1]
        exact q1
      rw [this]
    | some x =>
      cases wipe_in h q1
      cases q2 : (wipe σ vs)[i]? with
      | none =>
        have : (wipe σ' vs)[i]? = none := by
          rw [List.getElem?_eq_none_iff] at q2 ⊢
          rw [l1]
          exact q2
        rw [this] at q1
        cases q1
      | some y =>
        cases wipe_in h q2
        rfl
  · rw [wipe_out h, wipe_out h, e.2 i h]
theorem wipe_wipe (σ : L2.St) (vs : List Nat) : wipe (wipe σ vs) vs = wipe σ vs := wipe_eq (same0_wipe σ vs)
end
/-- of every block of the comprehension whose scope is sc -/
abbrev Bk (X : Cx) (sc : Scope) (φ : Cx → Prop) : Prop := ∀ (s : Shared) (H : Hp) (C : Addr) (cl : List (Str × Addr)) (fp : List Addr), φ (X.blk s H sc (compEnvC sc cl C X.env) fp)
/-- the tests of a comprehension -/
abbrev TsD (X : Cx) (ρ : Rho) (ifs : List Expr) (ρ' : Rho) (b : Bool) : Prop := PTs X ifs (tDT X.K ρ ρ' b)
theorem ts_nil {X : Cx} {ρ : Rho} : TsD X ρ [] ρ true := ⟨fun pins s σ H Q I ⟨F, S, k⟩ => pts_nil.run pins s σ H Q I (k F H (Step.refl S) own_id)⟩
theorem ts_one {X : Cx} {ρ ρ1 : Rho} {e : Expr} {b : Bool} (h : TD X ρ e ρ1 b) : TsD X ρ [e] ρ1 b := pts_one h
inductive LcD (X : Cx) (sc : Scope) (vs : List Nat) (tg : Expr) (ifs : List Expr) (elt : Expr) : List PyData → Rho → List PyData → Rho → Prop where
  | nil {ρ : Rho} : LcD X sc vs tg ifs elt [] ρ [] ρ
  | keep {d y : PyData} {ds l : List PyData} {ρ ρ1 ρ2 ρ3 ρ' : Rho} (g : Bk X sc fun B => GD B vs ρ tg d ρ1) (t : Bk X sc fun B => TsD B ρ1 ifs ρ2 true) (e : Bk X sc fun B => ED B ρ2 elt ρ3 y)
      (r : LcD X sc vs tg ifs elt ds (forgetR ρ3 vs) l ρ') : LcD X sc vs tg ifs elt (d :: ds) ρ (y :: l) ρ'
  | skip {d : PyData} {ds l : List PyData} {ρ ρ1 ρ2 ρ' : Rho} (g : Bk X sc fun B => GD B vs ρ tg d ρ1) (t : Bk X sc fun B => TsD B ρ1 ifs ρ2 false)
      (r : LcD X sc vs tg ifs elt ds (forgetR ρ2 vs) l ρ') : LcD X sc vs tg ifs elt (d :: ds) ρ l ρ'
theorem LcD.len {X : Cx} {sc : Scope} {vs : List Nat} {tg elt : Expr} {ifs : List Expr} {ds l : List PyData} {ρ ρ' : Rho} (h : LcD X sc vs tg ifs elt ds ρ l ρ') : l.length ≤ ds.length := by
  induction h with
  | nil => exact Nat.le_refl _
  | keep _ _ _ _ ih => exact Nat.succ_le_succ ih
  | skip _ _ _ ih => exact Nat.le_succ_of_le ih
theorem pts_all {X : Cx} {es : List Expr} : ∃ t : TT, PTs X es t ∧ ∀ t', PTs X es t' → ∀ σ H Q, t' σ H Q → t σ H Q :=
  ⟨fun σ H Q => ∃ t, PTs X es t ∧ t σ H Q, ⟨fun pins s σ H Q I ⟨t, h, q⟩ => h.run pins s σ H Q I q⟩, fun t h σ H Q q => ⟨t, h, q⟩⟩
section
variable {X : Cx} {sc : Scope} {vs : List Nat} {tg elt iter : Expr} {ifs : List Expr} {ds l : List PyData} {ρ ρ1 ρ' : Rho} {own : List (Str × Nat)} {pos : Pos}
/-- the reading of a comprehension's turns -/
theorem lc_goes (h : LcD X sc vs tg ifs elt ds (forgetR ρ1 vs) l ρ') (hz : ds.length ≤ 1000000) {σ : L2.St} {F H F1 H1 : Hp} (S : Sat X.K F ρ σ H) (s1 : Step X.K ρ σ F H ρ1 σ F1 H1) (o1 : ∀ q, Own ρ1 σ q → Own ρ σ q) {J : It} (w : Walk J ds.length (fun H2 => Same F1 H2) (Yd X.K F1 ds))
    {g : TG} {tt : TT} {te : TE} (kg : ∀ ρ d ρ1, (Bk X sc fun B => GD B vs ρ tg d ρ1) → ∀ v σ H Q, tG X.K vs ρ d ρ1 v σ H Q → g v σ H Q) (kt : ∀ ρ ρ1 b, (Bk X sc fun B => TsD B ρ ifs ρ1 b) → ∀ σ H Q, tDT X.K ρ ρ1 b σ H Q → tt σ H Q)
    (ke : ∀ ρ ρ1 d, (Bk X sc fun B => ED B ρ elt ρ1 d) → ∀ σ H Q, tD X.K ρ ρ1 (.dat d) σ H Q → te σ H Q) {D : Addr} (hD : H1 D = none) {Qd : Hp → Prop}
    (fin : ∀ F2 H2 xs, Step X.K ρ σ F H ρ' σ F2 H2 → (∀ q, Own ρ' σ q → Own ρ σ q) → H2 D = some (.lst xs) → F2 D = none → H D = none → DqA X.K F2 xs l → Qd H2) :
    ∃ W : Nat → Nat → Hp → Prop, (∃ m, W 0 m (upd H1 D (.lst []))) ∧ ∀ i m H, W i m H →
      (J.stop i H ∧ Qd H) ∨ (J.go i H ∧ ∃ Nx : Hp → Prop, (∀ H', Nx H' → ∃ m', m' < m ∧ W (i + 1) m' H') ∧ ∀ x H', J.yld i H x H' → g x (wipe σ vs) H' fun σ2 H2 => wipe σ2 vs = wipe σ vs ∧ tt σ2 H2 fun b H3 =>
        if b = true then te σ2 H3 fun y H4 => ∃ acc, H4 D = some (.lst acc) ∧ acc.length < sizeLine ∧ Nx (upd H4 D (.lst (acc ++ [y]))) else Nx H3) := by
  have h0 : H D = none ∧ ¬ Own ρ1 σ D := s1.fresh hD
  refine lc_it w (fun i H2 => ∃ ρi F2 done xs rest, Step X.K ρ σ F H (forgetR ρi vs) σ F2 H2 ∧ (∀ q, Own (forgetR ρi vs) σ q → Own ρ σ q) ∧ Same F1 F2 ∧ H2 D = some (.lst xs) ∧ F2 D = none ∧ DqA X.K F2 xs done ∧ l = done ++ rest ∧ done.length ≤ i ∧ LcD X sc vs tg ifs elt (ds.drop i) (forgetR ρi vs) rest ρ')
    ⟨ρ1, F1, [], [], l, ?_, ?_, Same.refl _, upd_same, s1.sat.sub.free hD, .nil, rfl, Nat.le_refl _, h⟩ (fun i H2 _ ⟨_, F2, _, _, _, st, _, e, _⟩ => e.trans st.sat.sub) ?_ ?_
  · have t := s1.trans (Step.laidM s1.sat (o := .lst []) hD)
    exact t.trans (Step.forgetS t.sat vs)
  · intro q z
    obtain ⟨i, c, m, e1, e2, e3⟩ := z
    by_cases y : i ∈ vs
    · cases forgetR_in y e1
    · rw [forgetR_out y] at e1
      exact o1 q ⟨i, c, m, e1, e2, e3⟩
  · rintro i x H2 H3 hi ⟨ρi, F2, done, xs, rest, st, oo, e, eD, fD, ha, rfl, hl, hr⟩ y
    obtain ⟨F3, gr, d, hd, hx⟩ := y F2 e st.sat.sub
    have ed : ds.drop i = d :: ds.drop (i + 1) := by
      obtain ⟨h1, h2⟩ := List.getElem?_eq_some_iff.mp hd
      rw [← h2]
      exact List.drop_eq_getElem_cons h1
    rw [ed] at hr
    have gs := gr.step st.sat
    have sw : Sat X.K F3 (forgetR ρi vs) (wipe σ vs) H3 := gs.sat.slots (same0_wipe σ vs)
    -- from a state of the block back to the outer one
    have nD : ¬ Own (forgetR ρi vs) (wipe σ vs) D := fun z => (S.ownF (oo D (own_slots (same0_wipe σ vs) z))).2 h0.1
    have dD : H3 D = some (.lst xs) := gs.keep D _ eD fun z => (S.ownF (oo D z)).2 h0.1
    have back : ∀ {ρ4 : Rho} {σ4 : L2.St} {F4 H4 : Hp}, Step X.K (forgetR ρi vs) (wipe σ vs) F3 H3 ρ4 σ4 F4 H4 → Same0 vs (wipe σ vs) σ4 → (∀ q, Own ρ4 σ4 q → Own (forgetR ρi vs) (wipe σ vs) q) →
        Step X.K ρ σ F H (forgetR ρ4 vs) σ F4 H4 ∧ (∀ q, Own (forgetR ρ4 vs) σ q → Own ρ σ q) ∧ H4 D = some (.lst xs) ∧ F4 D = none := by
      intro ρ4 σ4 F4 H4 s4 e4 o4
      have e5 : Same0 vs σ4 σ := ⟨by rw [e4.1, wipe_length], fun i h => by rw [e4.2 i h, wipe_out h]⟩
      have s5 := s4.trans (Step.forgetS s4.sat vs)
      have sat5 : Sat X.K F4 (forgetR ρ4 vs) σ H4 := s5.sat.slots e5
      have own5 : ∀ q, Own (forgetR ρ4 vs) σ q → Own (forgetR ρi vs) σ q := fun q z => by
        have z1 : Own (forgetR ρ4 vs) σ4 q := own_slots e5 z
        obtain ⟨i, c, m, a1, a2, a3⟩ := z1
        by_cases y : i ∈ vs
        · cases forgetR_in y a1
        · rw [forgetR_out y] at a1
          exact own_slots (same0_wipe σ vs) (o4 q ⟨i, c, m, a1, a2, a3⟩)
      have own6 : ∀ q, Own (forgetR ρi vs) (wipe σ vs) q → Own (forgetR ρi vs) σ q := fun q z => own_slots (same0_wipe σ vs) z
      have st5 : Step X.K (forgetR ρi vs) σ F3 H3 (forgetR ρ4 vs) σ F4 H4 :=
        ⟨s5.fr, fun q a b c => s5.new q a b fun z => c (own6 q z), fun q o a c => s5.keep q o a fun z => c (own6 q z), s5.live, sat5, fun q z => .inl (own5 q z)⟩
      refine ⟨(st.trans gs).trans st5, fun q z => oo q (own5 q z), s5.keep D _ dD nD, s5.new D ?_ (by rw [dD]; simp) nD⟩
      exact gs.new D fD (by rw [eD]; simp) fun z => (S.ownF (oo D z)).2 h0.1
    have e3 : Same F1 F3 := e.trans gr.fr
    cases hr with
    | @keep _ y1 _ l2 _ ρ1' ρ2' ρ3' _ hg ht he hrr =>
      refine kg _ _ _ hg x (wipe σ vs) H3 _ ⟨F3, sw, hx, fun σ4 F4 H4 s4 e4 o4 => ⟨(wipe_eq e4).trans (wipe_wipe σ vs), kt _ _ _ ht σ4 H4 _ ⟨F4, s4.sat, fun F5 H5 s5 o5 => iteT (ke _ _ _ he σ4 H5 _ ⟨F5, s5.sat, fun v F6 H6 s6 o6 hv => ?_⟩)⟩⟩⟩
      obtain ⟨b1, b2, b3, b4⟩ := back ((s4.trans s5).trans s6) e4 fun q z => o4 q (o5 q (o6 q z))
      have fr6 : Same F2 F6 := gr.fr.trans (((s4.trans s5).trans s6).fr)
      have nD6 : ¬ Own (forgetR ρ3' vs) σ D := fun z => (S.ownF (b2 D z)).2 h0.1
      refine ⟨xs, b3, sz1 (by rw [ha.length]; omega), ρ3', F6, done ++ [y1], xs ++ [v], l2, ?_, b2, e.trans fr6, upd_same, b4, (DqA.mono fr6 _ ha).append (.cons hv .nil), by rw [List.append_assoc]; rfl, by rw [List.length_append, List.length_singleton]; omega, hrr⟩
      refine ⟨b1.fr, b1.new, fun q o a c => ?_, fun q a => ?_, ⟨b1.sat.len, fun b u z => ?_, fun i c x a b => ?_, b1.sat.inj⟩, b1.own⟩
      · rw [upd_ne (ne_of_none a h0.1)]
        exact b1.keep q o a c
      · by_cases z : q = D
        · rw [z, upd_same]; simp
        · rw [upd_ne z]; exact b1.live q a
      · have ne : b ≠ D := fun w => by rw [w, b4] at z; cases z
        rw [upd_ne ne]
        exact b1.sat.sub _ _ z
      · have sl := b1.sat.slot i c x a b
        cases c with
        | none => trivial
        | some c =>
          cases c with
          | dat d => exact sl
          | scr ns => exact sl
          | own m =>
            obtain ⟨r, u, q1, q2, q3, q4⟩ := sl
            have ne : r ≠ D := fun w => nD6 ⟨i, _, m, a, rfl, by rw [b, q1, w]⟩
            exact ⟨r, u, q1, q2, by rw [upd_ne ne]; exact q3, q4⟩
          | bor r m =>
            obtain ⟨u, q1, q2, q3, q4⟩ := sl
            have ne : r ≠ D := fun w => nD6 ⟨i, _, m, a, rfl, by rw [b, q1, w]⟩
            exact ⟨u, q1, q2, by rw [upd_ne ne]; exact q3, q4⟩
    | skip hg ht hrr =>
      refine kg _ _ _ hg x (wipe σ vs) H3 _ ⟨F3, sw, hx, fun σ4 F4 H4 s4 e4 o4 => ⟨(wipe_eq e4).trans (wipe_wipe σ vs), kt _ _ _ ht σ4 H4 _ ⟨F4, s4.sat, fun F5 H5 s5 o5 => iteF ?_⟩⟩⟩
      obtain ⟨b1, b2, b3, b4⟩ := back (s4.trans s5) e4 fun q z => o4 q (o5 q z)
      have fr6 : Same F2 F5 := gr.fr.trans ((s4.trans s5).fr)
      exact ⟨_, F5, done, xs, rest, b1, b2, e.trans fr6, b3, b4, DqA.mono fr6 _ ha, rfl, Nat.le_succ_of_le hl, hrr⟩
  · rintro H2 ⟨ρi, F2, done, xs, rest, st, oo, e, eD, fD, ha, rfl, hl, hr⟩
    rw [List.drop_length] at hr
    cases hr
    rw [List.append_nil] at fin
    exact fin F2 H2 xs st oo eD fD h0.1 ha
def gAll (X : Cx) (sc : Scope) (tg : Expr) : TG := fun v σ H Q => ∃ t, (Bk X sc fun B => PG B tg t) ∧ t v σ H Q
def tAll (X : Cx) (sc : Scope) (ifs : List Expr) : TT := fun σ H Q => ∃ t, (Bk X sc fun B => PTs B ifs t) ∧ t σ H Q
def eAll (X : Cx) (sc : Scope) (elt : Expr) : TE := fun σ H Q => ∃ t, (Bk X sc fun B => PE B elt t) ∧ t σ H Q
/-- [elt for tg in iter if ..] -/
theorem o_lc (hc : X.calm = true) (nd : X.N.Nodup) (hi : ID X ρ tg iter ρ1 ds) (ok : BlkOk X.N X.env.scope sc own) (hv : own.map (·.2) = vs) (h : LcD X sc vs tg ifs elt ds (forgetR ρ1 vs) l ρ') (hz : ds.length ≤ 1000000)
    (hs : ∀ x, foldedSetIterable iter X.env x = pure x := by intro _; rfl) : EO X ρ (.ListComp elt [⟨tg, iter, ifs, 0⟩] sc pos) ρ' l := by
  subst hv
  refine (pe_lc (g := gAll X sc tg) (tt := tAll X sc ifs) (te := eAll X sc elt) hc nd hi ok
    (fun s H C cl fp => ⟨fun pins s σ H v u Q I r ⟨t, h, q⟩ => (h _ _ _ _ _).run pins s σ H v u Q I r q⟩) (fun s H C cl fp => ⟨fun pins s σ H Q I ⟨t, h, q⟩ => (h _ _ _ _ _).run pins s σ H Q I q⟩)
    (fun s H C cl fp => ⟨fun pins s σ H Q I ⟨t, h, q⟩ => (h _ _ _ _ _).run pins s σ H Q I q⟩) hs).weak fun σ H Q ⟨F, S, k⟩ => ⟨F, S, fun J F1 H1 s1 o1 w D hD => ?_⟩
  exact lc_goes (g := gAll X sc tg) (tt := tAll X sc ifs) (te := eAll X sc elt) h hz S s1 o1 w (fun ρ d ρ1 b v σ H Q q => ⟨_, b, q⟩) (fun ρ ρ1 b' b σ H Q q => ⟨_, b, q⟩) (fun ρ ρ1 d b σ H Q q => ⟨_, b, q⟩) hD
    fun F2 H2 xs st oo e fD hD0 ha => k (.ref D) F2 H2 st oo ⟨D, .lst xs, rfl, ⟨.inl hD0, fun z => (S.ownF (oo D z)).2 hD0⟩, fD, e, ha⟩
theorem e_lc (hc : X.calm = true) (nd : X.N.Nodup) (hi : ID X ρ tg iter ρ1 ds) (ok : BlkOk X.N X.env.scope sc own) (hv : own.map (·.2) = vs) (h : LcD X sc vs tg ifs elt ds (forgetR ρ1 vs) l ρ') (hz : ds.length ≤ 1000000)
    (hs : ∀ x, foldedSetIterable iter X.env x = pure x := by intro _; rfl) : ED X ρ (.ListComp elt [⟨tg, iter, ifs, 0⟩] sc pos) ρ' (.list l) := e_own (o_lc hc nd hi ok hv h hz hs)
/-- name = [..], the name a local, on one line -/
theorem c_setLc (n : Nat) {y : Str} {py spos : Pos} (hc : X.calm = true) (nd : X.N.Nodup) (hy : X.N[n]? = some y) (hyl : X.env.scope.names.lookup y = some .local) (hsw : swapsWith (.ListComp elt [⟨tg, iter, ifs, 0⟩] sc pos) (some (.Name y py)) spos.line X.env = pure true)
    (hi : ID X ρ tg iter ρ1 ds) (ok : BlkOk X.N X.env.scope sc own) (hv : own.map (·.2) = vs) (h : LcD X sc vs tg ifs elt ds (forgetR ρ1 vs) l ρ') (hz : ds.length ≤ 1000000) (hs : ∀ x, foldedSetIterable iter X.env x = pure x := by intro _; rfl) :
    SD X ρ (.Assign [.Name y py] (.ListComp elt [⟨tg, iter, ifs, 0⟩] sc pos) spos) (.nx (ρ'.set n (some (.own (.lst l))))) := by
  subst hv
  refine (ps_setLc (g := gAll X sc tg) (tt := tAll X sc ifs) (te := eAll X sc elt) hc nd hy hyl hsw hi ok
    (fun s H C cl fp => ⟨fun pins s σ H v u Q I r ⟨t, h, q⟩ => (h _ _ _ _ _).run pins s σ H v u Q I r q⟩) (fun s H C cl fp => ⟨fun pins s σ H Q I ⟨t, h, q⟩ => (h _ _ _ _ _).run pins s σ H Q I q⟩)
    (fun s H C cl fp => ⟨fun pins s σ H Q I ⟨t, h, q⟩ => (h _ _ _ _ _).run pins s σ H Q I q⟩) hs).weak fun D σ H ⟨F, S, k⟩ => ⟨F, S, fun J F1 H1 s1 o1 w L hD => ?_⟩
  exact lc_goes (g := gAll X sc tg) (tt := tAll X sc ifs) (te := eAll X sc elt) h hz S s1 o1 w (fun ρ d ρ1 b v σ H Q q => ⟨_, b, q⟩) (fun ρ ρ1 b' b σ H Q q => ⟨_, b, q⟩) (fun ρ ρ1 d b σ H Q q => ⟨_, b, q⟩) hD
    fun F2 H2 xs st oo e fD hD0 ha => k _ F2 H2 (st.into (n := n) (v := .ref L) (m := .lst l) ⟨L, .lst xs, rfl, ⟨.inl hD0, fun z => (S.ownF (oo L z)).2 hD0⟩, fD, e, ha⟩)
/-- the same, data from now on -/
theorem Step.fixed {K : PySem.W.Frag} {ρ ρ' : Rho} {σ σ' : L2.St} {F H F' H' : Hp} {n : Nat} {l : List PyData} (s : Step K ρ σ F H ρ' σ' F' H') (h : ρ'[n]? = some (some (.own (.lst l)))) : ∃ F2, Step K ρ σ F H (ρ'.set n (some (.dat (.list l)))) σ' F2 H' := by
  obtain ⟨p, o, e1, e2, e3, e4⟩ := s.sat.held h rfl
  cases o with
  | lst xs =>
    have s2 := s.trans (Step.forget (n := n) s.sat)
    have np : ¬ Own (ρ'.set n none) σ' p := fun ⟨i, c, m, a, b, d⟩ => by
      by_cases z : n = i
      · subst z
        rw [List.getElem?_set, if_pos rfl] at a
        split at a <;> cases a
      · rw [List.getElem?_set_ne z] at a
        exact z (s.sat.inj n i p ⟨_, _, h, rfl, e1⟩ ⟨c, m, a, b, d⟩)
    have own : H p = none ∨ Own ρ σ p := by
      rcases s.own p ⟨n, _, _, h, rfl, e1⟩ with y | y
      · exact .inr y
      · exact .inl y
    have s3 := s2.freeze own np e2 e3
    refine ⟨_, s3.fr, s3.new, s3.keep, s3.live, ⟨by rw [List.length_set]; exact s.sat.len, s3.sat.sub, fun i c x a b => ?_, fun i j q a b => ?_⟩, fun q z => ?_⟩
    · by_cases z : n = i
      · subst z
        rw [List.getElem?_set, if_pos rfl] at a
        split at a
        · cases a
          rw [e1] at b
          cases b
          exact ⟨_, rfl, .lst upd_same (DqA.mono (same_upd e2) _ e4)⟩
        · cases a
      · rw [List.getElem?_set_ne z] at a
        exact s3.sat.slot i c x (by rw [List.getElem?_set_ne z]; exact a) b
    · have t : ∀ {i q}, Held (ρ'.set n (some (.dat (.list l)))) σ' i q → Held (ρ'.set n none) σ' i q := fun {i q} ⟨c, m, a, b, d⟩ => by
        by_cases z : n = i
        · subst z
          rw [List.getElem?_set, if_pos rfl] at a
          split at a
          · cases a
            cases b
          · cases a
        · rw [List.getElem?_set_ne z] at a
          exact ⟨c, m, by rw [List.getElem?_set_ne z]; exact a, b, d⟩
      exact s3.sat.inj i j q (t a) (t b)
    · obtain ⟨i, c, m, a, b, d⟩ := z
      refine s3.own q ⟨i, c, m, ?_, b, d⟩
      by_cases z : n = i
      · subst z
        rw [List.getElem?_set, if_pos rfl] at a
        split at a
        · cases a
          cases b
        · cases a
      · rw [List.getElem?_set_ne z] at a ⊢
        exact a
  | _ => exact e4.elim
theorem s_fix (n : Nat) {st : Stmt} {ρ ρ1 : Rho} {l : List PyData} (h : SD X ρ st (.nx ρ1)) (e : ρ1[n]? = some (some (.own (.lst l)))) : SD X ρ st (.nx (ρ1.set n (some (.dat (.list l))))) :=
  h.weak fun D σ H ⟨F, S, g⟩ => ⟨F, S, fun σ' F' H' s => let ⟨F2, s2⟩ := s.fixed e; g σ' F2 H' s2⟩
theorem ss_fix (n : Nat) {sts : List Stmt} {ρ : Rho} {l : List PyData} {o : Out} (e : ρ[n]? = some (some (.own (.lst l)))) (h : SDs X (ρ.set n (some (.dat (.list l)))) sts o) : SDs X ρ sts o :=
  h.weak fun D σ H ⟨F, S, g⟩ => let ⟨F2, s2⟩ := (Step.refl S).fixed e; ⟨F2, s2.sat, g.step s2⟩
/-- y = [..], data -/
theorem s_setLc (n : Nat) {y : Str} {py spos : Pos} (hc : X.calm = true) (nd : X.N.Nodup) (hy : X.N[n]? = some y) (hyl : X.env.scope.names.lookup y = some .local) (hsw : swapsWith (.ListComp elt [⟨tg, iter, ifs, 0⟩] sc pos) (some (.Name y py)) spos.line X.env = pure true)
    (hi : ID X ρ tg iter ρ1 ds) (ok : BlkOk X.N X.env.scope sc own) (hv : own.map (·.2) = vs) (h : LcD X sc vs tg ifs elt ds (forgetR ρ1 vs) l ρ') (hz : ds.length ≤ 1000000) (hn : n < ρ'.length) (hs : ∀ x, foldedSetIterable iter X.env x = pure x := by intro _; rfl) :
    SD X ρ (.Assign [.Name y py] (.ListComp elt [⟨tg, iter, ifs, 0⟩] sc pos) spos) (.nx (ρ'.set n (some (.dat (.list l))))) := by
  have q := s_fix n (c_setLc n hc nd hy hyl hsw hi ok hv h hz hs) (l := l) (by rw [List.getElem?_set_self hn])
  rw [List.set_set] at q
  exact q
end

end Cl

set_option maxRecDepth 100000
namespace Cl
open PySem PySem.Spec PyProof.Rows L2
/-- the names at a def's entry -/
def enter (N : List Str) (cs : List Cell) : Rho := cs.map some ++ List.replicate (N.length - cs.length) none
section
variable {K : PySem.W.Frag} {F F' H H' : Hp} {cs cs' : List Cell} {vs : List V} {N : List Str} {ρ' : Rho} {σ' : L2.St} {r : Cell}
theorem enter_get {i : Nat} {c : Cell} (h : (enter N cs)[i]? = some (some c)) : cs[i]? = some c := by
  unfold enter at h
  by_cases hi : i < cs.length
  · rw [List.getElem?_append_left (by simpa using hi), List.getElem?_map] at h
    cases e : cs[i]? with
    | none => rw [e] at h; cases h
    | some a => rw [e] at h; cases h; rfl
  · rw [List.getElem?_append_right (by simpa using hi), List.getElem?_replicate] at h
    split at h <;> cases h
theorem start_get {i : Nat} {v : V} (h : (start N vs)[i]? = some (some v)) : vs[i]? = some v := by
  unfold L2.start at h
  by_cases hi : i < vs.length
  · rw [List.getElem?_append_left (by simpa using hi), List.getElem?_map] at h
    cases e : vs[i]? with
    | none => rw [e] at h; cases h
    | some a => rw [e] at h; cases h; rfl
  · rw [List.getElem?_append_right (by simpa using hi), List.getElem?_replicate] at h
    split at h <;> cases h
theorem map_get {α : Type} {xs : List α} {i : Nat} {c : α} : (xs.map some)[i]? = some (some c) ↔ xs[i]? = some c := by
  rw [List.getElem?_map]
  cases xs[i]? <;> simp
theorem start_in {i : Nat} {v : V} (h : vs[i]? = some v) : (start N vs)[i]? = some (some v) := by
  unfold L2.start
  have hi := (List.getElem?_eq_some_iff.mp h).1
  rw [List.getElem?_append_left (by simpa using hi)]
  exact map_get.mpr h
theorem enter_in {i : Nat} {c : Cell} (h : cs[i]? = some c) : (enter N cs)[i]? = some (some c) := by
  unfold enter
  have hi := (List.getElem?_eq_some_iff.mp h).1
  rw [List.getElem?_append_left (by simpa using hi)]
  exact map_get.mpr h
theorem held_enter {i : Nat} {q : Addr} : Held (enter N cs) (start N vs) i q ↔ Held (cs.map some) (vs.map some) i q :=
  ⟨fun ⟨c, m, a, b, d⟩ => ⟨c, m, map_get.mpr (enter_get a), b, map_get.mpr (start_get d)⟩, fun ⟨c, m, a, b, d⟩ => ⟨c, m, enter_in (map_get.mp a), b, start_in (map_get.mp d)⟩⟩
theorem own_enter {q : Addr} : Own (enter N cs) (start N vs) q ↔ Own (cs.map some) (vs.map some) q := ⟨fun ⟨i, h⟩ => ⟨i, held_enter.mp h⟩, fun ⟨i, h⟩ => ⟨i, held_enter.mpr h⟩⟩
theorem sat_enter (S : Sat K F (cs.map some) (vs.map some) H) : Sat K F (enter N cs) (start N vs) H := by
  have hl : vs.length = cs.length := by simpa using S.len
  refine ⟨?_, S.sub, fun i c x a b => ?_, fun i j q a b => S.inj i j q (held_enter.mp a) (held_enter.mp b)⟩
  · unfold L2.start enter
    rw [List.length_append, List.length_append, List.length_map, List.length_map, List.length_replicate, List.length_replicate, hl]
  · cases c with
    | none => trivial
    | some c =>
      have e1 := enter_get a
      have hi : i < vs.length := by
        rw [hl]
        exact (List.getElem?_eq_some_iff.mp e1).1
      have e2 : (start N vs)[i]? = some (some vs[i]) := start_in (List.getElem?_eq_getElem hi)
      rw [e2] at b
      cases b
      exact S.slot i _ _ (map_get.mpr e1) (map_get.mpr (List.getElem?_eq_getElem hi))
/-- the end of a body -/
theorem leave (S : Sat K F (cs.map some) (vs.map some) H) (st : Step K (enter N cs) (start N vs) F H ρ' σ' F' H') (hl : cs'.length = cs.length)
    (hc : ∀ (i : Nat) (c : Cell), cs'[i]? = some c → (c.mu = none ∧ cs[i]? = some c) ∨ ∃ p m m', c = .bor p m' ∧ cs[i]? = some (.bor p m) ∧ ∃ j : Nat, ρ'[j]? = some (some (.bor p m'))) :
    Step K (cs.map some) (vs.map some) F H (cs'.map some) (vs.map some) F' H' ∧ (∀ q, Own (cs'.map some) (vs.map some) q → Own (cs.map some) (vs.map some) q) ∧ ∀ q, Own (cs.map some) (vs.map some) q → Own ρ' σ' q := by
  have hv : vs.length = cs.length := by simpa using S.len
  have hld : ∀ i q, Held (cs'.map some) (vs.map some) i q → Held (cs.map some) (vs.map some) i q := fun i q ⟨c, m, a, b, d⟩ => by
    rcases hc i c (map_get.mp a) with ⟨z, _⟩ | ⟨p, m1, m2, e1, e2, _⟩
    · rw [z] at b; cases b
    · exact ⟨.bor p m1, m1, map_get.mpr e2, rfl, d⟩
  have last : ∀ {j : Nat} {p : Addr} {m : Mu}, ρ'[j]? = some (some (.bor p m)) → σ'[j]? = some (some (.ref p)) ∧ ∃ o, F' p = none ∧ H' p = some o ∧ MuOk K F' m o := fun {j p m} e => by
    obtain ⟨q, o, e1, e2, e3, e4⟩ := st.sat.held e rfl
    have hj := (List.getElem?_eq_some_iff.mp e1).1
    obtain ⟨o2, f1, f2, f3, f4⟩ := st.sat.slot j _ _ e (List.getElem?_eq_getElem hj)
    rw [List.getElem?_eq_getElem hj] at e1
    rw [f1] at e1
    cases e1
    exact ⟨by rw [List.getElem?_eq_getElem hj, f1], o2, f2, f3, f4⟩
  refine ⟨⟨st.fr, fun q a b z => st.new q a b fun y => z (own_enter.mp y), fun q o a z => st.keep q o a fun y => z (own_enter.mp y), st.live, ⟨by simp [hl, hv], st.sat.sub, fun i c x a b => ?_, fun i j q a b => S.inj i j q (hld i q a) (hld j q b)⟩, fun q ⟨i, z⟩ => .inl ⟨i, hld i q z⟩⟩, fun q ⟨i, z⟩ => ⟨i, hld i q z⟩, fun q ⟨i, c, m, a, b, d⟩ => ?_⟩
  · cases c with
    | none => trivial
    | some c =>
      rcases hc i c (map_get.mp a) with ⟨z, e⟩ | ⟨p, m1, m2, e1, e2, j, e3⟩
      · have sl := S.slot i _ _ (map_get.mpr e) b
        cases c with
        | dat d =>
          obtain ⟨v, q1, q2⟩ := sl
          exact ⟨v, q1, q2.mono st.fr⟩
        | scr ns =>
          obtain ⟨v, q1, q2⟩ := sl
          exact ⟨v, q1, st.fr.seq q2⟩
        | own m => cases z
        | bor p m => cases z
      · subst e1
        obtain ⟨_, o, f2, f3, f4⟩ := last e3
        obtain ⟨_, g1, _⟩ := S.slot i _ _ (map_get.mpr e2) b
        exact ⟨o, g1, f2, f3, f4⟩
  · have hi : i < cs'.length := by
      rw [hl]
      exact (List.getElem?_eq_some_iff.mp (map_get.mp a)).1
    rcases hc i _ (List.getElem?_eq_getElem hi) with ⟨z, e⟩ | ⟨p, m1, m2, e1, e2, j, e3⟩
    · rw [map_get.mp a] at e
      cases e
      rw [z] at b
      cases b
    · have hvs := (List.getElem?_eq_some_iff.mp d).1
      obtain ⟨_, g1, _⟩ := S.slot i _ _ (map_get.mpr e2) (List.getElem?_eq_getElem hvs)
      rw [List.getElem?_eq_getElem hvs, g1] at d
      cases d
      exact ⟨j, _, m2, e3, rfl, (last e3).1⟩
end
/-- the arguments ahead of the call and behind it -/
def Meets (cs cs' : List Cell) (bs : List (Addr × Mu)) : Prop := cs'.length = cs.length ∧ ∀ (i : Nat) (c : Cell), cs'[i]? = some c → (c.mu = none ∧ cs[i]? = some c) ∨ ∃ p m m', c = .bor p m' ∧ cs[i]? = some (.bor p m) ∧ (p, m') ∈ bs
section
variable {P : Program} {w : World} {K : PySem.W.Frag} {mg : Str → Option Value} {base : Heap} {k : Nat} {f : Addr} {fd : FuncData} {ps N : List Str} {S : Spec} {x qual : Str} {st : Stmt}
/-- THE RULE for a def -/
theorem body_ok (F : Fun K x qual st f fd) (Sc : FnScope N ps (defScope st)) (len : ∀ cs r cs', S cs r cs' → cs.length = ps.length)
    (body : ∀ (cdv : Value) (A : Around) (outer : List Env) (s : Shared) (H : Hp) (E : XK), Room k (A.deeper (envOfC qual (defScope st) s.heap.objs.size f cdv)) → A.guards = some [] → ∀ cs r cs', S cs r cs' →
      ∃ bs, SDs (cxOf CX0 P w K mg base N qual (defScope st) f cdv A outer s H E).nox (enter N cs) (defBody st) (.rt r bs) ∧ Meets cs cs' bs) : FnG P w K mg base CX0 (k + 1) f fd ps (spOf K S) := by
  have ln : ∀ vs H Q E, spOf K S vs H Q E → vs.length = ps.length := by
    rintro vs H Q E ⟨cs, r, cs', hS, F, Sa, _⟩
    have : vs.length = cs.length := by simpa using Sa.len
    rw [this]
    exact len cs r cs' hS
  refine fn_body F Sc ln fun cdv A outer s H vs Q E room grd pr => ?_
  obtain ⟨cs, r, cs', hS, Fz, Sa, kk⟩ := pr
  obtain ⟨bs, hb, hl, hc⟩ := body cdv A outer s H E room grd cs r cs' hS
  refine ⟨_, hb.nox, Fz, sat_enter Sa, ?_⟩
  intro v ρ' σ' F' H' step hbs hv
  obtain ⟨a, b, d⟩ := leave Sa step hl fun i c h => (hc i c h).imp id fun ⟨p, m, m', e1, e2, e3⟩ => ⟨p, m, m', e1, e2, hbs (p, m') e3⟩
  refine kk v F' H' a b (hv.imp fun p hp => ?_)
  rcases hp.1 with z | z
  · exact z
  · exact (hp.2 (d p (own_enter.mp z))).elim
/-- a body that comes to its end -/
theorem ss_end {X : Cx} {ρ ρ1 : Rho} {sts : List Stmt} (h : SDs X ρ sts (.nx ρ1)) : PSs X sts fun D σ H => ∃ F, Sat X.K F ρ σ H ∧ ∀ σ' F' H', Step X.K ρ σ F H ρ1 σ' F' H' → D.nx σ' H' := h
theorem dat_none {ds : List PyData} {i : Nat} {c : Cell} (h : (ds.map Cell.dat)[i]? = some c) : c.mu = none := by
  rw [List.getElem?_map] at h
  cases q : ds[i]? with
  | none => rw [q] at h; cases h
  | some d => rw [q] at h; cases h; rfl
theorem meets_dats {ds : List PyData} : Meets (ds.map .dat) (ds.map .dat) [] := ⟨rfl, fun i c h => .inl ⟨dat_none h, h⟩⟩
theorem meets_bor {q : Addr} {m m' : Mu} {ds : List PyData} : Meets (.bor q m :: ds.map .dat) (.bor q m' :: ds.map .dat) [(q, m')] := ⟨by simp, fun i c e => by
  cases i with
  | zero =>
    cases e
    exact .inr ⟨q, m, m', rfl, rfl, List.mem_singleton.mpr rfl⟩
  | succ i => exact .inl ⟨dat_none (ds := ds) (i := i) (by simpa using e), by simpa using e⟩⟩
theorem meets_scr {ns : List Int} {ds : List PyData} : Meets (.scr ns :: ds.map .dat) (.scr ns :: ds.map .dat) [] := ⟨rfl, fun i c e => by
  refine .inl ⟨?_, e⟩
  cases i with
  | zero =>
    cases e
    rfl
  | succ i => exact dat_none (ds := ds) (i := i) (by simpa using e)⟩
/-- data in, data out -/
theorem fn_pure {R : List PyData → PyData → Prop} (F : Fun K x qual st f fd) (Sc : FnScope N ps (defScope st)) (len : ∀ ds d, R ds d → ds.length = ps.length)
    (body : ∀ (cdv : Value) (A : Around) (outer : List Env) (s : Shared) (H : Hp) (E : XK), Room k (A.deeper (envOfC qual (defScope st) s.heap.objs.size f cdv)) → A.guards = some [] → ∀ ds d, R ds d →
      SDs (cxOf CX0 P w K mg base N qual (defScope st) f cdv A outer s H E).nox (enter N (ds.map .dat)) (defBody st) (.rt (.dat d) [])) : FnG P w K mg base CX0 (k + 1) f fd ps (spOf K (pureS R)) :=
  body_ok F Sc (by rintro cs r cs' ⟨ds, d, h, rfl, _⟩; rw [List.length_map]; exact len ds d h) fun cdv A outer s H E room grd cs r cs' hS => by
    obtain ⟨ds, d, h, rfl, rfl, rfl⟩ := hS
    exact ⟨_, body cdv A outer s H E room grd ds d h, meets_dats⟩
theorem fn_new {R : List PyData → List PyData → Prop} (F : Fun K x qual st f fd) (Sc : FnScope N ps (defScope st)) (len : ∀ ds d, R ds d → ds.length = ps.length)
    (body : ∀ (cdv : Value) (A : Around) (outer : List Env) (s : Shared) (H : Hp) (E : XK), Room k (A.deeper (envOfC qual (defScope st) s.heap.objs.size f cdv)) → A.guards = some [] → ∀ ds l, R ds l →
      SDs (cxOf CX0 P w K mg base N qual (defScope st) f cdv A outer s H E).nox (enter N (ds.map .dat)) (defBody st) (.rt (.own (.lst l)) [])) : FnG P w K mg base CX0 (k + 1) f fd ps (spOf K (newS R)) :=
  body_ok F Sc (by rintro cs r cs' ⟨ds, d, h, rfl, _⟩; rw [List.length_map]; exact len ds d h) fun cdv A outer s H E room grd cs r cs' hS => by
    obtain ⟨ds, d, h, rfl, rfl, rfl⟩ := hS
    exact ⟨_, body cdv A outer s H E room grd ds d h, meets_dats⟩
theorem fn_pot {R : List PyData → List PyData → List PyData → PyData → Prop} (F : Fun K x qual st f fd) (Sc : FnScope N ps (defScope st)) (len : ∀ m ds m' d, R m ds m' d → ds.length + 1 = ps.length)
    (body : ∀ (cdv : Value) (A : Around) (outer : List Env) (s : Shared) (H : Hp) (E : XK), Room k (A.deeper (envOfC qual (defScope st) s.heap.objs.size f cdv)) → A.guards = some [] → ∀ p m ds m' d, R m ds m' d →
      SDs (cxOf CX0 P w K mg base N qual (defScope st) f cdv A outer s H E).nox (enter N (.bor p (.lst m) :: ds.map .dat)) (defBody st) (.rt (.dat d) [(p, .lst m')])) : FnG P w K mg base CX0 (k + 1) f fd ps (spOf K (potS R)) :=
  body_ok F Sc (by rintro cs r cs' ⟨p, m, ds, m', d, h, rfl, _⟩; rw [List.length_cons, List.length_map]; exact len _ _ _ _ h) fun cdv A outer s H E room grd cs r cs' hS => by
    obtain ⟨p, m, ds, m', d, h, rfl, rfl, rfl⟩ := hS
    exact ⟨_, body cdv A outer s H E room grd p m ds m' d h, meets_bor⟩
theorem fn_scr {R : List Int → List PyData → Cell → Prop} (F : Fun K x qual st f fd) (Sc : FnScope N ps (defScope st)) (len : ∀ ns ds r, R ns ds r → ds.length + 1 = ps.length)
    (body : ∀ (cdv : Value) (A : Around) (outer : List Env) (s : Shared) (H : Hp) (E : XK), Room k (A.deeper (envOfC qual (defScope st) s.heap.objs.size f cdv)) → A.guards = some [] → ∀ ns ds r, R ns ds r →
      SDs (cxOf CX0 P w K mg base N qual (defScope st) f cdv A outer s H E).nox (enter N (.scr ns :: ds.map .dat)) (defBody st) (.rt r [])) : FnG P w K mg base CX0 (k + 1) f fd ps (spOf K (scrS R)) :=
  body_ok F Sc (by rintro cs r cs' ⟨ns, ds, h, rfl, _⟩; rw [List.length_cons, List.length_map]; exact len _ _ _ h) fun cdv A outer s H E room grd cs r cs' hS => by
    obtain ⟨ns, ds, h, rfl, rfl⟩ := hS
    exact ⟨_, body cdv A outer s H E room grd ns ds r h, meets_scr⟩
end
end Cl

set_option maxRecDepth 100000
namespace Cl
open PySem PySem.Spec PyProof.Rows L2
/-! ### the law's own end -/
/-- what the law promises: of every script the answer True -/
def lawS (n : Nat) : Spec := scrS fun ns ds r => ds = [] ∧ ns.length ≤ n ∧ r = .dat (.bool true)
theorem guards_caller : callerA.guards = some [] := rfl
section
variable {P : Program} {w : World} {K : PySem.W.Frag} {mg mb : Str → Option Value} {k n : Nat} {fa a : Addr} {fd : FuncData} {x : Str} {s1 : Shared} {vs : List Value} {ns : List Int}
/-- from an abstract heap that knows the script at most -/
theorem law_core (H : Hp) (at_a : ∀ b, H b ≠ none → b = a) (froz : ∀ b u, H b = some u → ∃ ob xs, u = .frz ob (.lst xs)) (notK : H a ≠ none → K.lookup a = none) (seen : SqL K H a (ns.map V.int)) (hok : HOk P w H s1.heap)
    (KX : K.In s1.heap) (glob : s1.heap.Ns mainGlobals mg) (blt : s1.heap.Ns builtinsNs mb) (bl2 : ∀ y : Str, y ≠ "__name__" → mb y = bootBuiltins y) (nlim : s1.heap.NoLimit) (ngen : s1.gens = #[]) (obj : s1.heap.get? a = some { cls := .type "list", data := .seq vs.toArray })
    (few : ns.length ≤ n) (room : Room k callerA) (law : ∀ base : Heap, K.In base → base.Ns mainGlobals mg → FnG P w K mg base CX0 k fa fd [x] (spOf K (lawS n))) (bnd : ∀ (s : Shared) (u : Value), BindsTo s fd ⟨[u], []⟩ [(x, u)]) :
    codeAny (model P w) callerA (.call (.ref fa) ⟨[.ref a], []⟩) (fun r s' => r = .ok (.ret (.bool true)) ∧ OldK s1.heap s'.heap ∧ s'.os = s1.os ∧ AllBare s'.gens) s1 := by
  have dicts : ∀ {b : Addr} {o : Obj} {es : Array DictEntry} {ep : Nat}, s1.heap.get? b = some o → o.data = .dict es ep → H b = none := by
    intro b o es ep e d
    by_cases z : H b = none
    · exact z
    · have eb := at_a b z
      rw [eb, obj] at e
      injection e with e
      rw [← e] at d
      injection d
  have nss : ∀ {b : Addr} {m : Str → Option Value}, s1.heap.Ns b m → (hidT s1.heap H).Ns b m := by
    rintro b m ⟨o, es, ep, e, d, r⟩
    exact ⟨o, es, ep, hidT_get e (dicts e d), d, r⟩
  have kin : K.In (hidT s1.heap H) := by
    intro b o e
    refine hidT_get (KX b o e) ?_
    by_cases z : H b = none
    · exact z
    · have eb := at_a b z
      subst eb
      rw [notK z] at e
      cases e
  have lim2 : (hidT s1.heap H).NoLimit := by
    obtain ⟨mc, l1, l2⟩ := nlim
    exact ⟨mc, nss l1, l2⟩
  have env : Env0 P w K mg (hidT s1.heap H) callerA [] s1 H :=
    { frames := rfl, mod := ⟨kin, nss glob, ⟨mb, nss blt, bl2⟩, lim2⟩, bs := fun b o e => of_hidT e, bsz := Nat.le_of_eq (hidT_size _ _), funs := trivial, frf := (fun b hb => nomatch hb), hok := hok, bare := .of_eq ngen }
  have pr : spOf K (lawS n) [.ref a] H (fun v _ => v = .bl true) E0 := by
    refine ⟨[.scr ns], .dat (.bool true), [.scr ns], ⟨ns, [], ⟨rfl, few, rfl⟩, rfl, rfl⟩, H, ⟨rfl, Same.refl H, ?_, ?_⟩, ?_⟩
    · intro i c y e1 e2
      cases i with
      | zero =>
        cases e1
        cases e2
        exact ⟨a, rfl, seen⟩
      | succ i => cases e1
    · rintro i j q ⟨c, m, e1, e2, _⟩ _
      cases i with
      | zero =>
        cases e1
        cases e2
      | succ i => cases e1
    · intro v F' H' _ _ hv
      cases hv
      rfl
  have run := (law _ kin (nss glob)).run callerA [] s1 H ⟨[.ref a], []⟩ [.ref a] [.ref a] _ E0 room guards_caller env (bnd s1 (.ref a)) (.cons rfl .nil) pr
  refine codeAny_mono run ?_
  intro r s' h
  match r, h with
  | .ok (.ret u), h =>
    obtain ⟨v, H', os, bare, un, hok', rel, q⟩ := h
    have q2 : v = .bl true := q
    subst q2
    have eu : u = Value.bool true := rel
    subst eu
    refine ⟨rfl, OldK.of_keep ?_, os, bare⟩
    intro b o e
    cases z : H b with
    | none => exact un.keep b o e z (by intro y; cases y) (by intro y; cases y)
    | some u =>
      obtain ⟨ob, xs, rfl⟩ := froz b u z
      have z2 := un.frzs b ob _ z
      have o1 := (hok b _ z).1
      have o2 := (hok' b _ z2).1
      rw [e] at o1
      cases o1
      exact o2
theorem law_end (KX : K.In s1.heap) (glob : s1.heap.Ns mainGlobals mg) (blt : s1.heap.Ns builtinsNs mb) (bl2 : ∀ y : Str, y ≠ "__name__" → mb y = bootBuiltins y) (nlim : s1.heap.NoLimit) (ngen : s1.gens = #[]) (obj : s1.heap.get? a = some { cls := .type "list", data := .seq vs.toArray }) (hnts : IntsAre vs ns)
    (few : ns.length ≤ n) (hn : n ≤ sizeLine) (room : Room k callerA) (law : ∀ base : Heap, K.In base → base.Ns mainGlobals mg → FnG P w K mg base CX0 k fa fd [x] (spOf K (lawS n))) (bnd : ∀ (s : Shared) (u : Value), BindsTo s fd ⟨[u], []⟩ [(x, u)]) :
    codeAny (model P w) callerA (.call (.ref fa) ⟨[.ref a], []⟩) (fun r s' => r = .ok (.ret (.bool true)) ∧ OldK s1.heap s'.heap ∧ s'.os = s1.os ∧ AllBare s'.gens) s1 := by
  have rv := vals_ints hnts
  have lv := hnts.length
  have few2 : ns.length ≤ sizeLine := Nat.le_trans few hn
  by_cases hk : K.lookup a = none
  · have ea : (fun b => if b = a then some (HO.frz { cls := .type "list", data := .seq vs.toArray } (.lst (ns.map V.int))) else none) a = some (HO.frz { cls := .type "list", data := .seq vs.toArray } (.lst (ns.map V.int))) := if_pos rfl
    refine law_core (fun b => if b = a then some (.frz { cls := .type "list", data := .seq vs.toArray } (.lst (ns.map V.int))) else none) ?_ ?_ (fun _ => hk) (.inl (.inr ⟨_, ea⟩)) ?_ KX glob blt bl2 nlim ngen obj few room law bnd
    · intro b h
      by_cases e : b = a
      · exact e
      · exact absurd (if_neg e) h
    · intro b u h
      by_cases e : b = a
      · have h2 : (if b = a then some (HO.frz { cls := .type "list", data := .seq vs.toArray } (.lst (ns.map V.int))) else none) = some u := h
        rw [if_pos e] at h2
        cases h2
        exact ⟨_, _, rfl⟩
      · have h2 : (if b = a then some (HO.frz { cls := .type "list", data := .seq vs.toArray } (.lst (ns.map V.int))) else none) = some u := h
        rw [if_neg e] at h2
        cases h2
    · intro b u h
      have h2 : (if b = a then some (HO.frz { cls := .type "list", data := .seq vs.toArray } (.lst (ns.map V.int))) else none) = some u := h
      by_cases e : b = a
      · rw [if_pos e] at h2
        cases h2
        subst e
        exact ⟨obj, by rw [List.length_map]; exact few2, vs, _, rv, obj⟩
      · rw [if_neg e] at h2
        cases h2
  · obtain ⟨o, ho⟩ := Option.ne_none_iff_exists'.mp hk
    have e := KX a o ho
    rw [obj] at e
    cases e
    refine law_core (fun _ => none) (fun b h => absurd rfl h) (fun b u h => by cases h) (fun h => absurd rfl h) (.inr ⟨_, vs.toArray, _, ho, rfl, rfl, rfl, ?_, ?_⟩) (fun b u h => by cases h) KX glob blt bl2 nlim ngen obj few room law bnd
    · rw [List.size_toArray, lv]
      exact few2
    · simpa using rv
end
/-- the goal that the head leaves -/
theorem walk_end {l : PySem.W.OpenLaw} {n k : Nat} {q : Program} {loose : List Str} {XP : (Str → Option Value) → Heap → Prop} {YP : World → Heap → Prop} {d : DefRec} {K : Params → PySem.W.Frag} {x : Str} (most : l.most = some n) (hn : n ≤ sizeLine) (nodef : d.params.defaults = []) (room : Room k callerA)
    (kin : ∀ (w : World) (h : Heap), YP w h → (K w.params).In h)
    (defs : ∀ (w : World) (mg : Str → Option Value) (fa : Addr) (h : Heap), (K w.params).In h → h.Ns mainGlobals mg → mg d.name = some (.ref fa) →
      ∃ fd : FuncData, (∀ (s : Shared) (u : Value), BindsTo s fd ⟨[u], []⟩ [(x, u)]) ∧ ∀ base : Heap, (K w.params).In base → base.Ns mainGlobals mg → FnG l.prog w (K w.params) mg base CX0 k fa fd [x] (spOf (K w.params) (lawS n))) :
    PySem.W.WalkO q loose XP YP l.row.toRowW d [] (fun f vs => PySem.call f vs) := by
  apply Att.attach_call most nodef
  intro w s0 s1 mg mb fa o pm cd doc a vs ns G Y _ _ _ hmg obj hnts few ngen
  obtain ⟨fd, bnd, law⟩ := defs w mg fa _ (kin w _ Y) G.T.g hmg
  exact law_end (kin w _ Y) G.T.g G.T.b G.T.builtins G.T.nolimit ngen obj hnts few hn room law bnd
end Cl

set_option maxRecDepth 100000
namespace Cl
open PySem PySem.Spec PyProof.Rows L2
section
variable {X : Cx} {ρ ρ1 ρ2 : Rho} {e : Expr} {d : PyData} {pos p p1 p2 p3 p4 : Pos} {x : Str} {ds : List PyData}
/-- a constant of the module -/
def Konst (K : PySem.W.Frag) (mg : Str → Option Value) (x : Str) (d : PyData) : Prop := ∃ v u, mg x = some u ∧ RelV v u ∧ ∀ F, Dq K F v d
theorem e_const (h : Konst X.K X.mg x d) (hg : Gl X x) (hd : (x == ("__debug__" : Str)) = false := by decide) : ED X ρ (.Name x pos) ρ d := by
  obtain ⟨v, u, h1, h2, h3⟩ := h
  exact e_c (pe_glob hg h1 h2 hd) h3
theorem e_lenS (n : Nat) {ns : List Int} (hg : Gl X "len") (hm : X.mg "len" = none) (h : ρ[n]? = some (some (.scr ns))) (hN : X.N[n]? = some x) (hv : Vis X.env.scope x) (hd : (x == ("__debug__" : Str)) = false := by decide) (hcd : (x == ("__classdict__" : Str)) = false := by decide)
    (he : starEach [.Name x p2] X.env = (false, eval (.Name x p2) X.env) :: starEach [] X.env := by rfl) (hpl : (backTo pos (starEach [] X.env)).any (·.1) = false := by rfl) : ED X ρ (.Call (.Name "len" p) [.Name x p2] [] pos) ρ (.int ns.length) :=
  (pe_callB call_len hg hm PySem.boot_len (pa_cons (pe_var hN hv hd hcd) pa_nil he) (by decide) (by decide) he hpl).weak fun σ H Q ⟨F, S, k⟩ => by
    obtain ⟨q, e1, e2⟩ := S.scr h
    exact ⟨_, e1, _, ns.length, rfl, .inl ⟨_, S.sub.seq e2, by rw [List.length_map]⟩, k _ F H (Step.refl S) own_id (.int _)⟩
/-- isinstance of data -/
def tyName : PyData → String
  | .none => "NoneType"
  | .bool _ => "bool"
  | .int _ => "int"
  | .str _ => "str"
  | .list _ => "list"
  | .tuple _ => "tuple"
  | .dict _ => "dict"
def isName (d : PyData) (c : String) : Bool := tyName d == c || (tyName d == "bool" && c == "int")
theorem dq_ty {K : PySem.W.Frag} {F H : Hp} {v : V} (h : Dq K F v d) (s : Same F H) : TyX K H v (.type (tyName d)) := by
  cases h with
  | non => exact .base .non
  | bl b => exact .base (.bl b)
  | int i => exact .base (.int i)
  | str x => exact .base (.str x)
  | lst hs ha => exact .base (.lst (s _ _ hs))
  | tup hs ha =>
    rcases hs with (h | ⟨o, h⟩) | ⟨o, its, n, h1, h2, _⟩
    · exact .base (.tup (s _ _ h))
    · exact .fTuple (s _ _ h)
    · exact .kTuple h1 h2
  | dct hs => exact .base (.dK (s _ _ hs))
theorem kit_int : kitB (tyName d) "int" = some (isName d "int") := by cases d <;> (simp only [tyName, isName]; decide +kernel)
theorem kit_bool : kitB (tyName d) "bool" = some (isName d "bool") := by cases d <;> (simp only [tyName, isName]; decide +kernel)
theorem kit_str : kitB (tyName d) "str" = some (isName d "str") := by cases d <;> (simp only [tyName, isName]; decide +kernel)
theorem kit_list : kitB (tyName d) "list" = some (isName d "list") := by cases d <;> (simp only [tyName, isName]; decide +kernel)
theorem kit_tuple : kitB (tyName d) "tuple" = some (isName d "tuple") := by cases d <;> (simp only [tyName, isName]; decide +kernel)
theorem kit_dict : kitB (tyName d) "dict" = some (isName d "dict") := by cases d <;> (simp only [tyName, isName]; decide +kernel)
theorem e_isi1 {c : String} (hg : Gl X "isinstance") (hm : X.mg "isinstance" = none) (hc : PE X (.Name c p2) (tC (.ty c))) (hk : kitB (tyName d) c = some (isName d c)) (h : ED X ρ e ρ1 d)
    (he : starEach [e, .Name c p2] X.env = (false, eval e X.env) :: starEach [.Name c p2] X.env := by rfl) (he2 : starEach [.Name c p2] X.env = (false, eval (.Name c p2) X.env) :: starEach [] X.env := by rfl) (hpl : (backTo pos (starEach [.Name c p2] X.env)).any (·.1) = false := by rfl) :
    ED X ρ (.Call (.Name "isinstance" p) [e, .Name c p2] [] pos) ρ1 (.bool (isName d c)) :=
  (pe_callB call_isi hg hm (by decide +kernel) (pa_cons h (pa_cons hc pa_nil he2) he) (by decide) (by decide) he hpl).weak fun σ H Q ⟨F, S, k⟩ => ⟨F, S, fun v F1 H1 s1 o1 hv =>
    ⟨v, .ty c, .type (tyName d), .type c, isName d c, rfl, .ty c, dq_ty hv s1.sat.sub, kit_ty hk, k _ F1 H1 s1 o1 (.bl _)⟩⟩
theorem e_isi2 {c c2 : String} {kk : Nat} (hg : Gl X "isinstance") (hm : X.mg "isinstance" = none) (hc : PE X (.Name c p2) (tC (.ty c))) (hc2 : PE X (.Name c2 p3) (tC (.ty c2))) (hk : kitB (tyName d) c = some (isName d c)) (hk2 : kitB (tyName d) c2 = some (isName d c2)) (h : ED X ρ e ρ1 d)
    (he : starEach [e, .Tuple [.Name c p2, .Name c2 p3] kk p4] X.env = (false, eval e X.env) :: starEach [.Tuple [.Name c p2, .Name c2 p3] kk p4] X.env := by rfl)
    (he2 : starEach [.Tuple [.Name c p2, .Name c2 p3] kk p4] X.env = (false, eval (.Tuple [.Name c p2, .Name c2 p3] kk p4) X.env) :: starEach [] X.env := by rfl) (he3 : starEach [.Name c p2, .Name c2 p3] X.env = (false, eval (.Name c p2) X.env) :: starEach [.Name c2 p3] X.env := by rfl)
    (he4 : starEach [.Name c2 p3] X.env = (false, eval (.Name c2 p3) X.env) :: starEach [] X.env := by rfl)
    (hpl : (backTo pos (starEach [.Tuple [.Name c p2, .Name c2 p3] kk p4] X.env)).any (·.1) = false := by rfl) :
    ED X ρ (.Call (.Name "isinstance" p) [e, .Tuple [.Name c p2, .Name c2 p3] kk p4] [] pos) ρ1 (.bool (isName d c || isName d c2)) :=
  (pe_callB call_isiT hg hm (by decide +kernel) (pa_cons h (pa_cons (pe_tup (pa_cons hc (pa_cons hc2 pa_nil he4) he3)) pa_nil he2) he) (by decide) (by decide) he hpl).weak fun σ H Q ⟨F, S, k⟩ => ⟨F, S, fun v F1 H1 s1 o1 hv =>
    ⟨Nat.le_of_ble_eq_true rfl, fun q hq => by
      have st := Step.laidM s1.sat (o := .tup [.ty c, .ty c2]) hq
      refine ⟨v, q, [.ty c, .ty c2], .type (tyName d), [.type c, .type c2], isName d c || isName d c2, rfl, upd_same, .cons (.ty c) (.cons (.ty c2) .nil), dq_ty hv st.sat.sub, ?_, k _ F1 _ (s1.trans st) o1 (.bl _)⟩
      refine kitAny_cons (kit_ty hk) (fun h => ?_) (fun h => by rw [h]; rfl)
      refine kitAny_cons (kit_ty hk2) (fun h2 => ?_) (fun h2 => by rw [h2, Bool.or_true])
      rw [h, h2]
      exact kitAny_nil⟩⟩
/-- repr -/
structure Showy (d : PyData) : Prop where
  able : d.showable = true
  nodict : d.hasDict = false
  depth : d.depth ≤ 60
  size : d.shown.length ≤ sizeLine
theorem f_reprL (hg : X.A.guards = some []) (hu : X.A.units + 64 < cLine) (h : Showy (.list ds)) : CallD X (.builtin "repr") [.list ds] (.str (PyData.list ds).shown) := ⟨_, cr_repr hg hu, fun F H vs Q s hv k => by
  cases hv with
  | cons h1 t =>
    cases h1 with
    | lst hs ha =>
      cases t
      exact ⟨_, _, rfl, .lst (s _ _ hs) (DqA.mono s _ ha), h.able, h.nodict, h.depth, h.size, k _ F H (Grow.refl s) (.str _)⟩⟩
theorem f_reprT (hg : X.A.guards = some []) (hu : X.A.units + 64 < cLine) (h : Showy (.tuple ds)) : CallD X (.builtin "repr") [.tuple ds] (.str (PyData.tuple ds).shown) := ⟨_, cr_repr hg hu, fun F H vs Q s hv k => by
  cases hv with
  | cons h1 t =>
    cases h1 with
    | tup hs ha =>
      cases t
      exact ⟨_, _, rfl, .tup (sqT_same s hs) (DqA.mono s _ ha), h.able, h.nodict, h.depth, h.size, k _ F H (Grow.refl s) (.str _)⟩⟩
end
end Cl
namespace Cl
open PySem PySem.Spec PyProof.Rows L2
section
variable {X : Cx} {ρ ρ1 ρ2 : Rho} {c a b : Expr} {d1 d2 : PyData} {pos : Pos} {u : Bool} {i j : Int}
theorem e_ite (hc : TD X ρ c ρ1 u) (ha : u = true → ED X ρ1 a ρ2 d1) (hb : u = false → ED X ρ1 b ρ2 d2) : ED X ρ (.IfExp c a b pos) ρ2 (if u = true then d1 else d2) :=
  e_if hc (fun h => by rw [if_pos h]; exact ha h) fun h => by rw [if_neg (by rw [h]; exact Bool.false_ne_true)]; exact hb h
theorem e_iteI (hc : TD X ρ c ρ1 u) (ha : u = true → ED X ρ1 a ρ2 (.int i)) (hb : u = false → ED X ρ1 b ρ2 (.int j)) : ED X ρ (.IfExp c a b pos) ρ2 (.int (if u = true then i else j)) :=
  e_if hc (fun h => by rw [if_pos h]; exact ha h) fun h => by rw [if_neg (by rw [h]; exact Bool.false_ne_true)]; exact hb h
end
end Cl

set_option maxRecDepth 100000
namespace Cl
open PySem PySem.Spec PyProof.Rows L2
/-! ### what can be shown -/
mutual
def nod : PyData → Nat
  | .list xs => 1 + nodA xs
  | .tuple xs => 1 + nodA xs
  | .none => 1
  | .bool _ => 1
  | .int _ => 1
  | .str _ => 1
  | .dict _ => 1
def nodA : List PyData → Nat
  | [] => 0
  | x :: xs => nod x + nodA xs
end
def okD : Nat → PyData → Prop
  | _, .none => True
  | _, .bool _ => True
  | _, .int i => i.natAbs.log2 < 1920
  | _, .str x => (reprText x).length ≤ 1900
  | n + 1, .list xs => ∀ x ∈ xs, okD n x
  | n + 1, .tuple xs => ∀ x ∈ xs, okD n x
  | _, _ => False
structure OkS (n : Nat) (d : PyData) : Prop where
  able : d.showable = true
  nodict : d.hasDict = false
  depth : d.depth ≤ n
  size : d.shown.length + 10 ≤ 2000 * nod d
theorem okAll {n : Nat} (ih : ∀ d, okD n d → OkS n d) : ∀ xs : List PyData, (∀ x ∈ xs, okD n x) → PyData.showableAll xs = true ∧ PyData.hasDictAll xs = false ∧ PyData.depthAll xs ≤ n ∧ piled (PyData.shownAll xs) ≤ 2000 * nodA xs
  | [], _ => ⟨by simp [PyData.showableAll], by simp [PyData.hasDictAll], by simp [PyData.depthAll], by simp [PyData.shownAll, piled]⟩
  | x :: xs, h => by
    have a := ih x (h x List.mem_cons_self)
    obtain ⟨b1, b2, b3, b4⟩ := okAll ih xs fun y hy => h y (List.mem_cons_of_mem _ hy)
    have s := a.size
    have dp := a.depth
    refine ⟨by simp [PyData.showableAll, a.able, b1], by simp [PyData.hasDictAll, a.nodict, b2], ?_, ?_⟩
    · simp only [PyData.depthAll]
      omega
    · simp only [PyData.shownAll, piled_cons, nodA]
      omega
theorem join_le (ts : List Str) : (Str.join ", " ts).length ≤ piled ts := by
  cases ts with
  | nil => exact Nat.zero_le _
  | cons t r =>
    have := join_length_add (t :: r) (by simp)
    omega
theorem strLen_lit {s : String} {n : Nat} (h : (Str.ofString s).length = n) : (Str.ofString s).length = n := h
theorem okS : ∀ (n : Nat) (d : PyData), okD n d → OkS n d
  | n, .none, _ => ⟨by simp [PyData.showable], by simp [PyData.hasDict], by simp [PyData.depth], by rw [PyData.shown_none]; show (4 : Nat) + 10 ≤ 2000 * nod .none; simp [nod]⟩
  | n, .bool b, _ => ⟨by simp [PyData.showable], by simp [PyData.hasDict], by simp [PyData.depth], by
    rw [PyData.shown_bool]
    cases b
    · show (5 : Nat) + 10 ≤ 2000 * nod _; simp [nod]
    · show (4 : Nat) + 10 ≤ 2000 * nod _; simp [nod]⟩
  | n, .int i, h => by
    have h : i.natAbs.log2 < 1920 := by
      cases n <;> exact h
    refine ⟨by simp [PyData.showable, h], by simp [PyData.hasDict], by simp [PyData.depth], ?_⟩
    rw [PyData.shown_int]
    have := int_text_len_1921 h
    have e : nod (.int i) = 1 := by simp [nod]
    rw [e]
    exact Nat.le_trans (Nat.add_le_add_right this 10) (by decide)
  | n, .str x, h => by
    have h : (reprText x).length ≤ 1900 := by
      cases n <;> exact h
    refine ⟨by simp [PyData.showable], by simp [PyData.hasDict], by simp [PyData.depth], ?_⟩
    rw [PyData.shown_str]
    have e : nod (.str x) = 1 := by simp [nod]
    rw [e]
    omega
  | n + 1, .list xs, h => by
    obtain ⟨b1, b2, b3, b4⟩ := okAll (okS n) xs h
    refine ⟨by simp [PyData.showable, b1], by simp [PyData.hasDict, b2], by simp only [PyData.depth]; omega, ?_⟩
    rw [PyData.shown_list, strLen_append, strLen_append]
    have j := join_le (PyData.shownAll xs)
    have e1 : (Str.ofString "[").length = 1 := by decide
    have e2 : (Str.ofString "]").length = 1 := by decide
    have e : nod (.list xs) = 1 + nodA xs := by simp [nod]
    rw [e, e1, e2]
    omega
  | n + 1, .tuple xs, h => by
    obtain ⟨b1, b2, b3, b4⟩ := okAll (okS n) xs h
    refine ⟨by simp [PyData.showable, b1], by simp [PyData.hasDict, b2], by simp only [PyData.depth]; omega, ?_⟩
    rw [PyData.shown_tuple, strLen_append, strLen_append]
    have j := join_le (PyData.shownAll xs)
    have e1 : (Str.ofString "(").length = 1 := by decide
    have e2 : (Str.ofString (if (xs.length == 1) = true then ",)" else ")")).length ≤ 2 := by
      split
      · decide
      · decide
    have e : nod (.tuple xs) = 1 + nodA xs := by simp [nod]
    rw [e, e1]
    omega
  | 0, .list _, h => h.elim
  | 0, .tuple _, h => h.elim
  | 0, .dict _, h => h.elim
  | n + 1, .dict _, h => h.elim
theorem showy {n : Nat} {d : PyData} (h : okD n d) (hn : n ≤ 60) (hz : nod d ≤ 8000) : Showy d := by
  have a := okS n d h
  refine ⟨a.able, a.nodict, Nat.le_trans a.depth hn, Nat.le_trans (Nat.le_trans (Nat.le_add_right _ 10) a.size) ?_⟩
  have : sizeLine = 16777216 := sizeLine_eq
  omega
def Bits (n : Nat) (i : Int) : Prop := i.natAbs < 2 ^ n
theorem log2_small {i : Int} (h : Bits 1900 i) : i.natAbs.log2 < 1920 := by
  have := PySem.Flt.log2_lt_of (k := 1900) (by decide) h
  omega

/-! ### fractions -/
abbrev Fr := Int × Int
def fr (p : Fr) : PyData := .tuple [.int p.1, .int p.2]
/-- a divided by b, in lowest terms -/
def mk (a b : Int) : Fr := (a.fdiv (if b < 0 then 0 - (Nat.gcd a.natAbs b.natAbs : Int) else (Nat.gcd a.natAbs b.natAbs : Int)), b.fdiv (if b < 0 then 0 - (Nat.gcd a.natAbs b.natAbs : Int) else (Nat.gcd a.natAbs b.natAbs : Int)))
def Bd (m : Nat) (p : Fr) : Prop := Bits m p.1 ∧ Bits m p.2
def Low (p : Fr) : Prop := 1 ≤ p.2 ∧ Nat.gcd p.1.natAbs p.2.natAbs = 1
def gi (a b : Int) : Int := (Nat.gcd a.natAbs b.natAbs : Nat)
theorem gi_pos {a b : Int} (h : b ≠ 0) : 0 < gi a b := by
  have : 0 < Nat.gcd a.natAbs b.natAbs := Nat.gcd_pos_of_pos_right _ (Int.natAbs_pos.mpr h)
  unfold gi
  omega
theorem gi_dvd1 (a b : Int) : gi a b ∣ a := Int.ofNat_dvd_left.mpr (Nat.gcd_dvd_left _ _)
theorem gi_dvd2 (a b : Int) : gi a b ∣ b := Int.ofNat_dvd_left.mpr (Nat.gcd_dvd_right _ _)
theorem fdiv_neg_of_dvd {a g : Int} (h : g ∣ a) (hg : 0 < g) : a.fdiv (0 - g) = (0 - a).fdiv g := by
  obtain ⟨c, rfl⟩ := h
  have e1 : g * c = (0 - g) * (-c) := by
    rw [Int.zero_sub, Int.neg_mul_neg]
  have e2 : 0 - g * c = g * (-c) := by rw [Int.mul_neg]; omega
  rw [e2, Int.mul_fdiv_cancel_left _ (by omega)]
  rw [e1, Int.mul_fdiv_cancel_left _ (by omega)]
theorem mk_neg {a b : Int} (h : b < 0) : mk a b = ((0 - a).fdiv (gi a b), (0 - b).fdiv (gi a b)) := by
  have hg := gi_pos (a := a) (b := b) (by omega)
  show (a.fdiv (if b < 0 then 0 - gi a b else gi a b), b.fdiv (if b < 0 then 0 - gi a b else gi a b)) = _
  rw [if_pos h, fdiv_neg_of_dvd (gi_dvd1 a b) hg, fdiv_neg_of_dvd (gi_dvd2 a b) hg]
theorem mk_pos {a b : Int} (h : ¬ b < 0) : mk a b = (a.fdiv (gi a b), b.fdiv (gi a b)) := by
  show (a.fdiv (if b < 0 then 0 - gi a b else gi a b), b.fdiv (if b < 0 then 0 - gi a b else gi a b)) = _
  rw [if_neg h]
theorem fdiv_abs {a g : Int} (h : g ∣ a) (hg : 0 < g) : (a.fdiv g).natAbs = a.natAbs / g.natAbs := by
  obtain ⟨c, rfl⟩ := h
  rw [Int.mul_fdiv_cancel_left _ (by omega), Int.natAbs_mul, Nat.mul_div_cancel_left _ (by omega)]
theorem dvd_zero_sub {a g : Int} (h : g ∣ a) : g ∣ 0 - a := by
  rw [Int.zero_sub]
  exact Int.dvd_neg.mpr h
theorem mk_abs {a b : Int} (h : b ≠ 0) : (mk a b).1.natAbs = a.natAbs / Nat.gcd a.natAbs b.natAbs ∧ (mk a b).2.natAbs = b.natAbs / Nat.gcd a.natAbs b.natAbs := by
  have hg := gi_pos (a := a) h
  have e : (gi a b).natAbs = Nat.gcd a.natAbs b.natAbs := rfl
  by_cases hb : b < 0
  · rw [mk_neg hb]
    refine ⟨?_, ?_⟩
    · show ((0 - a).fdiv (gi a b)).natAbs = _
      rw [fdiv_abs (dvd_zero_sub (gi_dvd1 a b)) hg, e, Int.zero_sub, Int.natAbs_neg]
    · show ((0 - b).fdiv (gi a b)).natAbs = _
      rw [fdiv_abs (dvd_zero_sub (gi_dvd2 a b)) hg, e, Int.zero_sub, Int.natAbs_neg]
  · rw [mk_pos hb]
    refine ⟨?_, ?_⟩
    · show (a.fdiv (gi a b)).natAbs = _
      rw [fdiv_abs (gi_dvd1 a b) hg, e]
    · show (b.fdiv (gi a b)).natAbs = _
      rw [fdiv_abs (gi_dvd2 a b) hg, e]
theorem mk_two_pos {a b : Int} (h : b ≠ 0) : 1 ≤ (mk a b).2 := by
  have hg := gi_pos (a := a) h
  have key : ∀ c : Int, gi a b ∣ c → 0 < c → 1 ≤ c.fdiv (gi a b) := by
    rintro c ⟨k, rfl⟩ hc
    rw [Int.mul_fdiv_cancel_left _ (by omega)]
    rw [Int.mul_comm] at hc
    have : 0 < k := Int.pos_of_mul_pos_left hc hg
    omega
  by_cases hb : b < 0
  · rw [mk_neg hb]
    exact key _ (dvd_zero_sub (gi_dvd2 a b)) (by omega)
  · rw [mk_pos hb]
    exact key _ (gi_dvd2 a b) (by omega)
theorem mk_low {a b : Int} (h : b ≠ 0) : Low (mk a b) := by
  refine ⟨mk_two_pos h, ?_⟩
  rw [(mk_abs h).1, (mk_abs h).2]
  exact Nat.gcd_div_gcd_div_gcd_of_pos_right (Int.natAbs_pos.mpr h)
theorem mk_bd {a b : Int} {m : Nat} (h : b ≠ 0) (ha : Bits m a) (hb : Bits m b) : Bd m (mk a b) := by
  refine ⟨?_, ?_⟩
  · unfold Bits
    rw [(mk_abs h).1]
    exact Nat.lt_of_le_of_lt (Nat.div_le_self _ _) ha
  · unfold Bits
    rw [(mk_abs h).2]
    exact Nat.lt_of_le_of_lt (Nat.div_le_self _ _) hb
theorem mul_bits {a b : Int} {m n : Nat} (ha : Bits m a) (hb : Bits n b) : Bits (m + n) (a * b) := L2.wide_lt ha hb
theorem add_bits {a b : Int} {m : Nat} (ha : Bits m a) (hb : Bits m b) : Bits (m + 1) (a + b) := by
  have := Int.natAbs_add_le a b
  unfold Bits at *
  rw [Nat.pow_succ]
  omega
theorem sub_bits {a b : Int} {m : Nat} (ha : Bits m a) (hb : Bits m b) : Bits (m + 1) (a - b) := by
  have := Int.natAbs_sub_le a b
  unfold Bits at *
  rw [Nat.pow_succ]
  omega
theorem bits_up {a : Int} {m n : Nat} (h : Bits m a) (hmn : m ≤ n) : Bits n a := Nat.lt_of_lt_of_le h (Nat.pow_le_pow_right (by decide) hmn)
theorem Bd.up {m n : Nat} {p : Fr} (h : Bd m p) (hmn : m ≤ n) : Bd n p := ⟨bits_up h.1 hmn, bits_up h.2 hmn⟩
theorem mulW {a b : Int} {m n : Nat} (ha : Bits m a) (hb : Bits n b) (h : m + n + 2 ≤ 1000000) : CMulW a b :=
  wide_mul (bits_up ha (Nat.le_succ m)) (bits_up hb (Nat.le_succ n)) (Nat.succ_pos _) (Nat.succ_pos _) (by omega)
theorem divX {a b : Int} {n : Nat} (h : b ≠ 0) (hb : Bits n b) (hn : n < 9000) : CDivX a b := ⟨h, by
  have := PySem.Flt.log2_lt_of (k := n + 1) (Nat.succ_pos _) (bits_up hb (Nat.le_succ n))
  omega⟩
def fPlus (a b : Fr) : Fr := mk (a.1 * b.2 + b.1 * a.2) (a.2 * b.2)
def fMinus (a b : Fr) : Fr := mk (a.1 * b.2 - b.1 * a.2) (a.2 * b.2)
def fTimes (a b : Fr) : Fr := mk (a.1 * b.1) (a.2 * b.2)
def fOver (a b : Fr) : Fr := mk (a.1 * b.2) (a.2 * b.1)
def fLess (a b : Fr) : Bool := decide (a.1 * b.2 < b.1 * a.2)
def fSum (l : List Fr) : Fr := l.foldl fPlus (0, 1)
theorem Low.ne {p : Fr} (h : Low p) : p.2 ≠ 0 := by have := h.1; omega
theorem mul_ne {a b : Int} (ha : a ≠ 0) (hb : b ≠ 0) : a * b ≠ 0 := Int.mul_ne_zero ha hb
theorem fPlus_low {a b : Fr} (ha : Low a) (hb : Low b) : Low (fPlus a b) := mk_low (mul_ne ha.ne hb.ne)
theorem fMinus_low {a b : Fr} (ha : Low a) (hb : Low b) : Low (fMinus a b) := mk_low (mul_ne ha.ne hb.ne)
theorem fTimes_low {a b : Fr} (ha : Low a) (hb : Low b) : Low (fTimes a b) := mk_low (mul_ne ha.ne hb.ne)
theorem fPlus_bd {a b : Fr} {m n : Nat} (la : Low a) (lb : Low b) (ha : Bd m a) (hb : Bd n b) : Bd (m + n + 1) (fPlus a b) :=
  mk_bd (mul_ne la.ne lb.ne) (add_bits (mul_bits ha.1 hb.2) (by have := mul_bits hb.1 ha.2; rw [Nat.add_comm n m] at this; exact this)) (bits_up (mul_bits ha.2 hb.2) (Nat.le_succ _))
theorem fMinus_bd {a b : Fr} {m n : Nat} (la : Low a) (lb : Low b) (ha : Bd m a) (hb : Bd n b) : Bd (m + n + 1) (fMinus a b) :=
  mk_bd (mul_ne la.ne lb.ne) (sub_bits (mul_bits ha.1 hb.2) (by have := mul_bits hb.1 ha.2; rw [Nat.add_comm n m] at this; exact this)) (bits_up (mul_bits ha.2 hb.2) (Nat.le_succ _))
theorem fTimes_bd {a b : Fr} {m n : Nat} (la : Low a) (lb : Low b) (ha : Bd m a) (hb : Bd n b) : Bd (m + n) (fTimes a b) := mk_bd (mul_ne la.ne lb.ne) (mul_bits ha.1 hb.1) (mul_bits ha.2 hb.2)
theorem fOver_bd {a b : Fr} {m n : Nat} (la : Low a) (hb0 : b.1 ≠ 0) (ha : Bd m a) (hb : Bd n b) : Bd (m + n) (fOver a b) := mk_bd (mul_ne la.ne hb0) (mul_bits ha.1 hb.2) (mul_bits ha.2 hb.1)
theorem fOver_low {a b : Fr} (la : Low a) (hb0 : b.1 ≠ 0) : Low (fOver a b) := mk_low (mul_ne la.ne hb0)
theorem fr_ok {p : Fr} {n : Nat} (h : Bd 1900 p) : okD (n + 1) (fr p) := by
  intro x hx
  rcases List.mem_cons.mp hx with rfl | hx
  · cases n <;> exact log2_small h.1
  · rcases List.mem_cons.mp hx with rfl | hx
    · cases n <;> exact log2_small h.2
    · cases hx
theorem nod_fr (p : Fr) : nod (fr p) = 3 := by simp [fr, nod, nodA]
theorem fr_shaped (p : Fr) : SeqAt.shaped (fr p) = true := by simp [fr, SeqAt.shaped, PyData.canLay0, PyData.canLayAll0, PyData.depth, PyData.depthAll]

/-! ### the law's draws -/
structure DC where
  a : Int
  b : Int
  m1 : Int
  m2 : Int
  d : Int
abbrev Pot := Int × Int
def potD (p : Pot) : List PyData := [.int p.1, .int p.2]
structure PotOk (p : Pot) : Prop where
  h0 : 0 ≤ p.1
  h1 : 0 ≤ p.2
  h2 : p.2 < 4294967296
def draw (c : DC) (p : Pot) (n : Int) : Pot × Int :=
  if 0 < p.1 then ((p.1 / n, p.2), p.1 % n) else ((p.1, (p.2 * c.a + c.b).fmod c.m1), ((((p.2 * c.a + c.b).fmod c.m1 * (p.2 * c.a + c.b).fmod c.m1).fmod c.m2).fdiv c.d).fmod n)
structure DCOk (c : DC) : Prop where
  m1 : 0 < c.m1
  m1' : c.m1 ≤ 4294967296
  m2 : 0 < c.m2
  d : 0 < c.d
theorem fmod_rng {a n : Int} (h : 0 < n) : 0 ≤ a.fmod n ∧ a.fmod n < n := by
  rw [Int.fmod_eq_emod_of_nonneg _ (by omega)]
  exact ⟨Int.emod_nonneg _ (by omega), Int.emod_lt_of_pos _ h⟩
theorem draw_ok {c : DC} {p : Pot} {n : Int} (hc : DCOk c) (hp : PotOk p) (hn : 0 < n) : PotOk (draw c p n).1 ∧ 0 ≤ (draw c p n).2 ∧ (draw c p n).2 < n := by
  unfold draw
  split
  · refine ⟨⟨Int.ediv_nonneg hp.h0 (by omega), hp.h1, hp.h2⟩, Int.emod_nonneg _ (by omega), Int.emod_lt_of_pos _ hn⟩
  · have a := fmod_rng (a := p.2 * c.a + c.b) hc.m1
    have b := hc.m1'
    refine ⟨⟨hp.h0, a.1, ?_⟩, (fmod_rng hn).1, (fmod_rng hn).2⟩
    show (p.2 * c.a + c.b).fmod c.m1 < 4294967296
    omega
end Cl
namespace Cl
open PySem PySem.Spec PyProof.Rows L2
theorem gi_bits {a b : Int} {m : Nat} (h : b ≠ 0) (hb : Bits m b) : Bits m (Nat.gcd a.natAbs b.natAbs : Int) := by
  have : Nat.gcd a.natAbs b.natAbs ≤ b.natAbs := Nat.gcd_le_right _ (Int.natAbs_pos.mpr h)
  exact Nat.lt_of_le_of_lt this hb
theorem gi_bits2 {a b : Int} {m : Nat} (h : b ≠ 0) (hb : Bits m b) : Bits m (0 - (Nat.gcd a.natAbs b.natAbs : Int)) := by
  unfold Bits
  rw [Int.zero_sub, Int.natAbs_neg]
  exact gi_bits h hb
theorem gi_ne {a b : Int} (h : b ≠ 0) : (Nat.gcd a.natAbs b.natAbs : Int) ≠ 0 := by
  have := gi_pos (a := a) h
  unfold gi at this
  omega
theorem gi_ne2 {a b : Int} (h : b ≠ 0) : 0 - (Nat.gcd a.natAbs b.natAbs : Int) ≠ 0 := by
  have := gi_ne (a := a) h
  omega
theorem mk_frT {a b : Int} (h : b < 0) : fr (mk a b) = .tuple [.int (a.fdiv (0 - (Nat.gcd a.natAbs b.natAbs : Int))), .int (b.fdiv (0 - (Nat.gcd a.natAbs b.natAbs : Int)))] := by
  unfold fr mk
  rw [if_pos h]
theorem mk_frF {a b : Int} (h : ¬ b < 0) : fr (mk a b) = .tuple [.int (a.fdiv (Nat.gcd a.natAbs b.natAbs : Int)), .int (b.fdiv (Nat.gcd a.natAbs b.natAbs : Int))] := by
  unfold fr mk
  rw [if_neg h]
theorem eqv_fr (a b : Fr) : PyData.eqv (fr a) (fr b) = decide (a = b) := by
  obtain ⟨a1, a2⟩ := a
  obtain ⟨b1, b2⟩ := b
  show PyData.eqv (.tuple [.int a1, .int a2]) (.tuple [.int b1, .int b2]) = _
  simp only [PyData.eqv, PyData.eqvAll, Prod.mk.injEq]
  by_cases h1 : a1 = b1 <;> by_cases h2 : a2 = b2 <;> simp [h1, h2]
theorem eqv_frF {b : Fr} (h : b.1 ≠ 0) : PyData.eqv (fr b) (fr (0, 1)) = false := by
  rw [eqv_fr]
  exact decide_eq_false fun e => h (by rw [e])
end Cl

set_option maxRecDepth 100000
namespace Cl
open PySem PySem.Spec PyProof.Rows L2
section
variable {X : Cx} {ρ ρ1 ρ2 : Rho} {tg iter : Expr} {vs : List Nat} {body sts : List Stmt} {o : Out} {ds : List PyData} {pos : Pos}
theorem ss_forget (fs : List Nat) (h : SDs X ρ sts (.nx ρ2)) : SDs X ρ sts (.nx (forgetR ρ2 fs)) :=
  h.weak fun D σ H ⟨F, S, g⟩ => ⟨F, S, fun σ' F' H' s => g σ' F' H' (s.trans (Step.forgetS s.sat fs))⟩
theorem Goes.pre {K : PySem.W.Frag} {D : Ends} {σ σ1 : L2.St} {F H F1 H1 : Hp} (a : Step K ρ σ F H ρ1 σ1 F1 H1) (g : Goes K o D ρ σ F H) : Goes K o D ρ1 σ1 F1 H1 := g.step a
theorem ss_drop (fs : List Nat) (h : SDs X (forgetR ρ fs) sts o) : SDs X ρ sts o :=
  h.weak fun D σ H ⟨F, S, g⟩ => ⟨F, (Step.forgetS S fs).sat, g.step (Step.forgetS S fs)⟩
theorem i_forget (fs : List Nat) (h : ID X ρ tg iter ρ1 ds) : ID X ρ tg iter (forgetR ρ1 fs) ds :=
  h.weak fun σ H R ⟨F, S, k⟩ => ⟨F, S, fun J F1 H1 s1 o1 w => k J F1 H1 (s1.trans (Step.forgetS s1.sat fs)) (fun q ⟨i, c, m, a, b, d⟩ => by
    by_cases y : i ∈ fs
    · cases forgetR_in y a
    · rw [forgetR_out y] at a
      exact o1 q ⟨i, c, m, a, b, d⟩) w⟩
theorem s_forF (fs : List Nat) (hi : ID X ρ tg iter ρ1 ds) (hf : ForD X tg vs body o ds (forgetR ρ1 fs)) (hp : PassesOwn (model X.prog X.w) X.A X.env X.xe) (hc : X.calm = true) (hs : ∀ x, foldedSetIterable iter X.env x = pure x := by intro _; rfl) : SD X ρ (.For tg iter body [] pos) o :=
  s_for (i_forget fs hi) hf hp hc hs
/-- a loop that folds -/
theorem forD_fold {α β : Type} (fs : List Nat) (enc : α → PyData) (f : β → α → β) (R : β → Rho) (I : List α → β → Prop) (l : List α) (b : β)
    (step : ∀ x r b, I (x :: r) b → ∃ ρ1 ρ2, GD X vs (R b) tg (enc x) ρ1 ∧ SDs X ρ1 body (.nx ρ2) ∧ forgetR ρ2 fs = R (f b x) ∧ I r (f b x)) (h0 : I l b) : ForD X tg vs body (.nx (R (l.foldl f b))) (l.map enc) (R b) := by
  induction l generalizing b with
  | nil => exact .nil rfl
  | cons x r ih =>
    obtain ⟨ρ1, ρ2, h1, h2, h3, h4⟩ := step x r b h0
    exact .next h1 (by rw [← h3]; exact ss_forget fs h2) (ih (f b x) h4)
end
section
variable {X : Cx} {sc : Scope} {ρ ρ1 ρ2 : Rho} {tg elt : Expr} {vs : List Nat} {ifs : List Expr}
/-- what a comprehension with a state makes -/
def runL {α β : Type} (f : β → α → β × PyData) : β → List α → List PyData
  | _, [] => []
  | b, x :: r => (f b x).2 :: runL f (f b x).1 r
def endL {α β : Type} (f : β → α → β × PyData) : β → List α → β
  | b, [] => b
  | b, x :: r => endL f (f b x).1 r
theorem runL_len {α β : Type} (f : β → α → β × PyData) : ∀ (b : β) (l : List α), (runL f b l).length = l.length
  | _, [] => rfl
  | b, x :: r => congrArg (· + 1) (runL_len f (f b x).1 r)
theorem lc_state {α β : Type} (enc : α → PyData) (f : β → α → β × PyData) (R : β → Rho) (I : List α → β → Prop) (l : List α) (b : β)
    (step : ∀ x r b, I (x :: r) b → ∃ ρ1 ρ2 ρ3, (Bk X sc fun B => GD B vs (R b) tg (enc x) ρ1) ∧ (Bk X sc fun B => TsD B ρ1 ifs ρ2 true) ∧ (Bk X sc fun B => ED B ρ2 elt ρ3 (f b x).2) ∧ forgetR ρ3 vs = R (f b x).1 ∧ I r (f b x).1) (h0 : I l b) :
    LcD X sc vs tg ifs elt (l.map enc) (R b) (runL f b l) (R (endL f b l)) := by
  induction l generalizing b with
  | nil => exact .nil
  | cons x r ih =>
    obtain ⟨ρ1, ρ2, ρ3, h1, h2, h3, h4, h5⟩ := step x r b h0
    exact .keep h1 h2 h3 (by rw [h4]; exact ih (f b x).1 h5)
theorem lc_map {α : Type} (enc : α → PyData) (g : α → PyData) (l : List α)
    (step : ∀ x ∈ l, ∃ ρ1 ρ2 ρ3, (Bk X sc fun B => GD B vs ρ tg (enc x) ρ1) ∧ (Bk X sc fun B => TsD B ρ1 ifs ρ2 true) ∧ (Bk X sc fun B => ED B ρ2 elt ρ3 (g x)) ∧ forgetR ρ3 vs = ρ) :
    LcD X sc vs tg ifs elt (l.map enc) ρ (l.map g) ρ := by
  induction l with
  | nil => exact .nil
  | cons x r ih =>
    obtain ⟨ρ1, ρ2, ρ3, h1, h2, h3, h4⟩ := step x List.mem_cons_self
    exact .keep h1 h2 h3 (by rw [h4]; exact ih fun y hy => step y (List.mem_cons_of_mem _ hy))
theorem lc_filter {α : Type} (enc : α → PyData) (p : α → Bool) (l : List α)
    (step : ∀ x ∈ l, ∃ ρ1 ρ2, (Bk X sc fun B => GD B vs ρ tg (enc x) ρ1) ∧ (Bk X sc fun B => TsD B ρ1 ifs ρ2 (p x)) ∧ (Bk X sc fun B => ED B ρ2 elt ρ2 (enc x)) ∧ forgetR ρ2 vs = ρ) :
    LcD X sc vs tg ifs elt (l.map enc) ρ ((l.filter p).map enc) ρ := by
  induction l with
  | nil => exact .nil
  | cons x r ih =>
    obtain ⟨ρ1, ρ2, h1, h2, h3, h4⟩ := step x List.mem_cons_self
    have q := ih fun y hy => step y (List.mem_cons_of_mem _ hy)
    rw [List.filter_cons]
    by_cases hx : p x = true
    · rw [if_pos hx]
      rw [hx] at h2
      exact .keep h1 h2 h3 (by rw [h4]; exact q)
    · rw [if_neg hx]
      have e : p x = false := by simpa using hx
      rw [e] at h2
      exact .skip h1 h2 (by rw [h4]; exact q)
end
section
variable {X : Cx} {ρ ρ1 : Rho} {n : Nat} {e : Expr} {d : PyData} {l : List PyData}
/-- while nothing but a flat answer comes out, a list held alone is read as data -/
def flatD : PyData → Bool
  | .none | .bool _ | .int _ | .str _ => true
  | _ => false
theorem dq_flat {K : PySem.W.Frag} {F F' : Hp} {v : V} (h : Dq K F v d) (hf : flatD d = true) : Dq K F' v d := by
  cases h with
  | non => exact .non
  | bl b => exact .bl b
  | int i => exact .int i
  | str x => exact .str x
  | lst _ _ => cases hf
  | tup _ _ => cases hf
  | dct _ => cases hf
def flatMu : Mu → Bool
  | .lst l => l.all flatD
def flatCell : Option Cell → Bool
  | none => true
  | some c => match c.mu with
    | some m => flatMu m
    | none => true
def peekOk (ρ : Rho) (n : Nat) : Bool := (ρ.set n none).all flatCell
theorem dqA_flat {K : PySem.W.Frag} {F F' : Hp} : ∀ {l : List PyData} {vs : List V}, DqA K F vs l → l.all flatD = true → DqA K F' vs l
  | [], _, h, _ => by cases h; exact .nil
  | d :: l, _, h, e => by
    rw [List.all_cons, Bool.and_eq_true] at e
    cases h with
    | cons a b => exact .cons (dq_flat a e.1) (dqA_flat b e.2)
theorem mu_flat {K : PySem.W.Frag} {F F' : Hp} {m : Mu} {o : HO} (h : MuOk K F m o) (e : flatMu m = true) : MuOk K F' m o := by
  cases m with
  | lst l =>
    cases o with
    | lst xs => exact dqA_flat (show DqA K F xs l from h) e
    | _ => exact h.elim
theorem peek_at (h : peekOk ρ n = true) {i : Nat} {c : Cell} {m : Mu} (ne : n ≠ i) (e : ρ[i]? = some (some c)) (hm : c.mu = some m) : flatMu m = true := by
  have q := List.all_eq_true.mp h (some c) (List.mem_of_getElem? (by rw [List.getElem?_set_ne ne]; exact e))
  have q2 : (match c.mu with | some m => flatMu m | none => true) = true := q
  rw [hm] at q2
  exact q2
theorem e_peek (n : Nat) {c : Cell} (h : ρ[n]? = some (some c)) (hm : c.mu = some (.lst l)) (he : ED X (ρ.set n (some (.dat (.list l)))) e (ρ.set n (some (.dat (.list l)))) d) (hf : flatD d = true) (hp : peekOk ρ n = true) : ED X ρ e ρ d :=
  he.weak fun σ H Q ⟨F, S, k⟩ => by
    obtain ⟨p, o, e1, e2, e3, e4⟩ := S.held h hm
    cases o with
    | lst xs =>
      have hn := (List.getElem?_eq_some_iff.mp h).1
      have other : ∀ {i : Nat} {q : Addr}, Held (ρ.set n (some (.dat (.list l)))) σ i q → Held ρ σ i q ∧ q ≠ p := fun {i q} ⟨c1, m, a, b, d⟩ => by
        by_cases z : n = i
        · subst z
          rw [List.getElem?_set_self hn] at a
          cases a
          cases b
        · rw [List.getElem?_set_ne z] at a
          refine ⟨⟨c1, m, a, b, d⟩, fun w => z (S.inj n i q ⟨c, _, h, hm, by rw [e1, w]⟩ ⟨c1, m, a, b, d⟩)⟩
      have S2 : Sat X.K (upd F p (.lst xs)) (ρ.set n (some (.dat (.list l)))) σ H := by
        refine ⟨by rw [List.length_set]; exact S.len, fun b u z => ?_, fun i c1 x a b => ?_, fun i j q a b => S.inj i j q (other a).1 (other b).1⟩
        · by_cases hb : b = p
          · subst hb
            rw [upd_same] at z
            rw [e3]
            exact z
          · rw [upd_ne hb] at z
            exact S.sub _ _ z
        · by_cases z : n = i
          · subst z
            rw [List.getElem?_set_self hn] at a
            cases a
            rw [e1] at b
            cases b
            exact ⟨_, rfl, .lst upd_same (DqA.mono (same_upd e2) _ e4)⟩
          · rw [List.getElem?_set_ne z] at a
            have sl := S.slot i c1 x a b
            have ne : ∀ r, x = some (.ref r) → ∀ c2 m, c1 = some c2 → c2.mu = some m → r ≠ p := fun r hx c2 m h2 h3 w => z (S.inj n i p ⟨c, _, h, hm, e1⟩ ⟨c2, m, by rw [a, h2], h3, by rw [b, hx, w]⟩)
            cases c1 with
            | none => trivial
            | some c1 =>
              cases c1 with
              | dat d =>
                obtain ⟨v, q1, q2⟩ := sl
                exact ⟨v, q1, q2.mono (same_upd e2)⟩
              | scr ns =>
                obtain ⟨v, q1, q2⟩ := sl
                exact ⟨v, q1, (same_upd e2).seq q2⟩
              | own m =>
                obtain ⟨r, u, q1, q2, q3, q4⟩ := sl
                exact ⟨r, u, q1, by rw [upd_ne (ne r q1 _ _ rfl rfl)]; exact q2, q3, q4.mono (same_upd e2)⟩
              | bor r m =>
                obtain ⟨u, q1, q2, q3, q4⟩ := sl
                exact ⟨u, q1, by rw [upd_ne (ne r q1 _ _ rfl rfl)]; exact q2, q3, q4.mono (same_upd e2)⟩
      refine ⟨_, S2, fun v F' H' st oo hv => ?_⟩
      have kp : H' p = some (.lst xs) := st.sat.sub p _ (st.fr p _ upd_same)
      have no : ∀ q, Own ρ σ q → q = p ∨ Own (ρ.set n (some (.dat (.list l)))) σ q := fun q ⟨i, c1, m, a, b, d⟩ => by
        by_cases z : n = i
        · subst z
          rw [e1] at d
          cases d
          exact .inl rfl
        · exact .inr ⟨i, c1, m, by rw [List.getElem?_set_ne z]; exact a, b, d⟩
      have H'own : ∀ q, Own (ρ.set n (some (.dat (.list l)))) σ q → F q = none := fun q hq => by
        have := (S2.ownF hq).1
        have ne : q ≠ p := fun w => by
          obtain ⟨i, hi⟩ := hq
          exact (other hi).2 w
        rw [upd_ne ne] at this
        exact this
      refine k v F H' ⟨Same.refl F, fun _ a _ _ => a, fun q u a b => ?_, st.live, ⟨S.len, fun b u z => ?_, fun i c1 x a b => ?_, S.inj⟩, fun q hq => .inl hq⟩ (fun _ h => h) (dq_flat hv hf)
      · by_cases w : q = p
        · rw [w] at a ⊢
          rw [e3] at a
          rw [kp]
          exact a
        · refine st.keep q u a fun z => b ?_
          obtain ⟨i, hi⟩ := z
          exact ⟨i, (other hi).1⟩
      · by_cases w : Own (ρ.set n (some (.dat (.list l)))) σ b
        · rw [H'own b w] at z
          cases z
        · exact st.keep b u (S.sub _ _ z) w
      · by_cases z : n = i
        · subst z
          rw [h] at a
          cases a
          rw [e1] at b
          cases b
          have sl := S.slot n _ _ h e1
          cases c with
          | dat d => cases hm
          | scr ns => cases hm
          | own m =>
            cases hm
            exact ⟨p, _, rfl, e2, kp, e4⟩
          | bor r m =>
            cases hm
            obtain ⟨u, q1, q2, q3, q4⟩ := sl
            cases q1
            exact ⟨_, rfl, e2, kp, e4⟩
        · have sl := S.slot i c1 x a b
          have sl2 := st.sat.slot i c1 x (by rw [List.getElem?_set_ne z]; exact a) b
          cases c1 with
          | none => trivial
          | some c1 =>
            cases c1 with
            | dat d => exact sl
            | scr ns => exact sl
            | own m =>
              obtain ⟨r, u, q1, q2, q3, q4⟩ := sl
              obtain ⟨r', u', f1, f2, f3, f4⟩ := sl2
              rw [q1] at f1
              cases f1
              exact ⟨r, u', q1, q2, f3, mu_flat f4 (peek_at hp z a rfl)⟩
            | bor r m =>
              obtain ⟨u, q1, q2, q3, q4⟩ := sl
              obtain ⟨u', f1, f2, f3, f4⟩ := sl2
              exact ⟨u', q1, q2, f3, mu_flat f4 (peek_at hp z a rfl)⟩
    | _ => exact e4.elim
end

section
variable {X : Cx} {sc : Scope} {ρ ρ1 ρ2 : Rho} {tg elt : Expr} {vs : List Nat} {ifs : List Expr}
/-- the same, typed -/
def runT {α β γ : Type} (f : β → α → β × γ) : β → List α → List γ
  | _, [] => []
  | b, x :: r => (f b x).2 :: runT f (f b x).1 r
def endT {α β γ : Type} (f : β → α → β × γ) : β → List α → β
  | b, [] => b
  | b, x :: r => endT f (f b x).1 r
theorem runT_len {α β γ : Type} (f : β → α → β × γ) : ∀ (b : β) (l : List α), (runT f b l).length = l.length
  | _, [] => rfl
  | b, x :: r => congrArg (· + 1) (runT_len f (f b x).1 r)
theorem lc_stateT {α β γ : Type} (enc : α → PyData) (enc2 : γ → PyData) (f : β → α → β × γ) (R : β → Rho) (I : List α → β → Prop) (l : List α) (b : β)
    (step : ∀ x r b, I (x :: r) b → ∃ ρ1 ρ2 ρ3, (Bk X sc fun B => GD B vs (R b) tg (enc x) ρ1) ∧ (Bk X sc fun B => TsD B ρ1 ifs ρ2 true) ∧ (Bk X sc fun B => ED B ρ2 elt ρ3 (enc2 (f b x).2)) ∧ forgetR ρ3 vs = R (f b x).1 ∧ I r (f b x).1) (h0 : I l b) :
    LcD X sc vs tg ifs elt (l.map enc) (R b) ((runT f b l).map enc2) (R (endT f b l)) := by
  induction l generalizing b with
  | nil => exact .nil
  | cons x r ih =>
    obtain ⟨ρ1, ρ2, ρ3, h1, h2, h3, h4, h5⟩ := step x r b h0
    exact .keep h1 h2 h3 (by rw [h4]; exact ih (f b x).1 h5)
end
section
variable {X : Cx} {ρ ρ1 ρ2 : Rho} {e1 e2 c : Expr} {d d1 d2 : PyData} {l : List PyData} {x y : Str} {pos : Pos} {body : List Stmt}
/-- a, b = e1, e2 by a tuple (one of the names is captured): data and a list held alone -/
theorem s_parOC (n m : Nat) {kt k2 : Nat} {pt pt2 px py : Pos} (hc : X.calm = true) (ha : ED X ρ e1 ρ1 d1) (hb : EO X ρ1 e2 ρ2 l) (nd : X.N.Nodup) (hN : X.N[n]? = some x) (hM : X.N[m]? = some y) (hnm : n ≠ m) (hx : Loc X.env.scope x) (hy : Loc X.env.scope y)
    (hw : swappedStores [.Tuple [.Name x px, .Name y py] kt pt] (.Tuple [e1, e2] k2 pt2) X.env = pure none)
    (hf : X.fn x = true ∨ X.env.scope.names.lookup x = some .local := by first | exact .inl rfl | exact .inr rfl | assumption) (hf2 : X.fn y = true ∨ X.env.scope.names.lookup y = some .local := by first | exact .inl rfl | exact .inr rfl | assumption)
    (hq : starEach [e1, e2] X.env = (false, eval e1 X.env) :: starEach [e2] X.env := by rfl) (hq2 : starEach [e2] X.env = (false, eval e2 X.env) :: starEach [] X.env := by rfl)
    (hs : swapsWithSole [.Tuple [.Name x px, .Name y py] kt pt] (.Tuple [e1, e2] k2 pt2) pos.line X.env = pure false := by rfl)
    (h1 : (assignEach [.Tuple [.Name x px, .Name y py] kt pt] X.env).map (·.2) = [assign (.Tuple [.Name x px, .Name y py] kt pt) X.env] := by rfl)
    (hn : (assignEach [.Name x px, .Name y py] X.env).length = 2 := by rfl) (hst : (assignEach [.Name x px, .Name y py] X.env).findIdx? (·.1) = none := by rfl)
    (hc1 : (assignEach [.Name x px, .Name y py] X.env).map (·.2) = assign (.Name x px) X.env :: (assignEach [.Name y py] X.env).map (·.2) := by rfl) (hc2 : (assignEach [.Name y py] X.env).map (·.2) = assign (.Name y py) X.env :: (assignEach [] X.env).map (·.2) := by rfl) :
    SD X ρ (.Assign [.Tuple [.Name x px, .Name y py] kt pt] (.Tuple [e1, e2] k2 pt2) pos) (.nx ((ρ2.set n (some (.dat d1))).set m (some (.own (.lst l))))) :=
  (ps_asg (pe_tup (pa_cons ha (pa_cons hb pa_nil hq2) hq)) (pg_tup hc (pgs_cons (pg_name nd hN hx hf) (pgs_cons (pg_name nd hM hy hf2) pgs_nil hc2) hc1) hn hst) hs hw h1).weak fun D σ H ⟨F, S, g⟩ => ⟨F, S, fun v1 F1 H1 s1 o1 h1 => ⟨F1, s1.sat, fun v2 F2 H2 s2 o2 h2 => by
    refine ⟨Nat.le_of_ble_eq_true rfl, fun p hp => ⟨p, [v1, v2], rfl, .inl (.inl upd_same), rfl, v1, [v2], rfl, v2, [], rfl, rfl, ?_⟩⟩
    have s12 := s1.trans s2
    have tl := s12.trans (Step.laidM s2.sat (o := .tup [v1, v2]) hp)
    have t1 := tl.trans (Step.setD (n := n) (d := d1) tl.sat (Dq.mono s2.fr _ h1))
    refine g _ F2 _ (t1.into (n := m) (m := .lst l) ?_)
    obtain ⟨q, o, b1, ⟨b2, b3⟩, b4, b5, b6⟩ := h2
    refine ⟨q, o, b1, ⟨s1.mine b2, fun ⟨i, z⟩ => b3 ⟨i, (Held.ofSet (fun c e => by cases e; rfl) z).1⟩⟩, b4, ?_, b6⟩
    rw [upd_ne (ne_of_none b5 hp)]
    exact b5⟩⟩
/-- Euclid's while -/
theorem wh_euclid (R : Nat → Nat → Rho) (hc : ∀ x y, TD X (R x y) c (R x y) (!decide ((y : Int) = 0))) (hb : ∀ x y, y ≠ 0 → SDs X (R x y) body (.nx (R y (x % y)))) : ∀ n x y, y ≤ n → WhD X c body (.nx (R (Nat.gcd x y) 0)) n (R x y)
  | n, x, 0, _ => .stop (hc x 0) (by rw [Nat.gcd_zero_right])
  | n + 1, x, y + 1, h => by
    have t := hc x (y + 1)
    have e : (!decide (((y + 1 : Nat) : Int) = 0)) = true := by
      rw [decide_eq_false (by omega)]
      rfl
    rw [e] at t
    have r := wh_euclid R hc hb n (y + 1) (x % (y + 1)) (by have q : x % (y + 1) < y + 1 := Nat.mod_lt x (Nat.succ_pos y); omega)
    have eg : Nat.gcd (y + 1) (x % (y + 1)) = Nat.gcd x (y + 1) := by rw [Nat.gcd_comm x, Nat.gcd_rec (y + 1) x, Nat.gcd_comm]
    rw [eg] at r
    exact .turn t (hb x (y + 1) (Nat.succ_ne_zero y)) r
theorem fmod_nat (x y : Nat) : (x : Int).fmod (y : Int) = ((x % y : Nat) : Int) := by
  rw [Int.fmod_eq_emod_of_nonneg _ (by omega)]
  rfl
theorem frac_eq {a b : Int} (h : b ≠ 0) : (if decide (0 < b) = true then PyData.tuple [.int (a.fdiv (Nat.gcd a.natAbs b.natAbs : Nat)), .int (b.fdiv (Nat.gcd a.natAbs b.natAbs : Nat))] else .tuple [.int ((0 - a).fdiv (Nat.gcd a.natAbs b.natAbs : Nat)), .int ((0 - b).fdiv (Nat.gcd a.natAbs b.natAbs : Nat))]) = fr (mk a b) := by
  by_cases hb : b < 0
  · rw [if_neg (by simp; omega), mk_neg hb]
    rfl
  · rw [if_pos (by simp; omega), mk_pos hb]
    rfl
end
/-! ### picks -/
theorem atI_eq {α : Type} {xs : List α} {i : Int} (h0 : 0 ≤ i) (h1 : i < xs.length) : atI xs i = xs[i.toNat]? := by
  unfold atI ixN
  rw [if_pos h0, if_pos h1]
  rfl
theorem pick_map {α : Type} {xs : List α} {f : α → PyData} {i : Int} (z : α) (h0 : 0 ≤ i) (h1 : i < xs.length) : atI (xs.map f) i = some (f (xs.getD i.toNat z)) := by
  rw [atI_eq h0 (by rw [List.length_map]; exact h1), List.getElem?_map]
  have : i.toNat < xs.length := by omega
  rw [List.getElem?_eq_getElem this, List.getD_eq_getElem?_getD, List.getElem?_eq_getElem this]
  rfl
theorem getD_mem {α : Type} {xs : List α} {i : Int} (z : α) (h0 : 0 ≤ i) (h1 : i < xs.length) : xs.getD i.toNat z ∈ xs := by
  have : i.toNat < xs.length := by omega
  rw [List.getD_eq_getElem?_getD, List.getElem?_eq_getElem this]
  exact List.getElem_mem this
theorem cut_take (ds : List PyData) {k : Int} (h : 0 ≤ k) : cutD ds none (some k) = ds.take k.toNat := by
  unfold cutD
  rw [HT.sIx_none]
  obtain ⟨n, rfl⟩ : ∃ n : Nat, k = n := ⟨k.toNat, by omega⟩
  rw [HT.sIx_nat]
  simp only [List.drop_zero, Nat.sub_zero, Int.toNat_natCast]
  rw [List.take_eq_take_iff]
  omega
/-! ### what can be shown, piece by piece -/
theorem okn {n : Nat} : ∀ y ∈ ([] : List PyData), okD n y := fun _ h => nomatch h
theorem okc {n : Nat} {x : PyData} {xs : List PyData} (h : okD n x) (t : ∀ y ∈ xs, okD n y) : ∀ y ∈ x :: xs, okD n y := fun y hy => by
  rcases List.mem_cons.mp hy with rfl | hy
  · exact h
  · exact t y hy
theorem okm {n : Nat} {α : Type} {f : α → PyData} {xs : List α} (h : ∀ x ∈ xs, okD n (f x)) : ∀ y ∈ xs.map f, okD n y := fun y hy => by
  obtain ⟨x, hx, rfl⟩ := List.mem_map.mp hy
  exact h x hx
theorem okb {n : Nat} {b : Bool} : okD n (.bool b) := by cases n <;> trivial
theorem okl {n : Nat} {xs : List PyData} (h : ∀ y ∈ xs, okD n y) : okD (n + 1) (.list xs) := h
theorem okt {n : Nat} {xs : List PyData} (h : ∀ y ∈ xs, okD n y) : okD (n + 1) (.tuple xs) := h
theorem nod_map {α : Type} {f : α → PyData} {k : Nat} (h : ∀ x, nod (f x) ≤ k) : ∀ xs : List α, nodA (xs.map f) ≤ k * xs.length
  | [] => by simp [nodA]
  | x :: xs => by
    have a := h x
    have b := nod_map h xs
    simp only [List.map_cons, nodA, List.length_cons]
    rw [Nat.mul_succ]
    omega

theorem pick_int {ns : List Int} {k : Int} (h0 : 0 ≤ k) (h1 : k < (ns.length : Int)) : atI ns k = some (ns.getD k.toNat 0) := by
  rw [atI_eq h0 h1]
  have : k.toNat < ns.length := by omega
  rw [List.getD_eq_getElem?_getD, List.getElem?_eq_getElem this]
  rfl
theorem bits64 {a : Int} (h : -(2 ^ 64) < a ∧ a < 2 ^ 64) : Bits 64 a := by
  show a.natAbs < 2 ^ 64
  omega
theorem mulS {a b : Int} (ha : -(2 ^ 64) < a ∧ a < 2 ^ 64) (hb : -(2 ^ 64) < b ∧ b < 2 ^ 64) : CMulW a b := mulW (bits64 ha) (bits64 hb) (by decide)
theorem fmB {a n : Int} (h : 0 < n) (hn : n ≤ 2 ^ 63) : -(2 ^ 64) < a.fmod n ∧ a.fmod n < 2 ^ 64 := by
  have := fmod_rng (a := a) h
  omega
theorem bitsS {a : Int} {m : Nat} (ha : -(2 ^ 64) < a ∧ a < 2 ^ 64) (hm : 64 ≤ m := by decide) : Bits m a := bits_up (bits64 ha) hm
theorem bits_len {n m : Nat} (h : n ≤ 1000000) (hm : 64 ≤ m := by decide) : Bits m (n : Int) := bitsS (by omega) hm
theorem bits_log {a : Int} {n : Nat} (h : Bits n a) (hn : n < 9000) : a.natAbs.log2 < 9000 := by
  have := PySem.Flt.log2_lt_of (k := n + 1) (Nat.succ_pos _) (bits_up h (Nat.le_succ n))
  omega
theorem draw_pos {c : DC} {p : Pot} {n : Int} (h : 0 < p.1) : draw c p n = ((p.1 / n, p.2), p.1 % n) := if_pos h
theorem draw_neg {c : DC} {p : Pot} {n : Int} (h : ¬ 0 < p.1) : draw c p n = ((p.1, (p.2 * c.a + c.b).fmod c.m1), ((((p.2 * c.a + c.b).fmod c.m1 * (p.2 * c.a + c.b).fmod c.m1).fmod c.m2).fdiv c.d).fmod n) := if_neg h
/-- a pair of numbers kept by the module -/
theorem konst_fr {K : PySem.W.Frag} {mg : Str → Option Value} {x : Str} {a : Addr} {o : Option Addr} {i j : Int} {t u : Tok} {n : Nat} {sl : Array (Option Value)} (h : mg x = some (.ref a)) (l : K.lookup a = some ⟨.type "tuple", o, .seq #[.int i t, .int j u] n, sl⟩) : Konst K mg x (fr (i, j)) :=
  ⟨.ref a, .ref a, h, rfl, fun _ => .tup (xs := [.int i, .int j]) (.inr ⟨_, _, _, l, rfl, rfl, Nat.le_of_ble_eq_true rfl, .cons ⟨_, rfl⟩ (.cons ⟨_, rfl⟩ .nil)⟩) (.cons (.int _) (.cons (.int _) .nil))⟩
end Cl

set_option maxRecDepth 100000
namespace Cl
open PySem PySem.Spec PyProof.Rows L2
section
variable {K : PySem.W.Frag} {a b : Addr} {xs ys : List V}
theorem walk_zipT {n : Nat} (hn : n = min xs.length ys.length) : Walk (RZ.ItzT K a b) n (fun H => SqT K H a xs ∧ SqT K H b ys) (YPair (fun i => xs[i]?) (fun i => ys[i]?)) := by
  subst hn
  refine ⟨fun i _ hi q => ?_, fun _ q => ⟨xs, ys, q.1, q.2, by omega⟩, fun i H v H' _ q y => ?_⟩
  · have h1 : i < xs.length := by omega
    have h2 : i < ys.length := by omega
    exact ⟨xs, ys, xs[i], ys[i], q.1, q.2, by simp [h1], by simp [h2]⟩
  · obtain ⟨T, x, z, h1, h2, h3, h4, h5⟩ := y
    exact ⟨T, x, z, h1, h2, h3, h4 xs q.1, h5 ys q.2⟩
end
section
variable {X : Cx} {ρ ρ1 ρ2 : Rho} {e e2 a b c : Expr} {ds1 ds2 ds : List PyData} {p pos : Pos} {d1 d2 d3 : PyData} {u v : Bool}
theorem i_zipT {elts : List Expr} {kk : Nat} {tpos : Pos} (hg : Gl X "zip") (hm : X.mg "zip" = none) (h : AD X ρ [e, e2] ρ1 [.tuple ds1, .tuple ds2]) (hs : starEach [e, e2] X.env = (false, eval e X.env) :: starEach [e2] X.env := by rfl) (hpl : (backTo pos (starEach [e2] X.env)).any (·.1) = false := by rfl) : ID X ρ (.Tuple elts kk tpos) (.Call (.Name "zip" p) [e, e2] [] pos) ρ1 (pairD ds1 ds2) :=
  (RZ.pi_zipA hg hm h hs hpl).weak fun σ H R ⟨F, S, k⟩ => ⟨F, S, fun vs F1 H1 s1 o1 hv => by
    cases hv with
    | cons h1 t =>
      cases t with
      | cons h2 t =>
        cases t
        cases h1 with
        | tup hs ha =>
          cases h2 with
          | tup hs' ha' =>
            refine ⟨_, _, _, _, rfl, .inr ⟨sqT_same s1.sat.sub hs, sqT_same s1.sat.sub hs', k _ F1 H1 s1 o1 ?_⟩⟩
            refine (walk_zipT (n := (pairD ds1 ds2).length) ?_).mono (fun H2 z => ⟨sqT_same z hs, sqT_same z hs'⟩) fun i H2 v H3 _ _ y => yd_pair y fun x y F2 e1 e2 a => ?_
            · unfold pairD
              rw [List.length_zipWith, ha.length, ha'.length]
            · obtain ⟨d1, q1, q2⟩ := ha.get e1
              obtain ⟨d2, q3, q4⟩ := ha'.get e2
              exact ⟨d1, d2, zip_get q1 q3, q2.mono a, q4.mono a⟩⟩
/-- a op b op' c -/
theorem e_chain {op op' : CmpOp} (hc : CmpD X op d1 d2 u) (hc' : CmpD X op' d2 d3 v) (ha : ED X ρ a ρ1 d1) (hb : ED X ρ1 b ρ2 d2) (hd : ED X ρ2 c ρ2 d3) (hm : lastMarks [op, op'] [b, c] = false := by with_unfolding_all rfl) : ED X ρ (.Compare a [op, op'] [b, c] pos) ρ2 (.bool (u && v)) := by
  obtain ⟨r, ho, hr⟩ := hc.ex
  obtain ⟨r', ho', hr'⟩ := hc'.ex
  exact (pe_chain ho ho' ha hb hd hm).weak fun σ H Q ⟨F, S, k⟩ => ⟨F, S, fun x F1 H1 s1 o1 v1 => ⟨F1, s1.sat, fun y F2 H2 s2 o2 v2 => hr F2 H2 x y _ s2.sat.sub (Dq.mono s2.fr _ v1) v2 ⟨u, rfl, by
    cases u with
    | true => exact ⟨F2, s2.sat, fun w F3 H3 s3 o3 v3 => hr' F3 H3 y w _ s3.sat.sub (Dq.mono s3.fr _ v2) v3 (k _ F3 H3 ((s1.trans s2).trans s3) (fun q h => o1 q (o2 q (o3 q h))) (.bl _))⟩
    | false => exact k _ F2 H2 (s1.trans s2) (fun q h => o1 q (o2 q h)) (.bl _)⟩⟩⟩
theorem t_chain {op op' : CmpOp} (hc : CmpD X op d1 d2 u) (hc' : CmpD X op' d2 d3 v) (ha : ED X ρ a ρ1 d1) (hb : ED X ρ1 b ρ2 d2) (hd : ED X ρ2 c ρ2 d3) (hm : lastMarks [op, op'] [b, c] = false := by with_unfolding_all rfl) : TD X ρ (.Compare a [op, op'] [b, c] pos) ρ2 (u && v) := by
  obtain ⟨r, ho, hr⟩ := hc.ex
  obtain ⟨r', ho', hr'⟩ := hc'.ex
  exact (pt_chain ho ho' ha hb hd hm).weak fun σ H Q ⟨F, S, k⟩ => ⟨F, S, fun x F1 H1 s1 o1 v1 => ⟨F1, s1.sat, fun y F2 H2 s2 o2 v2 => hr F2 H2 x y _ s2.sat.sub (Dq.mono s2.fr _ v1) v2 ⟨u, rfl, by
    cases u with
    | true => exact ⟨F2, s2.sat, fun w F3 H3 s3 o3 v3 => hr' F3 H3 y w _ s3.sat.sub (Dq.mono s3.fr _ v2) v3 ⟨v, rfl, k F3 H3 ((s1.trans s2).trans s3) (fun q h => o1 q (o2 q (o3 q h)))⟩⟩
    | false => exact ⟨false, rfl, k F2 H2 (s1.trans s2) (fun q h => o1 q (o2 q h))⟩⟩⟩⟩
/-- {} -/
theorem e_dict0 : ED X ρ (.Dict [] [] pos) ρ (.dict []) :=
  pe_dnewK.weak fun σ H Q ⟨F, S, k⟩ => fun q hq => k _ _ _ (Step.laid S hq) own_id (.dct upd_same)
end
section
variable {P : Program} {w : World} {K : PySem.W.Frag} {mg : Str → Option Value} {base : Heap} {k : Nat} {f : Addr} {fd : FuncData} {ps N : List Str} {x qual : Str} {st : Stmt}
/-- data in, the end of the body reached: None -/
theorem fn_fall {R : List PyData → PyData → Prop} (F : Fun K x qual st f fd) (Sc : FnScope N ps (defScope st)) (len : ∀ ds d, R ds d → ds.length = ps.length)
    (body : ∀ (cdv : Value) (A : Around) (outer : List Env) (s : Shared) (H : Hp) (E : XK), Room k (A.deeper (envOfC qual (defScope st) s.heap.objs.size f cdv)) → A.guards = some [] → ∀ ds d, R ds d →
      d = .none ∧ ∃ ρ1, SDs (cxOf CX0 P w K mg base N qual (defScope st) f cdv A outer s H E).nox (enter N (ds.map .dat)) (defBody st) (.nx ρ1)) : FnG P w K mg base CX0 (k + 1) f fd ps (spOf K (pureS R)) := by
  have ln : ∀ vs H Q E, spOf K (pureS R) vs H Q E → vs.length = ps.length := by
    rintro vs H Q E ⟨cs, r, cs', ⟨ds, d, h, rfl, _⟩, F, Sa, _⟩
    have : vs.length = (ds.map Cell.dat).length := by simpa using Sa.len
    rw [this, List.length_map]
    exact len ds d h
  refine fn_body F Sc ln fun cdv A outer s H vs Q E room grd pr => ?_
  obtain ⟨cs, r, cs', ⟨ds, d, h, rfl, rfl, rfl⟩, Fz, Sa, kk⟩ := pr
  obtain ⟨rfl, ρ1, hb⟩ := body cdv A outer s H E room grd ds d h
  refine ⟨_, hb.nox, Fz, sat_enter Sa, ?_⟩
  intro σ' F' H' step
  obtain ⟨a, b, _⟩ := leave Sa step rfl fun i c h => .inl ⟨dat_none h, h⟩
  exact kk .non F' H' a b .non
end
end Cl

namespace Cl1
open PySem PySem.Spec PyProof.Rows L2
set_option maxHeartbeats 4000000
theorem tuple_mul1 (l : Addr) (items : Array Value) (n : Nat) (dd : Option Addr) (sl : Array (Option Value)) (u : Tok) :
    Meets (Builtin.«tuple.__mul__» ⟨[.ref l, .int 1 u], []⟩) (fun _ R s => s.heap.get? l = some { cls := .type "tuple", dict := dd, data := .seq items n, slots := sl } ∧
      R (.ok (.ret (Value.ref l))) s) :=
  .of_wp fun prog w A R s h => by
    obtain ⟨hp, g, d, tk, os⟩ := s
    obtain ⟨hl, h⟩ := h
    have f1 := AutoSeq1.idx_int
    wp_walk using wpAny_loadPart' hl
    exact ⟨_, rfl, h⟩

/-- tuple * 1: the tuple itself -/
theorem op_repT1 {X : Cx} : OpR X (binaryOp .Mult) (fun x y H Q => ∃ l xs, x = .ref l ∧ y = .int 1 ∧ SqT X.K H l xs ∧ Q (.ref l) H) := by
  intro pins s σ H x y v u Q I rx ry h
  obtain ⟨l, xs, rfl, rfl, hT, q⟩ := h
  cases rx
  obtain ⟨t, rfl⟩ := ry
  obtain ⟨its, r, ⟨⟨cls, dd, data, sl⟩, ho, hc, n, hd⟩, hs⟩ := I.tuple hT
  simp only at hc hd
  subst hc hd
  refine wpAny_binaryOp_repeat_ref (T := "tuple") (U := "int") (by decide) ⟨_, ho, rfl⟩ (fun s' => typeIs_int s' 1 t) noFill_tuple_mul F.fills_int_mul F.slot_int_rmul repeat_tuple F.slot_int_index.lookup
    (call_meets F.slot_int_rmul (typeIs_int s 1 t) F.entry_int_rmul (F.args_int_rmul_2 _ _) (int_rmul_tuple 1 t l its.toArray n dd sl)
      ⟨ho, rfl, ⟨_, ho, rfl⟩, call_meets F.slot_tuple_mul ⟨_, ho, rfl⟩ F.entry_tuple_mul (F.args_tuple_mul_2 _ _) (tuple_mul1 l its.toArray n dd sl t) ⟨ho, ?_⟩⟩)
  exact ⟨.ref l, H, I, rfl, q⟩
end Cl1
namespace Cl
open PySem PySem.Spec PyProof.Rows L2
section
variable {X : Cx} {ρ ρ1 ρ2 : Rho} {a b : Expr} {ds : List PyData} {pos : Pos} {i : Int}
theorem e_repT1 (ha : ED X ρ a ρ1 (.tuple ds)) (hb : ED X ρ1 b ρ2 (.int 1)) : ED X ρ (.BinOp a .Mult b pos) ρ2 (.tuple ds) :=
  (pe_op Cl1.op_repT1 ha hb).weak fun σ H Q ⟨F, S, k⟩ => ⟨F, S, fun x F1 H1 s1 o1 v1 => ⟨F1, s1.sat, fun y F2 H2 s2 o2 v2 => by
    have v3 := Dq.mono s2.fr _ v1
    have v4 : Dq X.K F2 y (.int 1) := v2
    cases v4
    cases v3 with
    | tup hs ha => exact ⟨_, _, rfl, rfl, sqT_same s2.sat.sub hs, k _ F2 H2 (s1.trans s2) (fun q h => o1 q (o2 q h)) (.tup hs ha)⟩⟩⟩
/-- tuple * n from 1 on -/
theorem e_repTn {l : List PyData} (ha : ED X ρ a ρ1 (.tuple ds)) (hb : ED X ρ1 b ρ2 (.int i)) (h1 : 1 ≤ i) (h2 : i ≤ 1000) (h0 : ds ≠ []) (hz : ds.length ≤ 1000) (h : (List.replicate i.toNat ds).flatten = l) : ED X ρ (.BinOp a .Mult b pos) ρ2 (.tuple l) := by
  subst h
  by_cases z : i = 1
  · subst z
    have e : (List.replicate (Int.toNat 1) ds).flatten = ds := by
      show (List.replicate 1 ds).flatten = ds
      simp
    rw [e]
    exact e_repT1 ha hb
  · exact e_repT ha hb (by omega) h2 h0 hz
end
end Cl
namespace Cl
open PySem PySem.Spec PyProof.Rows L2
/-! ### repr of any data (dicts: the empty one, alone) -/
def Showy2 : PyData → Prop
  | .none => True
  | .bool _ => True
  | .int i => i.natAbs.log2 < 1920
  | .str x => (reprText x).length ≤ sizeLine
  | .dict kvs => kvs = []
  | .list ds => Showy (.list ds)
  | .tuple ds => Showy (.tuple ds)
section
variable {X : Cx} {d : PyData}
theorem f_reprA (hg : X.A.guards = some []) (hu : X.A.units + 64 < cLine) (h : Showy2 d) : CallD X (.builtin "repr") [d] (.str d.shown) := by
  refine ⟨fun vs H Q => ∃ v, vs = [v] ∧ Dq X.K H v d ∧ Q (.str d.shown) H, ?_, fun F H vs Q s hv k => ?_⟩
  · intro pins s σ H vs us Q I r h9
    obtain ⟨v, rfl, hd, q⟩ := h9
    cases r with
    | cons r1 t =>
      cases t
      cases d with
      | none =>
        cases hd
        cases r1
        exact PySem.P.repr_of_none ⟨.str (PyData.none).shown, H, I.kept (fun _ _ e => e), ⟨_, by rw [PyData.shown_none]⟩, q⟩
      | bool b =>
        cases hd
        cases r1
        exact PySem.P.repr_of_bool ⟨.str (PyData.bool b).shown, H, I.kept (fun _ _ e => e), ⟨_, by rw [PyData.shown_bool]⟩, q⟩
      | int i =>
        cases hd
        obtain ⟨t, rfl⟩ := r1
        exact PySem.P.repr_of_int h ⟨.str (PyData.int i).shown, H, I.kept (fun _ _ e => e), ⟨_, by rw [PyData.shown_int]⟩, q⟩
      | str x =>
        cases hd
        obtain ⟨t, rfl⟩ := r1
        exact PySem.P.repr_of_str ⟨.str (PyData.str x).shown, H, I.kept (fun _ _ e => e), ⟨_, by rw [PyData.shown_str]⟩, q⟩ h
      | list ds =>
        have hs : Showy (.list ds) := h
        cases hd with
        | lst h1 h2 =>
          cases r1
          obtain ⟨as, rd⟩ := Dq.rd I (.list ds) _ _ (.lst h1 h2) rfl
          exact repr_of_reads' rd hs.able (PySem.PyData.noDict_hsm hs.nodict) hg (by have := hs.depth; omega) (fun _ _ e => e) (fun h' u tk hk => ⟨.str _, H, I.kept hk, ⟨u, rfl⟩, q⟩) hs.size
      | tuple ds =>
        have hs : Showy (.tuple ds) := h
        cases hd with
        | tup h1 h2 =>
          cases r1
          obtain ⟨as, rd⟩ := Dq.rd I (.tuple ds) _ _ (.tup h1 h2) rfl
          exact repr_of_reads' rd hs.able (PySem.PyData.noDict_hsm hs.nodict) hg (by have := hs.depth; omega) (fun _ _ e => e) (fun h' u tk hk => ⟨.str _, H, I.kept hk, ⟨u, rfl⟩, q⟩) hs.size
      | dict kvs =>
        have e : kvs = [] := h
        subst e
        cases hd with
        | dct hs =>
          cases r1
          obtain ⟨_, ns, vs, kv, o, es, ep, ho, ex, hd, q2⟩ := I.hok _ _ hs
          cases kv
          have z : es.toList = [] := by
            have q2 := q2.2.1
            cases h9 : es.toList with
            | nil => rfl
            | cons e r => rw [h9] at q2; cases q2
          refine repr_of_reads' (d := .dict []) (.dict (kvs := []) (as := []) (bs := []) ho ex.1 hd ?_ ?_) (by simp [PyData.showable, PyData.showableKv]) (fun _ hm => ?_) hg (by simp [PyData.depth, PyData.depthKv]; omega) (fun _ _ e => e) (fun h' u tk hk => ⟨.str _, H, I.kept hk, ⟨u, rfl⟩, q⟩) (by decide +kernel)
          · rw [z]; exact .nil
          · rw [z]; exact .nil
          · have := List.mem_singleton.mp hm
            rw [← this] at ns
            simp at ns
  · cases hv with
    | cons h1 t =>
      cases t
      exact ⟨_, rfl, Dq.mono s _ h1, k _ F H (Grow.refl s) (.str _)⟩
theorem konst_int {K : PySem.W.Frag} {mg : Str → Option Value} {x : Str} {i : Int} {t : Tok} (h : mg x = some (.int i t)) : Konst K mg x (.int i) := ⟨.int i, _, h, ⟨t, rfl⟩, fun _ => .int i⟩
end
end Cl
namespace Cl
open PySem PySem.Spec PyProof.Rows L2
section
variable {X : Cx} {ρ ρ1 ρ2 : Rho} {e : Expr} {u v : Bool}
theorem e_convB (h : ED X ρ e ρ1 (.bool u)) (q : u = v) : ED X ρ e ρ1 (.bool v) := by rw [← q]; exact h
end
section
variable {X : Cx} {sc : Scope} {ρ : Rho} {tg elt : Expr} {vs : List Nat} {ifs : List Expr}
theorem pairD_map {α β : Type} (e1 : α → PyData) (e2 : β → PyData) : ∀ (a : List α) (b : List β), pairD (a.map e1) (b.map e2) = (a.zip b).map fun p => .tuple [e1 p.1, e2 p.2]
  | [], _ => by simp [pairD]
  | _ :: _, [] => by simp [pairD]
  | x :: a, y :: b => by
    have := pairD_map e1 e2 a b
    unfold pairD at this ⊢
    simp [this]
theorem lc_pair {α β : Type} (e1 : α → PyData) (e2 : β → PyData) (g : α × β → PyData) (a : List α) (b : List β)
    (step : ∀ x ∈ a.zip b, ∃ ρ1 ρ2 ρ3, (Bk X sc fun B => GD B vs ρ tg (.tuple [e1 x.1, e2 x.2]) ρ1) ∧ (Bk X sc fun B => TsD B ρ1 ifs ρ2 true) ∧ (Bk X sc fun B => ED B ρ2 elt ρ3 (g x)) ∧ forgetR ρ3 vs = ρ) :
    LcD X sc vs tg ifs elt (pairD (a.map e1) (b.map e2)) ρ ((a.zip b).map g) ρ := by
  rw [pairD_map]
  exact lc_map (fun p : α × β => .tuple [e1 p.1, e2 p.2]) g (a.zip b) step
end
section
variable {X : Cx} {sc : Scope} {ρ : Rho} {tg elt : Expr} {vs : List Nat} {ifs : List Expr}
theorem lc_each (g : PyData → PyData) (l : List PyData)
    (step : ∀ x ∈ l, ∃ ρ1 ρ2 ρ3, (Bk X sc fun B => GD B vs ρ tg x ρ1) ∧ (Bk X sc fun B => TsD B ρ1 ifs ρ2 true) ∧ (Bk X sc fun B => ED B ρ2 elt ρ3 (g x)) ∧ forgetR ρ3 vs = ρ) :
    LcD X sc vs tg ifs elt l ρ (l.map g) ρ := by
  have := lc_map (X := X) (sc := sc) (ρ := ρ) (tg := tg) (elt := elt) (vs := vs) (ifs := ifs) id g l step
  rwa [List.map_id] at this
end
/-! ### what a value is -/
def isI (x : PyData) : Bool := isName x "int" && !isName x "bool"
def isFr : PyData → Bool
  | .tuple [.int a, .int b] => decide (1 ≤ b) && decide (((Nat.gcd a.natAbs b.natAbs : Nat) : Int) = 1)
  | _ => false
theorem tuple_of {x : PyData} (h : isName x "tuple" = true) : ∃ l, x = .tuple l := by
  cases x <;> first | exact ⟨_, rfl⟩ | exact absurd h (by decide) | exact absurd h (fun z => nomatch z)
theorem int_of {x : PyData} (h : isI x = true) : ∃ i, x = .int i := by
  cases x <;> first | exact ⟨_, rfl⟩ | exact absurd h (fun z => nomatch z)
theorem two_of {l : List PyData} (h : l.length = 2) : ∃ a b, l = [a, b] := by
  match l, h with
  | [a, b], _ => exact ⟨a, b, rfl⟩
theorem isFr_no {x : PyData} (h : ¬ isName x "tuple" = true) : isFr x = false := by
  unfold isFr
  split
  · exact absurd rfl h
  · rfl
theorem isFr_len {l : List PyData} (h : ¬ l.length = 2) : isFr (.tuple l) = false := by
  unfold isFr
  split
  · next e => cases e; exact absurd rfl h
  · rfl
theorem isFr_a {a b : PyData} (h : ¬ isI a = true) : isFr (.tuple [a, b]) = false := by
  unfold isFr
  split
  · next e => cases e; exact absurd rfl h
  · rfl
theorem isFr_b {a b : PyData} (h : ¬ isI b = true) : isFr (.tuple [a, b]) = false := by
  unfold isFr
  split
  · next e => cases e; exact absurd rfl h
  · rfl
theorem isFr_fr {p : Fr} (h : Low p) : isFr (fr p) = true := by
  show (decide (1 ≤ p.2) && decide (((Nat.gcd p.1.natAbs p.2.natAbs : Nat) : Int) = 1)) = true
  rw [h.2, decide_eq_true h.1]
  rfl
/-- the law's own look -/
theorem isFr_mk {a b : Int} (h : 0 < b) : decide (mk a b = (a, b)) = isFr (.tuple [.int a, .int b]) := by
  show _ = (decide (1 ≤ b) && decide (((Nat.gcd a.natAbs b.natAbs : Nat) : Int) = 1))
  rw [decide_eq_true (show (1 : Int) ≤ b by omega), Bool.true_and, mk_pos (by omega)]
  by_cases g : Nat.gcd a.natAbs b.natAbs = 1
  · rw [decide_eq_true (by unfold gi; rw [g]; simp), decide_eq_true (by rw [g]; rfl)]
  · rw [decide_eq_false, decide_eq_false (by omega)]
    intro e
    have e2 : b.fdiv (gi a b) = b := congrArg Prod.snd e
    have hp : 0 < gi a b := gi_pos (by omega)
    have hd := gi_dvd2 a b
    have e3 : gi a b * b.fdiv (gi a b) = b := Int.mul_fdiv_cancel' hd
    rw [e2] at e3
    have e4 : gi a b * b = 1 * b := by omega
    have e5 := Int.eq_of_mul_eq_mul_right (by omega) e4
    unfold gi at e5
    omega
/-- a vector -/
def vec (v : List Fr) : PyData := .tuple (v.map fr)
def isV : PyData → Bool
  | .tuple ds => (decide (1 ≤ (ds.length : Int)) && decide ((ds.length : Int) ≤ 3)) && (ds.map isFr).all id
  | _ => false
theorem isV_no {x : PyData} (h : ¬ isName x "tuple" = true) : isV x = false := by
  unfold isV
  split
  · exact absurd rfl h
  · rfl
theorem isV_vec {v : List Fr} (h1 : 1 ≤ v.length) (h2 : v.length ≤ 3) (h : ∀ p ∈ v, Low p) : isV (vec v) = true := by
  show ((decide (1 ≤ ((v.map fr).length : Int)) && decide (((v.map fr).length : Int) ≤ 3)) && ((v.map fr).map isFr).all id) = true
  rw [List.length_map, decide_eq_true (by omega), decide_eq_true (by omega), List.map_map, List.all_map]
  exact List.all_eq_true.mpr fun p hp => isFr_fr (h p hp)
def vPlus (a b : List Fr) : List Fr := (a.zip b).map fun p => fPlus p.1 p.2
def vMinus (a b : List Fr) : List Fr := (a.zip b).map fun p => fMinus p.1 p.2
def vTimes (a : List Fr) (n : Fr) : List Fr := a.map fun p => fTimes p n
theorem vec_zip {f : Fr → Fr → Fr} {a b : List Fr} : PyData.tuple ((a.zip b).map fun p => fr (f p.1 p.2)) = vec ((a.zip b).map fun p => f p.1 p.2) := by
  unfold vec
  rw [List.map_map]
  rfl
theorem vec_map {α : Type} {f : α → Fr} {a : List α} : PyData.tuple (a.map fun p => fr (f p)) = vec (a.map f) := by
  unfold vec
  rw [List.map_map]
  rfl
theorem rep_vec {p : Fr} (n : Nat) : (List.replicate n [fr p]).flatten = (List.replicate n p).map fr := by
  induction n with
  | zero => rfl
  | succ n ih => rw [List.replicate_succ, List.flatten_cons, ih, List.replicate_succ]; rfl
theorem mem_zip {a b : List Fr} {x : Fr × Fr} (h : x ∈ a.zip b) : x.1 ∈ a ∧ x.2 ∈ b := by
  obtain ⟨u, v⟩ := x
  exact List.of_mem_zip h
end Cl

set_option maxRecDepth 100000
namespace Cl
open PySem PySem.Spec PyProof.Rows L2
section
variable {X : Cx} {ρ ρ1 ρ2 : Rho} {e1 e2 c : Expr} {d d1 d2 : PyData} {l : List PyData} {x y : Str} {pos : Pos} {body : List Stmt}
/-- a, b = e1, e2 by a tuple (one of the names is captured): data -/
theorem s_parC (n m : Nat) {kt k2 : Nat} {pt pt2 px py : Pos} (hc : X.calm = true) (ha : ED X ρ e1 ρ1 d1) (hb : ED X ρ1 e2 ρ2 d2) (nd : X.N.Nodup) (hN : X.N[n]? = some x) (hM : X.N[m]? = some y) (hnm : n ≠ m) (hx : Loc X.env.scope x) (hy : Loc X.env.scope y)
    (hw : swappedStores [.Tuple [.Name x px, .Name y py] kt pt] (.Tuple [e1, e2] k2 pt2) X.env = pure none)
    (hf : X.fn x = true ∨ X.env.scope.names.lookup x = some .local := by first | exact .inl rfl | exact .inr rfl | assumption) (hf2 : X.fn y = true ∨ X.env.scope.names.lookup y = some .local := by first | exact .inl rfl | exact .inr rfl | assumption)
    (hq : starEach [e1, e2] X.env = (false, eval e1 X.env) :: starEach [e2] X.env := by rfl) (hq2 : starEach [e2] X.env = (false, eval e2 X.env) :: starEach [] X.env := by rfl)
    (hs : swapsWithSole [.Tuple [.Name x px, .Name y py] kt pt] (.Tuple [e1, e2] k2 pt2) pos.line X.env = pure false := by rfl)
    (h1 : (assignEach [.Tuple [.Name x px, .Name y py] kt pt] X.env).map (·.2) = [assign (.Tuple [.Name x px, .Name y py] kt pt) X.env] := by rfl)
    (hn : (assignEach [.Name x px, .Name y py] X.env).length = 2 := by rfl) (hst : (assignEach [.Name x px, .Name y py] X.env).findIdx? (·.1) = none := by rfl)
    (hc1 : (assignEach [.Name x px, .Name y py] X.env).map (·.2) = assign (.Name x px) X.env :: (assignEach [.Name y py] X.env).map (·.2) := by rfl) (hc2 : (assignEach [.Name y py] X.env).map (·.2) = assign (.Name y py) X.env :: (assignEach [] X.env).map (·.2) := by rfl) :
    SD X ρ (.Assign [.Tuple [.Name x px, .Name y py] kt pt] (.Tuple [e1, e2] k2 pt2) pos) (.nx ((ρ2.set n (some (.dat d1))).set m (some (.dat d2)))) :=
  (ps_asg (pe_tup (pa_cons ha (pa_cons hb pa_nil hq2) hq)) (pg_tup hc (pgs_cons (pg_name nd hN hx hf) (pgs_cons (pg_name nd hM hy hf2) pgs_nil hc2) hc1) hn hst) hs hw h1).weak fun D σ H ⟨F, S, g⟩ => ⟨F, S, fun v1 F1 H1 s1 o1 h1 => ⟨F1, s1.sat, fun v2 F2 H2 s2 o2 h2 => by
    refine ⟨Nat.le_of_ble_eq_true rfl, fun p hp => ⟨p, [v1, v2], rfl, .inl (.inl upd_same), rfl, v1, [v2], rfl, v2, [], rfl, rfl, ?_⟩⟩
    have s12 := s1.trans s2
    have tl := s12.trans (Step.laidM s2.sat (o := .tup [v1, v2]) hp)
    have t1 := tl.trans (Step.setD (n := n) (d := d1) tl.sat (Dq.mono s2.fr _ h1))
    exact g _ F2 _ (t1.trans (Step.setD (n := m) (d := d2) t1.sat h2))⟩⟩
end
section
variable {X : Cx} {ρ : Rho} {tg : Expr} {vs : List Nat} {body : List Stmt}
theorem forD_each (fs : List Nat) (I : PyData → Prop) (l : List PyData)
    (step : ∀ x, I x → ∃ ρ1 ρ2, GD X vs ρ tg x ρ1 ∧ SDs X ρ1 body (.nx ρ2) ∧ forgetR ρ2 fs = ρ) (h0 : ∀ x ∈ l, I x) : ForD X tg vs body (.nx ρ) l ρ := by
  induction l with
  | nil => exact .nil rfl
  | cons x r ih =>
    obtain ⟨ρ1, ρ2, h1, h2, h3⟩ := step x (h0 x List.mem_cons_self)
    exact .next h1 (by rw [← h3]; exact ss_forget fs h2) (ih fun y hy => h0 y (List.mem_cons_of_mem _ hy))
end
theorem pick_get {xs : List PyData} {i : Int} (h0 : 0 ≤ i) (h1 : i < xs.length) : atI xs i = some (xs.getD i.toNat .none) := by
  rw [atI_eq h0 h1]
  have : i.toNat < xs.length := by omega
  rw [List.getD_eq_getElem?_getD, List.getElem?_eq_getElem this]
  rfl
theorem cutD_mem {ds : List PyData} {m n : Option Int} {y : PyData} (h : y ∈ cutD ds m n) : y ∈ ds := List.mem_of_mem_drop (List.mem_of_mem_take h)
theorem cutD_len {ds : List PyData} {m n : Option Int} : (cutD ds m n).length ≤ ds.length := by
  unfold cutD
  rw [List.length_take, List.length_drop]
  omega
theorem nodA_le {k : Nat} : ∀ {l : List PyData}, (∀ y ∈ l, nod y ≤ k) → nodA l ≤ k * l.length
  | [], _ => by simp [nodA]
  | x :: l, h => by
    have a := h x List.mem_cons_self
    have b := nodA_le (l := l) fun y hy => h y (List.mem_cons_of_mem _ hy)
    simp only [nodA, List.length_cons]
    rw [Nat.mul_succ]
    omega
theorem runT_all {α β γ : Type} {f : β → α → β × γ} {I : β → Prop} {Q : γ → Prop} (h : ∀ b x, I b → I (f b x).1 ∧ Q (f b x).2) : ∀ (l : List α) (b : β), I b → I (endT f b l) ∧ ∀ y ∈ runT f b l, Q y
  | [], _, hb => ⟨hb, fun _ hy => nomatch hy⟩
  | x :: r, b, hb => ⟨(runT_all h r _ (h b x hb).1).1, fun y hy => by
      rcases List.mem_cons.mp hy with rfl | hy
      · exact (h b x hb).2
      · exact (runT_all h r _ (h b x hb).1).2 y hy⟩
theorem runL_all {α β : Type} {f : β → α → β × PyData} {I : β → Prop} {Q : PyData → Prop} (h : ∀ b x, I b → I (f b x).1 ∧ Q (f b x).2) : ∀ (l : List α) (b : β), I b → I (endL f b l) ∧ ∀ y ∈ runL f b l, Q y
  | [], _, hb => ⟨hb, fun _ hy => nomatch hy⟩
  | x :: r, b, hb => ⟨(runL_all h r _ (h b x hb).1).1, fun y hy => by
      rcases List.mem_cons.mp hy with rfl | hy
      · exact (h b x hb).2
      · exact (runL_all h r _ (h b x hb).1).2 y hy⟩
theorem runT_true {α β : Type} {g : β → α → β} : ∀ (l : List α) (b : β), (runT (fun b x => (g b x, true)) b l).all id = true
  | [], _ => rfl
  | _ :: r, b => runT_true (g := g) r _
theorem vec_shaped {v : List Fr} (h : v.length ≤ 3) : SeqAt.shaped (vec v) = true := by
  match v, h with
  | [], _ => rfl
  | [a], _ => simp [vec, fr, SeqAt.shaped, PyData.canLay0, PyData.canLayAll0, PyData.depth, PyData.depthAll]
  | [a, b], _ => simp [vec, fr, SeqAt.shaped, PyData.canLay0, PyData.canLayAll0, PyData.depth, PyData.depthAll]
  | [a, b, c], _ => simp [vec, fr, SeqAt.shaped, PyData.canLay0, PyData.canLayAll0, PyData.depth, PyData.depthAll]
theorem vec_eqv {v : List Fr} : PyData.eqv (vec v) (vec v) = true := by
  refine PySem.SeqAt.eqv_refl _ ?_
  have : ∀ l : List Fr, PyData.canLayAll0 (l.map fr) = true := fun l => by
    induction l with
    | nil => rfl
    | cons a l ih => simp [fr, PyData.canLayAll0, PyData.canLay0, ih]
  show PyData.canLay0 (.tuple (v.map fr)) = true
  simp [PyData.canLay0, this]
/-- a sum less one of both -/
theorem mk_mul {a b c : Int} (hb : 0 < b) (hc : 0 < c) : mk (a * c) (b * c) = mk a b := by
  have hbc : 0 < b * c := Int.mul_pos hb hc
  rw [mk_pos (by omega), mk_pos (by omega)]
  have hg : gi (a * c) (b * c) = gi a b * c := by
    unfold gi
    rw [Int.natAbs_mul, Int.natAbs_mul, Nat.gcd_mul_right]
    have : (c.natAbs : Int) = c := by omega
    rw [Int.natCast_mul, this]
  have gp : 0 < gi a b := gi_pos (by omega)
  rw [hg]
  rw [Int.mul_comm a c, Int.mul_comm b c, Int.mul_comm (gi a b) c, Int.mul_fdiv_mul_of_pos _ _ hc, Int.mul_fdiv_mul_of_pos _ _ hc]
theorem mk_self {p : Fr} (h : Low p) : mk p.1 p.2 = p := by
  have := h.1
  rw [mk_pos (by omega)]
  have g : gi p.1 p.2 = 1 := by unfold gi; rw [h.2]; rfl
  rw [g, Int.fdiv_one, Int.fdiv_one]
theorem mk_cross {a b x y : Int} (hb : 0 < b) (hy : 0 < y) (h : a * y = x * b) : mk a b = mk x y := by
  rw [← mk_mul hb hy, ← mk_mul hy hb, h, Int.mul_comm b y]
theorem mk_val {a b : Int} (hb : 0 < b) : (mk a b).1 * b = a * (mk a b).2 ∧ 0 < (mk a b).2 := by
  have hp := mk_two_pos (a := a) (b := b) (by omega)
  refine ⟨?_, by omega⟩
  rw [mk_pos (by omega)]
  have e1 := Int.mul_fdiv_cancel' (gi_dvd1 a b)
  have e2 := Int.mul_fdiv_cancel' (gi_dvd2 a b)
  show a.fdiv (gi a b) * b = a * b.fdiv (gi a b)
  calc a.fdiv (gi a b) * b = a.fdiv (gi a b) * (gi a b * b.fdiv (gi a b)) := by rw [e2]
    _ = gi a b * a.fdiv (gi a b) * b.fdiv (gi a b) := by rw [← Int.mul_assoc, Int.mul_comm (a.fdiv (gi a b))]
    _ = a * b.fdiv (gi a b) := by rw [e1]
theorem plus_minus {a b : Fr} (ha : Low a) (hb : Low b) : fMinus (fPlus a b) b = a := by
  have a1 := ha.1
  have b1 := hb.1
  have hm : 0 < a.2 * b.2 := Int.mul_pos (by omega) (by omega)
  obtain ⟨e, hp⟩ := mk_val (a := a.1 * b.2 + b.1 * a.2) hm
  conv => rhs; rw [← mk_self ha]
  show mk ((mk (a.1 * b.2 + b.1 * a.2) (a.2 * b.2)).1 * b.2 - b.1 * (mk (a.1 * b.2 + b.1 * a.2) (a.2 * b.2)).2) ((mk (a.1 * b.2 + b.1 * a.2) (a.2 * b.2)).2 * b.2) = _
  generalize (mk (a.1 * b.2 + b.1 * a.2) (a.2 * b.2)).1 = x at e hp ⊢
  generalize (mk (a.1 * b.2 + b.1 * a.2) (a.2 * b.2)).2 = y at e hp ⊢
  refine mk_cross (Int.mul_pos hp (by omega)) (by omega) ?_
  have e2 : x * b.2 * a.2 = (a.1 * b.2 + b.1 * a.2) * y := by rw [← e]; ac_rfl
  rw [Int.sub_mul, e2, Int.add_mul]
  have : b.1 * y * a.2 = b.1 * a.2 * y := by ac_rfl
  rw [this, Int.add_sub_cancel]
  ac_rfl
theorem vec_plus_minus : ∀ {a b : List Fr}, a.length = b.length → (∀ p ∈ a, Low p) → (∀ p ∈ b, Low p) → vMinus (vPlus a b) b = a
  | [], b, h, _, _ => by cases b <;> rfl
  | x :: a, [], h, _, _ => by cases h
  | x :: a, y :: b, h, ha, hb => by
    have := vec_plus_minus (a := a) (b := b) (Nat.succ.inj h) (fun p hp => ha p (List.mem_cons_of_mem _ hp)) fun p hp => hb p (List.mem_cons_of_mem _ hp)
    show fMinus (fPlus x y) y :: vMinus (vPlus a b) b = _
    rw [this, plus_minus (ha x List.mem_cons_self) (hb y List.mem_cons_self)]
end Cl

set_option maxRecDepth 100000
namespace Cl
open PySem PySem.Spec PyProof.Rows L2
/-! ### fractions are the rational numbers -/
def fq (q : Rat) : Fr := (q.num, (q.den : Int))
def qf (p : Fr) : Rat := Rat.divInt p.1 p.2
theorem fq_low (q : Rat) : Low (fq q) := ⟨by
  have := q.den_nz
  show (1 : Int) ≤ (q.den : Int)
  omega, by
  show Nat.gcd q.num.natAbs ((q.den : Int)).natAbs = 1
  rw [Int.natAbs_natCast]
  exact q.reduced⟩
theorem qf_fq (q : Rat) : qf (fq q) = q := Rat.num_divInt_den q
theorem fq_qf {p : Fr} (h : Low p) : fq (qf p) = p := by
  obtain ⟨a, b⟩ := p
  have hb : (1 : Int) ≤ b := h.1
  have hg : Nat.gcd a.natAbs b.natAbs = 1 := h.2
  have e1 : b.toNat = b.natAbs := by omega
  let q : Rat := ⟨a, b.toNat, by omega, by show Nat.gcd a.natAbs b.toNat = 1; rw [e1]; exact hg⟩
  have e : fq q = (a, b) := by
    show (a, ((b.toNat : Nat) : Int)) = (a, b)
    rw [Int.toNat_of_nonneg (by omega)]
  rw [← e, qf_fq]
theorem fq_inj {x y : Rat} (h : fq x = fq y) : x = y := by rw [← qf_fq x, h, qf_fq]
theorem mk_flip {a b : Int} (h : b < 0) : mk a b = mk (0 - a) (0 - b) := by
  rw [mk_neg h, mk_pos (by omega)]
  have : gi (0 - a) (0 - b) = gi a b := by
    unfold gi
    have h1 : (0 - a).natAbs = a.natAbs := by omega
    have h2 : (0 - b).natAbs = b.natAbs := by omega
    rw [h1, h2]
  rw [this]
theorem mk_vals {a b : Int} (hb : b ≠ 0) : (mk a b).1 * b = a * (mk a b).2 := by
  by_cases h : 0 < b
  · exact (mk_val h).1
  · rw [mk_flip (by omega)]
    have := (mk_val (a := 0 - a) (b := 0 - b) (by omega)).1
    have e : (mk (0 - a) (0 - b)).1 * (0 - b) = -((mk (0 - a) (0 - b)).1 * b) := by rw [Int.mul_sub, Int.mul_zero, Int.zero_sub]
    have e2 : (0 - a) * (mk (0 - a) (0 - b)).2 = -(a * (mk (0 - a) (0 - b)).2) := by rw [Int.sub_mul, Int.zero_mul, Int.zero_sub]
    rw [e, e2] at this
    omega
theorem mk_q {a b : Int} (hb : b ≠ 0) : mk a b = fq (Rat.divInt a b) := by
  have l := mk_low (a := a) hb
  rw [← fq_qf l]
  congr 1
  exact (Rat.divInt_eq_divInt_iff l.ne hb).mpr (mk_vals hb)
theorem den_ne (x : Rat) : (x.den : Int) ≠ 0 := by have := x.den_nz; omega
theorem fPlus_q (x y : Rat) : fPlus (fq x) (fq y) = fq (x + y) := by
  show mk (x.num * y.den + y.num * x.den) (x.den * y.den) = _
  rw [mk_q (Int.mul_ne_zero (den_ne x) (den_ne y))]
  congr 1
  conv => rhs; rw [← Rat.num_divInt_den x, ← Rat.num_divInt_den y]
  rw [Rat.divInt_add_divInt _ _ (den_ne x) (den_ne y)]
theorem fMinus_q (x y : Rat) : fMinus (fq x) (fq y) = fq (x - y) := by
  show mk (x.num * y.den - y.num * x.den) (x.den * y.den) = _
  rw [mk_q (Int.mul_ne_zero (den_ne x) (den_ne y))]
  congr 1
  conv => rhs; rw [← Rat.num_divInt_den x, ← Rat.num_divInt_den y]
  rw [Rat.divInt_sub_divInt _ _ (den_ne x) (den_ne y)]
theorem fTimes_q (x y : Rat) : fTimes (fq x) (fq y) = fq (x * y) := by
  show mk (x.num * y.num) (x.den * y.den) = _
  rw [mk_q (Int.mul_ne_zero (den_ne x) (den_ne y))]
  congr 1
  conv => rhs; rw [← Rat.num_divInt_den x, ← Rat.num_divInt_den y]
  rw [Rat.divInt_mul_divInt]
theorem fLess_q (x y : Rat) : fLess (fq x) (fq y) = decide (x < y) := by
  unfold fLess
  exact decide_eq_decide.mpr (Rat.lt_iff x y).symm
theorem zero_q : ((0, 1) : Fr) = fq 0 := rfl
end Cl

set_option maxRecDepth 100000
namespace Cl
open PySem PySem.Spec PyProof.Rows L2
/-! ### in, is None, sorted, pop -/
section
variable {K : PySem.W.Frag} {F : Hp}
theorem ints_of : ∀ {l : List Int} {xs : List V}, DqA K F xs (l.map .int) → xs = l.map V.int
  | [], _, h => by cases h; rfl
  | i :: l, _, h => by
    cases h with
    | cons a b =>
      cases a
      rw [ints_of b]
      rfl
theorem inV_ints (i : Int) : ∀ l : List Int, inV (.int i) (l.map V.int) = decide (i ∈ l)
  | [] => rfl
  | j :: l => by
    have ih := inV_ints i l
    unfold inV at ih ⊢
    rw [List.map_cons, List.any_cons, ih]
    show ((j == i) || decide (i ∈ l)) = _
    by_cases h : i = j
    · subst h
      simp
    · have h2 : (j == i) = false := beq_eq_false_iff_ne.mpr fun e => h e.symm
      rw [h2, Bool.false_or]
      simp [h]
theorem flat_ints (l : List Int) : (l.map V.int).all flatV = true := by rw [List.all_map]; exact List.all_eq_true.mpr fun _ _ => rfl
end
section
variable {X : Cx} {i : Int} {l : List Int} {ds : List PyData} {d : PyData}
theorem c_inL (h : ds = l.map .int) : CmpD X .In (.int i) (.list ds) (decide (i ∈ l)) := ⟨_, op_in_seq, fun F H x y Q s hx hy k => by
  subst h
  cases hx
  cases hy with
  | lst hs ha =>
    have e := ints_of ha
    subst e
    exact ⟨_, _, rfl, .inl (.inl (.inl (s _ _ hs))), rfl, flat_ints l, by rw [if_neg Bool.false_ne_true, inV_ints]; exact k⟩⟩
theorem c_inT (h : ds = l.map .int) : CmpD X .In (.int i) (.tuple ds) (decide (i ∈ l)) := ⟨_, op_in_seq, fun F H x y Q s hx hy k => by
  subst h
  cases hx
  cases hy with
  | tup hs ha =>
    have e := ints_of ha
    subst e
    exact ⟨_, _, rfl, .inr (sqT_same s hs), rfl, flat_ints l, by rw [if_neg Bool.false_ne_true, inV_ints]; exact k⟩⟩
theorem c_notInL (h : ds = l.map .int) : CmpD X .NotIn (.int i) (.list ds) (!decide (i ∈ l)) := ⟨_, op_notIn_seq, fun F H x y Q s hx hy k => by
  subst h
  cases hx
  cases hy with
  | lst hs ha =>
    have e := ints_of ha
    subst e
    exact ⟨_, _, rfl, .inl (.inl (.inl (s _ _ hs))), rfl, flat_ints l, by rw [if_pos rfl, inV_ints]; exact k⟩⟩
theorem c_notInT (h : ds = l.map .int) : CmpD X .NotIn (.int i) (.tuple ds) (!decide (i ∈ l)) := ⟨_, op_notIn_seq, fun F H x y Q s hx hy k => by
  subst h
  cases hx
  cases hy with
  | tup hs ha =>
    have e := ints_of ha
    subst e
    exact ⟨_, _, rfl, .inr (sqT_same s hs), rfl, flat_ints l, by rw [if_pos rfl, inV_ints]; exact k⟩⟩
def isNone : PyData → Bool
  | .none => true
  | _ => false
theorem dq_none {K : PySem.W.Frag} {F : Hp} {v : V} (h : Dq K F v d) : decide (v = V.non) = isNone d := by
  cases h <;> rfl
theorem c_isN : CmpD X .Is d .none (isNone d) := ⟨_, op_isN, fun F H x y Q s hx hy k => by
  cases hy
  exact ⟨rfl, by rw [dq_none hx]; exact k⟩⟩
theorem c_isNotN : CmpD X .IsNot d .none (!isNone d) := ⟨_, op_notN, fun F H x y Q s hx hy k => by
  cases hy
  exact ⟨rfl, by rw [dq_none hx]; exact k⟩⟩
/-- sorted ints: the one list that is sorted -/
theorem sorted_one {a b : List Int} (p : a.Perm b) (ha : a.Pairwise (· ≤ ·)) (hb : b.Pairwise (· ≤ ·)) : a = b :=
  p.eq_of_pairwise (fun _ _ _ _ h1 h2 => Int.le_antisymm h1 h2) ha hb
def sortI (l : List Int) : List Int := l.mergeSort (fun a b => decide (a ≤ b))
theorem sortI_perm (l : List Int) : (sortI l).Perm l := List.mergeSort_perm l _
theorem sortI_sorted (l : List Int) : (sortI l).Pairwise (· ≤ ·) := by
  have := List.pairwise_mergeSort (le := fun a b : Int => decide (a ≤ b)) (fun a b c h1 h2 => by simp at *; omega) (fun a b => by simp; omega) l
  exact this.imp fun h => by simpa using h
theorem f_sortedI (h : ds = l.map .int) : CallD X (.builtin "sorted") [.list ds] (.list ((sortI l).map .int)) := ⟨_, cr_sortedI, fun F H vs Q s hv k => by
  subst h
  cases hv with
  | cons h1 t =>
    cases t
    cases h1 with
    | lst hs ha =>
      have e := ints_of ha
      subst e
      refine ⟨_, l, rfl, .inl (.inl (s _ _ hs)), fun ns p hp hs' hn => ?_⟩
      have e := sorted_one (hp.trans (sortI_perm l).symm) hs' (sortI_sorted l)
      subst e
      refine k _ _ _ (Grow.laid s hn) (.lst upd_same ?_)
      have : ∀ m : List Int, DqA X.K (upd F p (.lst ((sortI l).map V.int))) (m.map V.int) (m.map .int) := fun m => by
        induction m with
        | nil => exact .nil
        | cons i m ih => exact .cons (.int i) ih
      exact this _⟩
end
end Cl
namespace Cl1
open PySem PySem.Spec PyProof.Rows L2
/-- how many different numbers there are -/
def fewI (ns : List Int) : Nat := (PyProof.Rows.firstMet (fun i => ns.getD i 0) ns.length).length
theorem firstMet_le (f : Nat → Int) : ∀ n, (PyProof.Rows.firstMet f n).length ≤ n
  | 0 => Nat.le_refl 0
  | n + 1 => by
    have ih := firstMet_le f n
    rw [PyProof.Rows.firstMet_succ]
    unfold PyProof.Rows.step_dedup
    split
    · omega
    · rw [List.length_append, List.length_singleton]
      omega
def tLenSetD (K : PySem.W.Frag) (ta : TE) : TE := fun σ H Q => ta σ H fun x H1 => ∃ (l : Addr) (ns : List Int), x = .ref l ∧ SqL K H1 l (ns.map V.int) ∧ ns.length ≤ 4000 ∧ Q (.int (fewI ns : Nat)) H1
theorem pe_lenSetD {X : Cx} {a : Expr} {ta : TE} {p p2 q pos : Pos} (hg : Gl X "len") (hm : X.mg "len" = none) (hg2 : Gl X "set") (hm2 : X.mg "set" = none) (ha : PE X a ta) (hc : X.calm = true := by rfl)
    (na : starEach [a] X.env = (false, eval a X.env) :: starEach [] X.env := by rfl) : PE X (.Call (.Name "len" p) [.Call (.Name "set" p2) [a] [] q] [] pos) (tLenSetD X.K ta) := by
  refine ⟨fun pins s σ H Q I h => ?_⟩
  refine Call_ (ld_blt I hg hm PySem.boot_len ?_)
  refine PyProof.Rows.callWith_builtin1 (PyProof.Rows.args_cons ?_ rfl) rfl rfl
  refine Call_ (ld_blt I hg2 hm2 PyProof.Rows.boot_set ?_)
  refine PyProof.Rows.callWith_type1 (PyProof.Rows.args_cons (thn (ha.run pins s σ H _ I h) fun v s1 ⟨x, H1, I1, r1, q1⟩ => PyProof.Rows.args_nil ?_) na) na rfl
  obtain ⟨l, ns, rfl, hq, hl, q1⟩ := q1
  cases r1
  obtain ⟨its, r, pl, hz⟩ := I1.list hq
  have hlen : its.toArray.size = ns.length := by rw [List.size_toArray, ← r.length, List.length_map]
  refine call_set_list (I1.ok.hd hc) pl.isList (by simpa using RZ.intsAre_vals r) (by rw [hlen]; unfold scanBound; omega) fun h' tk hS hk => ?_
  refine PyProof.Rows.args_nil ?_
  rw [hlen] at hS
  have hle := firstMet_le (fun i => ns.getD i 0) ns.length
  obtain ⟨o, es, ep, t, ho, hex, hd, _, _, _, hf, hn⟩ := hS
  have I2 : Inv X pins σ H1 { s1 with heap := h', toks := tk } := I1.kept fun b o e => hk b o (Heap.lt_size e) e
  exact call_len_set ho hex hd hf (by rw [hn] <;> omega) ⟨.int (fewI ns : Nat), H1, I2.tok _, ⟨_, by rw [hn]; rfl⟩, q1⟩
end Cl1
namespace Cl
open PySem PySem.Spec PyProof.Rows L2
section
variable {X : Cx} {ρ ρ1 ρ2 : Rho} {e a : Expr} {ds : List PyData} {d : PyData} {l : List Int} {p pos p1 p2 p3 q : Pos} {i : Int} {k : Nat}
/-- len(set(ints)) -/
theorem e_lenSet (hg : Gl X "len") (hm : X.mg "len" = none) (hg2 : Gl X "set") (hm2 : X.mg "set" = none) (hc : X.calm = true) (ha : ED X ρ a ρ1 (.list ds)) (h : ds = l.map .int) (hz : l.length ≤ 4000)
    (na : starEach [a] X.env = (false, eval a X.env) :: starEach [] X.env := by rfl) : ED X ρ (.Call (.Name "len" p) [.Call (.Name "set" p2) [a] [] q] [] pos) ρ1 (.int (Cl1.fewI l : Nat)) := by
  subst h
  exact (Cl1.pe_lenSetD hg hm hg2 hm2 ha hc na).weak fun σ H Q ⟨F, S, k⟩ => ⟨F, S, fun x F1 H1 s1 o1 v1 => by
    have v3 : Dq X.K F1 x (.list (l.map .int)) := v1
    cases v3 with
    | lst hs ha =>
      have e := ints_of ha
      subst e
      exact ⟨_, l, rfl, .inl (.inl (s1.sat.sub _ _ hs)), hz, k _ F1 H1 s1 o1 (.int _)⟩⟩
theorem DqA.reverse {K : PySem.W.Frag} {F : Hp} : ∀ {vs : List V} {ds : List PyData}, DqA K F vs ds → DqA K F vs.reverse ds.reverse
  | _, _, .nil => .nil
  | _, _, .cons h t => by
    rw [List.reverse_cons, List.reverse_cons]
    exact t.reverse.append (.cons h .nil)
/-- list[::-1] -/
theorem e_revL (he : ED X ρ e ρ1 (.list ds)) : ED X ρ (.Subscript e (.Slice none none (some (.UnaryOp .USub (.Constant (.int 1) k p1) p2)) p3) pos) ρ1 (.list ds.reverse) :=
  (pe_revL he).weak fun σ H Q ⟨F, S, k⟩ => ⟨F, S, fun x F1 H1 s1 o1 v1 => by
    have v3 : Dq X.K F1 x (.list ds) := v1
    cases v3 with
    | lst hs ha => exact ⟨_, _, rfl, .inl (.inl (s1.sat.sub _ _ hs)), fun q hq => k _ _ _ (s1.trans (Step.laid s1.sat hq)) o1 (.lst upd_same (DqA.mono (same_upd (s1.sat.sub.free hq)) _ ha.reverse))⟩⟩
/-- str(int) -/
theorem f_strI (h : i.natAbs.log2 < 1920) : CallD X (.type "str") [.int i] (.str (toString i)) := ⟨_, call_str_int, fun F H vs Q s hv k => by
  cases hv with
  | cons h1 t =>
    cases t
    cases h1
    exact ⟨i, rfl, h, k _ F H (Grow.refl s) (.str _)⟩⟩
end
end Cl
namespace Cl
open PySem PySem.Spec PyProof.Rows L2
theorem DqA.dropLast {K : PySem.W.Frag} {F : Hp} {vs : List V} {ds : List PyData} (h : DqA K F vs ds) : DqA K F vs.dropLast ds.dropLast := by
  rw [List.dropLast_eq_take, List.dropLast_eq_take, h.length]
  exact h.take _
section
variable {X : Cx} {ρ ρ1 : Rho} {cc : Cell} {x : Str} {p pos apos : Pos} {l : List PyData} {d : PyData}
/-- list.pop(), the list held alone -/
theorem e_pop (n : Nat) (h : ρ[n]? = some (some cc)) (hm : cc.mu = some (.lst l)) (hN : X.N[n]? = some x) (hv : Vis X.env.scope x) (hg : l[l.length - 1]? = some d)
    (hd : (x == ("__debug__" : Str)) = false := by decide) (hcd : (x == ("__classdict__" : Str)) = false := by decide)
    (hbase : attributeBase (.Name x p) "pop" X.env (eval (.Name x p) X.env) = eval (.Name x p) X.env := by rfl) (hline : (apos.endLine == pos.line) = true := by rfl) :
    ED X ρ (.Call (.Attribute (.Name x p) "pop" apos) [] [] pos) (ρ.set n (some (cc.put (.lst l.dropLast)))) d := by
  refine (pe_bm0 PySem.F.plainAttrs_list PySem.F.slot_list_pop PySem.F.type_list_pop mt_pop (pe_var hN hv hd hcd) hbase hline).weak fun σ H Q ⟨F, S, kk⟩ => ?_
  obtain ⟨q, o, e1, e2, e3, e4⟩ := S.held h hm
  cases o with
  | lst xs =>
    have e4 : DqA X.K F xs l := e4
    obtain ⟨v, b1, b2⟩ := e4.get' hg
    refine ⟨_, e1, .inl ⟨rfl, xs, .inl (.inl e3)⟩, q, xs, v, rfl, rfl, e3, by rw [e4.length]; exact b1, ?_⟩
    refine kk v F _ (Step.changed (q := q) (m' := .lst l.dropLast) S h hm e1 (Same.refl F) (fun r a _ _ => a) (fun r o a ne => by rw [upd_ne ne]; exact a) (fun b u z => ?_) e2 upd_same e4.dropLast) (fun r z => (own_put h hm).mp z) b2
    have ne : b ≠ q := fun w => by rw [w, e2] at z; cases z
    rw [upd_ne ne]
    exact S.sub _ _ z
  | _ => exact e4.elim
end
end Cl

set_option maxRecDepth 100000
namespace Cl1
open PySem PySem.Spec PyProof.Rows L2
open Sem (wp)
open AutoSeq1 (wpAny_loadPart')
/-! enumerate of a tuple -/
theorem meets_enumT (l : Addr) (items : Array Value) (n : Nat) (dct : Option Addr) (sl : Array (Option Value)) :
    Meets (Builtin.«enumerate.__new__» ⟨[.type "enumerate", .ref l], []⟩) (fun _ R s => s.heap.get? l = some { cls := .type "tuple", dict := dct, data := .seq items n, slots := sl } ∧
      R (.ok (.ret (.ref (s.heap.push { cls := .type "tuple_iterator", data := .fields #[.ref l, .int 0 0] }).objs.size)))
        { s with heap := (s.heap.push { cls := .type "tuple_iterator", data := .fields #[.ref l, .int 0 0] }).push { cls := .type "enumerate", data := .fields #[.none, .bool false, .ref s.heap.objs.size, rawInt 0, .none, .none] } }) :=
  .of_wp fun prog w A R s h => by
    obtain ⟨hp, g, d, tk, os⟩ := s; obtain ⟨hl, h⟩ := h
    have hsub := sub_enumerate
    have hL : Heap.IsTuple (Shared.heap ⟨hp, g, d, tk, os⟩) l items := ⟨_, hl, rfl, n, rfl⟩
    wp_walk using wpAny_loadPart' hl
    refine wpAny_stack_any fun st => wpAny_pure ?_
    split
    · next c _ _ _ _ _ =>
      cases (c == Value.type "enumerate")
      · wp_walk using wpAny_loadPart' hl, wpAny_pyIter_tuple hL
        exact ⟨_, rfl, h⟩
      · wp_walk using wpAny_loadPart' hl, wpAny_pyIter_tuple hL
        exact ⟨_, rfl, h⟩
    · wp_walk using wpAny_loadPart' hl, wpAny_pyIter_tuple hL
      exact ⟨_, rfl, h⟩
section
variable {prog : Program} {w : World} {A : Around} {E : Value → Shared → Prop} {s : Shared}
theorem call_enumT {l : Addr} {items : Array Value} {Q : Value → Shared → Prop} (hL : s.heap.IsTuple l items)
    (h : ∀ h', IsEnum h' (s.heap.objs.size + 1) s.heap.objs.size 0 .none → h'.IsTupleIter s.heap.objs.size l 0 → h'.objs.size = s.heap.objs.size + 2 →
      (∀ b o, s.heap.get? b = some o → h'.get? b = some o) → Q (.ref (s.heap.objs.size + 1)) { s with heap := h' }) :
    wpAny (model prog w) A (call (.type "enumerate") [.ref l]) Q E s := by
  obtain ⟨⟨c, dct, dt, sl⟩, hl, hc, n, hd⟩ := hL
  replace hc : c = .type "tuple" := hc
  replace hd : dt = .seq items n := hd
  subst hc hd
  refine callType_new F.called_enumerate (by decide) (F.typeCall_enumerate_1 _) (F.newCall_enumerate_1 _) (fun obj => F.args_object_init_2 obj _) F.entry_enumerate_new
    (meets_enumT l items n dct sl) ⟨hl, ?_⟩
  have hz : (s.heap.push { cls := .type "tuple_iterator", data := .fields #[.ref l, .int 0 0] }).objs.size = s.heap.objs.size + 1 := Heap.size_push ..
  show _ ∧ _
  rw [hz]
  have he : IsEnum ((s.heap.push { cls := .type "tuple_iterator", data := .fields #[.ref l, .int 0 0] }).push
      { cls := .type "enumerate", data := .fields #[.none, .bool false, .ref s.heap.objs.size, rawInt 0, .none, .none] }) (s.heap.objs.size + 1) s.heap.objs.size 0 .none := by
    have := Heap.get?_push_size (s.heap.push { cls := .type "tuple_iterator", data := .fields #[.ref l, .int 0 0] })
      (o := { cls := .type "enumerate", data := .fields #[.none, .bool false, .ref s.heap.objs.size, rawInt 0, .none, .none] }) rfl
    rw [hz] at this; exact this
  exact ⟨⟨_, he, rfl⟩, h _ he ⟨_, Heap.get?_push_of_some _ (Heap.get?_push_size _ rfl), rfl, rfl⟩ (by rw [Heap.size_push, hz]) fun b o x => Heap.get?_push_of_some _ (Heap.get?_push_of_some _ x)⟩
end
/-- the tuple at a, each item in a new pair -/
def IteT (K : PySem.W.Frag) (a : Addr) : It :=
  ⟨fun i H => ∃ (xs : List V) (x : V), SqT K H a xs ∧ xs[i]? = some x, fun i H v H' => ∃ T x, v = .ref T ∧ H T = none ∧ H' = upd H T (.tup [.int (i : Nat), x]) ∧ ∀ xs, SqT K H a xs → xs[i]? = some x, fun i H => ∃ xs : List V, SqT K H a xs ∧ xs.length ≤ i⟩
theorem turn_enumT {P : Program} {w : World} {K : PySem.W.Frag} {elts : List Expr} {kk : Nat} {tpos : Pos} (a e it : Addr) (hne : e ≠ it) (hai : a ≠ it) (hea : e ≠ a) :
    Turn P w K (.Tuple elts kk tpos) (IteT K a) [e, it] e (fun i h => (∃ old, IsEnum h e it ((i : Nat) : Int) old) ∧ h.IsTupleIter it a i) where
  mem := by simp
  obj := fun i h st b hb => by
    obtain ⟨⟨old, he⟩, ⟨o, ho, hc, hd⟩⟩ := st
    have e' : b = e ∨ b = it := by simpa using hb
    rcases e' with z | z
    · rw [z]; exact ⟨_, he, fun v q => nomatch q⟩
    · rw [z]; exact ⟨o, ho, fun v q => by rw [hd] at q; cases q⟩
  keep := fun i h h' st k => let ⟨⟨old, he⟩, hi⟩ := st; ⟨⟨old, k e (by simp) _ he⟩, hi.at fun o q => k it (by simp) o q⟩
  item := by
    intro X hP hw hK hc i pins s σ H E I hf st hg
    subst hP hw hK
    obtain ⟨⟨old, he⟩, hit⟩ := st
    obtain ⟨xs, x, hq, hx⟩ := hg
    obtain ⟨its, rv, p, hz⟩ := I.tuple hq
    obtain ⟨u, hu, ru⟩ := rv.get hx
    have hel : e < s.heap.objs.size := Heap.lt_size he
    have hil : it < s.heap.objs.size := by obtain ⟨_, q, _⟩ := hit; exact Heap.lt_size q
    have hlt : i < its.toArray.size := by
      have := (List.getElem?_eq_some_iff.mp hu).1
      simpa using this
    refine wpAny_pyNext_enum_itemD (Draws.tuple (prog := X.prog) (w := X.w) (A := X.A.in1) (show X.A.in1.handled = none from I.ok.hd hc) it a hai its.toArray) he ⟨hit, p⟩ hlt hne (by simp [hne, hea]) fun u' h' tk hP ho hst hT hsz hk => ?_
    have eu : u' = u := by
      have h1 : its.toArray[i]? = some u := by simpa using hu
      rw [h1] at hP
      cases hP
      rfl
    subst eu
    refine ⟨_, rfl, wpAny_letOwnedTupleGo_enum (s := { s with heap := h', toks := tk + 1 }) ho fun h'' he' sb => ?_⟩
    have hT2 : h''.get? s.heap.objs.size = some { cls := .type "tuple", data := .seq #[.int i tk, u'] } := (sb.2 _ (Nat.ne_of_gt hel)).trans hT
    have new : ObjOk X.prog X.w (upd H s.heap.objs.size (.tup [.int (i : Nat), x])) h'' s.heap.objs.size (.tup [.int (i : Nat), x]) :=
      ⟨by show 2 ≤ sizeLine; decide, [.int i tk, u'], .cons ⟨_, rfl⟩ (.cons ru .nil), ⟨_, hT2, rfl, _, rfl⟩⟩
    have I1 : Inv X pins σ (upd H s.heap.objs.size (.tup [.int (i : Nat), x])) { s with heap := h'', toks := tk + 1 } :=
      I.turnedNew (ch := [e, it]) (fun b ob hb q => (sb.2 b (fun z => hb (by simp [z]))).trans (hk b ob (fun z => hb (by simp [z])) (fun z => hb (by simp [z])) q)) hf (Nat.le_refl _) new
    refine ⟨.ref s.heap.objs.size, _, I1, rfl, ⟨_, x, rfl, I.hok.fresh (Nat.le_refl _), rfl, fun ys hy => by rw [I.tuple_inj hy hq]; exact hx⟩, ⟨⟨u', ?_⟩, hst.1.at fun o q => (sb.2 it (Ne.symm hne)).trans q⟩, fun b hb => ?_⟩
    · have e1 : ((i + 1 : Nat) : Int) = (i : Int) + 1 := by omega
      rw [e1]; exact he'
    · have hb' : b < s.heap.objs.size := by
        have e' : b = e ∨ b = it := by simpa using hb
        rcases e' with z | z
        · rw [z]; exact hel
        · rw [z]; exact hil
      rw [upd_ne (Nat.ne_of_lt hb')]
      exact (hf b hb).1
  done := by
    intro X hP hw hK hc i pins s σ H E I hf st hg
    subst hP hw hK
    obtain ⟨⟨old, he⟩, hit⟩ := st
    obtain ⟨xs, hq, hx⟩ := hg
    obtain ⟨its, rv, p, hz⟩ := I.tuple hq
    obtain ⟨f0, f1, f2, f3, f4, f5⟩ := hf it (by simp)
    have hl := rv.length
    have hT : s.TypeIs (.ref e) "enumerate" := ⟨_, he, rfl⟩
    unfold pyNext
    refine wpAny_bind (wpAny_attempt (wpAny_callSpecial?_slot (name := Str.ofString "__next__") hT F.slot_enumerate_next
      (wpAny_call_entry F.slot_enumerate_next hT F.entry_enumerate_next ?_ (F.args_enumerate_next_1 _))))
    show wpAny _ _ (field (.ref e) 2 >>= _) _ _ _
    refine wpAny_bind (wpAny_field he rfl (x := .ref it) rfl ?_)
    refine wpAny_bind (wpAny_nextOf_tuple_end (I.ok.hd hc) hit p (by simp; omega) fun h' x he' hx' => ?_)
    obtain ⟨o, ho, hc⟩ := hx'
    refine wpAny_bind (wpAny_isInstance (T := "StopIteration") (b := true) ⟨o, ho, hc⟩ isSubtype_stop ?_)
    exact wpAny_pure ⟨rfl, I.turned (t' := s.toks) (fun b o hb q => he' b o hb q) f0 f1 f3 f4 f5⟩
  self := fun A i s Q E st h => let ⟨⟨_, he⟩, _⟩ := st; wpAny_pyIter_enum he h
def iEnumT (K : PySem.W.Frag) (ta : TA) : TI := fun σ H R => ta σ H fun vs H1 => ∃ a xs, vs = [.ref a] ∧ SqT K H1 a xs ∧ R (IteT K a) H1
theorem pi_enumT {X : Cx} {e : Expr} {ta : TA} {p pos tpos : Pos} {elts : List Expr} {kk : Nat} (hg : Gl X "enumerate") (hm : X.mg "enumerate" = none) (ha : PA X [e] ta) (hs : starEach [e] X.env = [(false, eval e X.env)] := by rfl) :
    PI X (.Tuple elts kk tpos) (.Call (.Name "enumerate" p) [e] [] pos) (iEnumT X.K ta) := by
  refine ⟨fun pins s σ H R I h => ?_⟩
  refine Call_ (ld_blt I hg hm boot_enumerate (PyProof.Rows.callWith_type1 (thn (ha.run pos pins s σ H _ I h) fun us s1 ⟨vs, H1, I1, r1, q1⟩ => ?_) hs rfl))
  obtain ⟨a, xs, ex, hq, q⟩ := q1
  subst ex
  cases r1 with
  | cons r rr =>
    cases rr
    cases r
    obtain ⟨its, rv, p', hz⟩ := I1.tuple hq
    obtain ⟨oa, hoa, _⟩ := id p'
    have hlt : a < s1.heap.objs.size := Heap.lt_size hoa
    refine call_enumT (show s1.heap.IsTuple a its.toArray from p') fun h' he hit hsz hk => wpAny_pyIter_enum he ?_
    have I2 : Inv X pins σ H1 { s1 with heap := h' } := I1.kept (t' := s1.toks) hk
    refine ⟨s1.heap.objs.size + 1, [s1.heap.objs.size + 1, s1.heap.objs.size], _, _, H1, rfl, I2, turn_enumT a (s1.heap.objs.size + 1) s1.heap.objs.size (Nat.succ_ne_self _) (Nat.ne_of_lt hlt) (Ne.symm (Nat.ne_of_lt (Nat.lt_succ_of_lt hlt))), ⟨⟨.none, he⟩, hit⟩, fun b hb => ?_, q⟩
    have e' : b = s1.heap.objs.size + 1 ∨ b = s1.heap.objs.size := by simpa using hb
    have hle : s1.heap.objs.size ≤ b := by
      rcases e' with z | z
      · rw [z]; exact Nat.le_add_right _ _
      · rw [z]; exact Nat.le_refl _
    exact I1.fpOk hle (I1.hok.fresh hle)
theorem walk_enumT {K : PySem.W.Frag} {a : Addr} {xs : List V} : Walk (IteT K a) xs.length (fun H => SqT K H a xs) (YPair (fun i => some (.int (i : Nat))) (fun i => xs[i]?)) := by
  refine ⟨fun i _ hi q => ⟨xs, xs[i], q, by simp [hi]⟩, fun _ q => ⟨xs, q, Nat.le_refl _⟩, fun i H v H' _ q y => ?_⟩
  obtain ⟨T, x, h1, h2, h3, h4⟩ := y
  exact ⟨T, .int (i : Nat), x, h1, h2, h3, rfl, h4 xs q⟩
end Cl1
namespace Cl
open PySem PySem.Spec PyProof.Rows L2
section
variable {X : Cx} {ρ ρ1 : Rho} {e : Expr} {ds : List PyData} {p pos : Pos}
theorem i_enumT {elts : List Expr} {kk : Nat} {tpos : Pos} (hg : Gl X "enumerate") (hm : X.mg "enumerate" = none) (h : AD X ρ [e] ρ1 [.tuple ds]) (hs : starEach [e] X.env = [(false, eval e X.env)] := by rfl) : ID X ρ (.Tuple elts kk tpos) (.Call (.Name "enumerate" p) [e] [] pos) ρ1 (pairD (rangeD 0 ds.length) ds) :=
  (Cl1.pi_enumT hg hm h hs).weak fun σ H R ⟨F, S, k⟩ => ⟨F, S, fun vs F1 H1 s1 o1 hv => by
    cases hv with
    | cons h1 t =>
      cases t
      cases h1 with
      | tup hs ha =>
        refine ⟨_, _, rfl, sqT_same s1.sat.sub hs, k _ F1 H1 s1 o1 ?_⟩
        have hl : (pairD (rangeD 0 ds.length) ds).length = ds.length := by
          unfold pairD
          rw [List.length_zipWith, rangeD_len, Nat.min_self]
        rw [hl, ← ha.length]
        refine Cl1.walk_enumT.mono (fun H2 z => sqT_same z hs) fun i H2 v H3 hi _ y => yd_pair y fun x y F2 e1 e2 a => ?_
        obtain ⟨d2, q3, q4⟩ := ha.get e2
        cases e1
        refine ⟨.int (0 + (i : Int)), d2, zip_get ?_ q3, ?_, q4.mono a⟩
        · unfold rangeD
          rw [List.getElem?_map, List.getElem?_range hi]
          rfl
        · have z : (0 : Int) + (i : Int) = (i : Int) := by omega
          rw [z]
          exact .int _⟩
end
end Cl

set_option maxRecDepth 100000
namespace Cl
open PySem PySem.Spec PyProof.Rows L2
/-! ### lists that come new and are held alone: of built-in calls, of products -/
/-- what a built-in call gives as a new list -/
structure CallO (X : Cx) (f : Value) (ds : List PyData) (l : List PyData) : Prop where
  ex : ∃ r, CallR X f r ∧ ∀ F H vs (Q : VK), Same F H → DqA X.K F vs ds → (∀ p xs, H p = none → DqA X.K F xs l → Q (.ref p) (upd H p (.lst xs))) → r vs H Q
section
variable {X : Cx} {ρ ρ1 ρ2 : Rho} {a b e : Expr} {es : List Expr} {ds l : List PyData} {pos p : Pos} {i : Int} {x : Str} {ns : List Int}
theorem o_cb {r : List V → Hp → VK → Prop} (h : PE X e (tCB r (tDA X.K ρ ρ1 ds))) (hr : ∀ F H vs (Q : VK), Same F H → DqA X.K F vs ds → (∀ p xs, H p = none → DqA X.K F xs l → Q (.ref p) (upd H p (.lst xs))) → r vs H Q) : EO X ρ e ρ1 l :=
  h.weak fun σ H Q ⟨F, S, k⟩ => ⟨F, S, fun vs F1 H1 s1 o1 v1 => hr F1 H1 vs Q s1.sat.sub v1 fun p xs hp hx => by
    have st := s1.trans (Step.laidM s1.sat (o := .lst xs) hp)
    exact k _ _ _ st o1 ⟨p, .lst xs, rfl, ⟨.inl (s1.fresh hp).1, (s1.fresh hp).2⟩, s1.sat.sub.free hp, upd_same, hx⟩⟩
theorem o_bi {id : String} (hc : CallO X (.builtin id) ds l) (hg : Gl X x) (hm : X.mg x = none) (hv : bootBuiltins x = some (.builtin id)) (ha : AD X ρ (e :: es) ρ1 ds) (hn : x ≠ "__name__" := by decide) (hdb : (x == ("__debug__" : Str)) = false := by decide)
    (he : starEach (e :: es) X.env = (false, eval e X.env) :: starEach es X.env := by rfl) (hpl : (backTo pos (starEach es X.env)).any (·.1) = false := by rfl) : EO X ρ (.Call (.Name x p) (e :: es) [] pos) ρ1 l := by
  obtain ⟨r, h1, h2⟩ := hc.ex
  exact o_cb (pe_callB h1 hg hm hv ha hn hdb he hpl) h2
theorem o_bt {T : String} (hc : CallO X (.type T) ds l) (hg : Gl X x) (hm : X.mg x = none) (hv : bootBuiltins x = some (.type T)) (ha : AD X ρ (e :: es) ρ1 ds) (hn : x ≠ "__name__" := by decide) (hdb : (x == ("__debug__" : Str)) = false := by decide)
    (he : starEach (e :: es) X.env = (false, eval e X.env) :: starEach es X.env := by rfl) (hpl : (backTo pos (starEach es X.env)).any (·.1) = false := by rfl) : EO X ρ (.Call (.Name x p) (e :: es) [] pos) ρ1 l := by
  obtain ⟨r, h1, h2⟩ := hc.ex
  exact o_cb (pe_callTy h1 hg hm hv ha hn hdb he hpl) h2
theorem g_listL : CallO X (.type "list") [.list ds] ds := ⟨_, call_list_of, fun F H vs Q s h k => by
  cases h with
  | cons h1 t =>
    cases h1 with
    | lst hs ha =>
      cases t
      exact ⟨_, _, rfl, .inl (.inl (.inl (s _ _ hs))), fun p hp => k p _ hp ha⟩⟩
theorem g_listT : CallO X (.type "list") [.tuple ds] ds := ⟨_, call_list_of, fun F H vs Q s h k => by
  cases h with
  | cons h1 t =>
    cases h1 with
    | tup hs ha =>
      cases t
      exact ⟨_, _, rfl, .inr (sqT_same s hs), fun p hp => k p _ hp ha⟩⟩
theorem dqA_ofInts {K : PySem.W.Frag} {F : Hp} : ∀ m : List Int, DqA K F (m.map V.int) (m.map .int)
  | [] => .nil
  | i :: m => .cons (.int i) (dqA_ofInts m)
theorem g_sortedI (h : ds = ns.map .int) : CallO X (.builtin "sorted") [.list ds] ((sortI ns).map .int) := ⟨_, cr_sortedI, fun F H vs Q s hv k => by
  subst h
  cases hv with
  | cons h1 t =>
    cases t
    cases h1 with
    | lst hs ha =>
      have e := ints_of ha
      subst e
      refine ⟨_, ns, rfl, .inl (.inl (s _ _ hs)), fun ms p hp hs' hn => ?_⟩
      have e := sorted_one (hp.trans (sortI_perm ns).symm) hs' (sortI_sorted ns)
      subst e
      exact k _ _ hn (dqA_ofInts _)⟩
/-- [x] * n, held alone -/
theorem o_rep (ha : ED X ρ a ρ1 (.list ds)) (hb : ED X ρ1 b ρ2 (.int i)) (h1 : -(2 ^ 63) ≤ i) (h2 : i < 2 ^ 63) (hz : ds.length * i.toNat ≤ 1000000) (h : (List.replicate i.toNat ds).flatten = l) : EO X ρ (.BinOp a .Mult b pos) ρ2 l := by
  subst h
  exact (pe_op op_rep ha hb).weak fun σ H Q ⟨F, S, k⟩ => ⟨F, S, fun x F1 H1 s1 o1 v1 => ⟨F1, s1.sat, fun y F2 H2 s2 o2 v2 => by
    have v3 := Dq.mono s2.fr _ v1
    have v4 : Dq X.K F2 y (.int i) := v2
    cases v4
    cases v3 with
    | lst hs ha =>
      refine ⟨_, i, _, rfl, rfl, s2.sat.sub _ _ hs, h1, h2, by rw [ha.length]; exact Nat.le_trans hz (by decide), fun p hp => ?_⟩
      have s12 := s1.trans s2
      exact k _ _ _ (s12.trans (Step.laidM s2.sat hp)) (fun q h => o1 q (o2 q h)) ⟨p, .lst _, rfl, ⟨.inl (s12.fresh hp).1, (s12.fresh hp).2⟩, s2.sat.sub.free hp, upd_same, ha.repeat i.toNat⟩⟩⟩
/-- near + far, held alone -/
theorem o_cat {ds1 ds2 : List PyData} (ha : ED X ρ a ρ1 (.list ds1)) (hb : ED X ρ1 b ρ2 (.list ds2)) (hz : ds1.length + ds2.length ≤ 1000000) (h : ds1 ++ ds2 = l) : EO X ρ (.BinOp a .Add b pos) ρ2 l := by
  subst h
  exact (pe_op op_cat ha hb).weak fun σ H Q ⟨F, S, k⟩ => ⟨F, S, fun x F1 H1 s1 o1 v1 => ⟨F1, s1.sat, fun y F2 H2 s2 o2 v2 => by
    have v3 := Dq.mono s2.fr _ v1
    have v4 : Dq X.K F2 y (.list ds2) := v2
    cases v3 with
    | lst hs ha =>
      cases v4 with
      | lst hs' ha' =>
        refine ⟨_, _, _, _, rfl, rfl, s2.sat.sub _ _ hs, s2.sat.sub _ _ hs', by rw [ha.length, ha'.length]; exact Nat.le_trans hz (by decide), fun p hp => ?_⟩
        have s12 := s1.trans s2
        exact k _ _ _ (s12.trans (Step.laidM s2.sat hp)) (fun q h => o1 q (o2 q h)) ⟨p, .lst _, rfl, ⟨.inl (s12.fresh hp).1, (s12.fresh hp).2⟩, s2.sat.sub.free hp, upd_same, ha.append ha'⟩⟩⟩
end
end Cl

set_option maxRecDepth 100000
namespace Cl
open PySem PySem.Spec PyProof.Rows L2
/-! ### surveys, as the laws draw them (c: the law's own draw) -/
structure Leg where
  party : Int
  a : Int
  b : Int
  v : List Fr
  sl : List Fr
  w : Fr
def encLeg (g : Leg) : PyData := .tuple [.int g.party, .int g.a, .int g.b, vec g.v, vec g.sl, fr g.w]
structure Sv where
  dims : Int
  n : Int
  legs : List Leg
def encS (s : Sv) : PyData := .tuple [.str "survey", .int s.dims, .int s.n, .tuple (s.legs.map encLeg)]
/-- a short fraction: in lowest terms, above below 10 ** 6, below at most 60 -/
def Short (p : Fr) : Prop := Low p ∧ -1000000 < p.1 ∧ p.1 < 1000000 ∧ p.2 ≤ 60
structure LegOk (dims n : Int) (g : Leg) : Prop where
  p0 : 0 ≤ g.party
  p5 : g.party ≤ 5
  a0 : 0 ≤ g.a
  a1 : g.a ≤ n - 1
  b0 : 0 ≤ g.b
  b1 : g.b ≤ n - 1
  ab : g.a ≠ g.b
  lv : g.v.length = dims.toNat
  ls : g.sl.length = dims.toNat
  v : ∀ p ∈ g.v, Short p
  s : ∀ p ∈ g.sl, Short p ∧ 0 ≤ p.1
  w : Short g.w ∧ 0 < g.w.1
structure SvOk (s : Sv) : Prop where
  d1 : 1 ≤ s.dims
  d3 : s.dims ≤ 3
  n1 : 1 ≤ s.n
  n24 : s.n ≤ 24
  l60 : s.legs.length ≤ 60
  legs : ∀ g ∈ s.legs, LegOk s.dims s.n g
section
variable (c : DC)
def someC (p : Pot) : Pot × Fr := ((draw c (draw c p 25).1 7).1, mk ((draw c p 25).2 - 12) (([1, 1, 1, 2, 3, 4, 6] : List Int).getD (draw c (draw c p 25).1 7).2.toNat 1))
def someCF (b : Pot) (_ : Nat) : Pot × Fr := someC c b
def vecC (p : Pot) (n : Int) : Pot × List Fr := (endT (someCF c) p (List.range n.toNat), runT (someCF c) p (List.range n.toNat))
def slacks : List Fr := [(0, 1), (1, 2), (1, 1), (3, 1)]
def weights : List Fr := [(1, 1), (1, 1), (2, 1), (1, 2), (5, 3)]
def slackF (b : Pot) (_ : Nat) : Pot × Fr := ((draw c b 4).1, slacks.getD (draw c b 4).2.toNat (0, 1))
def slackC (p : Pot) (n : Int) : Pot × List Fr := (endT (slackF c) p (List.range n.toNat), runT (slackF c) p (List.range n.toNat))
def vecCF (dims : Int) (b : Pot) (_ : Nat) : Pot × List Fr := vecC c b dims
def placesC (p : Pot) (dims n : Int) : Pot × List (List Fr) := (endT (vecCF c dims) p (List.range n.toNat), runT (vecCF c dims) p (List.range n.toNat))
/-- one leg: the places, dims, stations, how often wrong (of 10) -/
def legE (n : Int) (p : Pot) : Int := ((draw c p n).2 + 1 + (draw c (draw c p n).1 (n - 1)).2).fmod n
def legQ (n : Int) (p : Pot) : Pot × Int := draw c (draw c (draw c p n).1 (n - 1)).1 10
def legV0 (places : List (List Fr)) (n : Int) (p : Pot) : List Fr := vMinus (places.getD (legE c n p).toNat []) (places.getD (draw c p n).2.toNat [])
def legV (places : List (List Fr)) (dims n wrong : Int) (p : Pot) : Pot × List Fr := if (legQ c n p).2 < wrong then ((vecC c (legQ c n p).1 dims).1, vPlus (legV0 c places n p) (vecC c (legQ c n p).1 dims).2) else ((legQ c n p).1, legV0 c places n p)
def legS (places : List (List Fr)) (dims n wrong : Int) (p : Pot) : Pot × List Fr := slackC c (legV c places dims n wrong p).1 dims
def legP (places : List (List Fr)) (dims n wrong : Int) (p : Pot) : Pot × Int := draw c (legS c places dims n wrong p).1 6
def legW (places : List (List Fr)) (dims n wrong : Int) (p : Pot) : Pot × Int := draw c (legP c places dims n wrong p).1 5
def legC (places : List (List Fr)) (dims n wrong : Int) (p : Pot) : Pot × Leg :=
  ((legW c places dims n wrong p).1, ⟨(legP c places dims n wrong p).2, (draw c p n).2, legE c n p, (legV c places dims n wrong p).2, (legS c places dims n wrong p).2, weights.getD (legW c places dims n wrong p).2.toNat (1, 1)⟩)
def legF (places : List (List Fr)) (dims n wrong : Int) (b : Pot) (_ : Nat) : Pot × Leg := legC c places dims n wrong b
/-- the survey: pot, dims, stations, legs, how often wrong -/
def svC (p : Pot) (dims n legs wrong : Int) : Pot × Sv :=
  let pl := placesC c p dims n
  let m := (if decide (1 < n) = true then legs else 0).toNat
  (endT (legF c pl.2 dims n wrong) pl.1 (List.range m), ⟨dims, n, runT (legF c pl.2 dims n wrong) pl.1 (List.range m)⟩)
end
end Cl

set_option maxRecDepth 100000
namespace Cl
open PySem PySem.Spec PyProof.Rows L2
/-- in lowest terms, of twelfths, at most k beside nought -/
structure Tw (k : Int) (p : Fr) : Prop where
  low : Low p
  d : p.2 ∣ 12
  lo : -(k * p.2) ≤ p.1
  hi : p.1 ≤ k * p.2
theorem mk_den {a b : Int} (hb : 0 < b) : (mk a b).2 ∣ b := by
  rw [mk_pos (by omega)]
  exact ⟨gi a b, by
    have := Int.mul_fdiv_cancel' (gi_dvd2 a b)
    show b = b.fdiv (gi a b) * gi a b
    rw [Int.mul_comm]
    exact this.symm⟩
theorem tw_mk {a b k : Int} (hb : 0 < b) (hd : b ∣ 12) (h1 : -(k * b) ≤ a) (h2 : a ≤ k * b) : Tw k (mk a b) := by
  obtain ⟨e, hp⟩ := mk_val (a := a) hb
  refine ⟨mk_low (by omega), Int.dvd_trans (mk_den hb) hd, ?_, ?_⟩
  · have : -(k * (mk a b).2) * b ≤ (mk a b).1 * b := by
      rw [e]
      have := Int.mul_le_mul_of_nonneg_right h1 (Int.le_of_lt hp)
      have e2 : -(k * b) * (mk a b).2 = -(k * (mk a b).2) * b := by rw [Int.neg_mul, Int.neg_mul, Int.mul_right_comm]
      rw [e2] at this
      exact this
    exact Int.le_of_mul_le_mul_right this hb
  · have : (mk a b).1 * b ≤ k * (mk a b).2 * b := by
      rw [e]
      have := Int.mul_le_mul_of_nonneg_right h2 (Int.le_of_lt hp)
      rw [Int.mul_right_comm] at this
      exact this
    exact Int.le_of_mul_le_mul_right this hb
theorem tw_sum {k l : Int} {p q : Fr} {s : Int} (hp : Tw k p) (hq : Tw l q) (hs : s = 1 ∨ s = -1) : Tw (k + l) (mk (p.1 * q.2 + s * (q.1 * p.2)) (p.2 * q.2)) := by
  obtain ⟨b', hb'⟩ := hp.d
  obtain ⟨d', hd'⟩ := hq.d
  have b0 : 0 < p.2 := by have := hp.low.1; omega
  have d0 : 0 < q.2 := by have := hq.low.1; omega
  have hb0 : 0 < b' := by
    rcases Int.lt_or_le 0 b' with h | h
    · exact h
    · have := Int.mul_nonpos_of_nonneg_of_nonpos (Int.le_of_lt b0) h
      omega
  have hd0 : 0 < d' := by
    rcases Int.lt_or_le 0 d' with h | h
    · exact h
    · have := Int.mul_nonpos_of_nonneg_of_nonpos (Int.le_of_lt d0) h
      omega
  have e : mk (p.1 * q.2 + s * (q.1 * p.2)) (p.2 * q.2) = mk (p.1 * b' + s * (q.1 * d')) 12 := by
    refine mk_cross (Int.mul_pos b0 d0) (by decide) ?_
    rw [Int.add_mul, Int.add_mul]
    congr 1
    · rw [hb']
      ac_rfl
    · rw [hd']
      ac_rfl
  rw [e]
  have p1 : -(k * 12) ≤ p.1 * b' := by
    have := Int.mul_le_mul_of_nonneg_right hp.lo (Int.le_of_lt hb0)
    rw [Int.neg_mul, Int.mul_assoc, ← hb'] at this
    exact this
  have p2 : p.1 * b' ≤ k * 12 := by
    have := Int.mul_le_mul_of_nonneg_right hp.hi (Int.le_of_lt hb0)
    rw [Int.mul_assoc, ← hb'] at this
    exact this
  have q1 : -(l * 12) ≤ q.1 * d' := by
    have := Int.mul_le_mul_of_nonneg_right hq.lo (Int.le_of_lt hd0)
    rw [Int.neg_mul, Int.mul_assoc, ← hd'] at this
    exact this
  have q2 : q.1 * d' ≤ l * 12 := by
    have := Int.mul_le_mul_of_nonneg_right hq.hi (Int.le_of_lt hd0)
    rw [Int.mul_assoc, ← hd'] at this
    exact this
  rcases hs with rfl | rfl
  · exact tw_mk (by decide) ⟨1, rfl⟩ (by omega) (by omega)
  · exact tw_mk (by decide) ⟨1, rfl⟩ (by omega) (by omega)
theorem tw_plus {k l : Int} {p q : Fr} (hp : Tw k p) (hq : Tw l q) : Tw (k + l) (fPlus p q) := by
  have := tw_sum hp hq (.inl rfl)
  rw [Int.one_mul] at this
  exact this
theorem tw_minus {k l : Int} {p q : Fr} (hp : Tw k p) (hq : Tw l q) : Tw (k + l) (fMinus p q) := by
  have := tw_sum hp hq (.inr rfl)
  have e : p.1 * q.2 + -1 * (q.1 * p.2) = p.1 * q.2 - q.1 * p.2 := by omega
  rw [e] at this
  exact this
theorem tw_le12 {k : Int} {p : Fr} (h : Tw k p) : p.2 ≤ 12 := Int.le_of_dvd (by decide) h.d
theorem tw_short {k : Int} {p : Fr} (h : Tw k p) (hk : k ≤ 80000) (h0 : 0 ≤ k) : Short p := by
  have a := h.low.1
  have b := tw_le12 h
  have lo := h.lo
  have hi := h.hi
  have : k * p.2 ≤ 80000 * 12 := Int.mul_le_mul hk b (by omega) (by decide)
  exact ⟨h.low, by omega, by omega, by omega⟩
section
variable {c : DC} {p : Pot}
theorem dens12 : ∀ e ∈ ([1, 1, 1, 2, 3, 4, 6] : List Int), 0 < e ∧ e ∣ 12 := by
  intro e he
  simp only [List.mem_cons, List.not_mem_nil, or_false] at he
  rcases he with rfl | rfl | rfl | rfl | rfl | rfl | rfl
  · exact ⟨by decide, ⟨12, rfl⟩⟩
  · exact ⟨by decide, ⟨12, rfl⟩⟩
  · exact ⟨by decide, ⟨12, rfl⟩⟩
  · exact ⟨by decide, ⟨6, rfl⟩⟩
  · exact ⟨by decide, ⟨4, rfl⟩⟩
  · exact ⟨by decide, ⟨3, rfl⟩⟩
  · exact ⟨by decide, ⟨2, rfl⟩⟩
theorem someC_tw (hc : DCOk c) (hp : PotOk p) : PotOk (someC c p).1 ∧ Tw 12 (someC c p).2 := by
  obtain ⟨a1, a2, a3⟩ := draw_ok hc hp (n := 25) (by decide)
  obtain ⟨b1, b2, b3⟩ := draw_ok hc a1 (n := 7) (by decide)
  obtain ⟨h1, h2⟩ := dens12 _ (getD_mem (xs := ([1, 1, 1, 2, 3, 4, 6] : List Int)) 1 b2 (by show _ < 7; exact b3))
  exact ⟨b1, tw_mk h1 h2 (by omega) (by omega)⟩
theorem vecC_tw (hc : DCOk c) (hp : PotOk p) (n : Int) : PotOk (vecC c p n).1 ∧ (vecC c p n).2.length = n.toNat ∧ ∀ x ∈ (vecC c p n).2, Tw 12 x := by
  obtain ⟨b1, b2⟩ := runT_all (f := someCF c) (I := PotOk) (Q := Tw 12) (fun b _ hb => someC_tw hc hb) (List.range n.toNat) _ hp
  refine ⟨b1, ?_, b2⟩
  show (runT _ _ _).length = _
  rw [runT_len, List.length_range]
theorem slackC_ok (hc : DCOk c) (hp : PotOk p) (n : Int) : PotOk (slackC c p n).1 ∧ (slackC c p n).2.length = n.toNat ∧ ∀ x ∈ (slackC c p n).2, x ∈ slacks := by
  obtain ⟨b1, b2⟩ := runT_all (f := slackF c) (I := PotOk) (Q := fun x => x ∈ slacks) (fun b _ hb => by
    obtain ⟨a1, a2, a3⟩ := draw_ok hc hb (n := 4) (by decide)
    exact ⟨a1, getD_mem (xs := slacks) (0, 1) a2 (by show _ < 4; exact a3)⟩) (List.range n.toNat) _ hp
  refine ⟨b1, ?_, b2⟩
  show (runT _ _ _).length = _
  rw [runT_len, List.length_range]
theorem placesC_ok (hc : DCOk c) (hp : PotOk p) (dims n : Int) : PotOk (placesC c p dims n).1 ∧ (placesC c p dims n).2.length = n.toNat ∧ ∀ v ∈ (placesC c p dims n).2, v.length = dims.toNat ∧ ∀ x ∈ v, Tw 12 x := by
  obtain ⟨b1, b2⟩ := runT_all (f := vecCF c dims) (I := PotOk) (Q := fun v => v.length = dims.toNat ∧ ∀ x ∈ v, Tw 12 x) (fun b _ hb => vecC_tw hc hb dims) (List.range n.toNat) _ hp
  refine ⟨b1, ?_, b2⟩
  show (runT _ _ _).length = _
  rw [runT_len, List.length_range]
end
section
variable {c : DC} {p : Pot} {dims n wrong : Int} {places : List (List Fr)}
theorem vMinus_len {a b : List Fr} {k : Nat} (ha : a.length = k) (hb : b.length = k) : (vMinus a b).length = k := by
  unfold vMinus
  rw [List.length_map, List.length_zip, ha, hb, Nat.min_self]
theorem vPlus_len {a b : List Fr} {k : Nat} (ha : a.length = k) (hb : b.length = k) : (vPlus a b).length = k := by
  unfold vPlus
  rw [List.length_map, List.length_zip, ha, hb, Nat.min_self]
theorem vMinus_tw {a b : List Fr} {k l : Int} (ha : ∀ x ∈ a, Tw k x) (hb : ∀ x ∈ b, Tw l x) : ∀ x ∈ vMinus a b, Tw (k + l) x := fun x hx => by
  obtain ⟨y, hy, rfl⟩ := List.mem_map.mp hx
  exact tw_minus (ha _ (mem_zip hy).1) (hb _ (mem_zip hy).2)
theorem vPlus_tw {a b : List Fr} {k l : Int} (ha : ∀ x ∈ a, Tw k x) (hb : ∀ x ∈ b, Tw l x) : ∀ x ∈ vPlus a b, Tw (k + l) x := fun x hx => by
  obtain ⟨y, hy, rfl⟩ := List.mem_map.mp hx
  exact tw_plus (ha _ (mem_zip hy).1) (hb _ (mem_zip hy).2)
theorem Tw.up {k l : Int} {x : Fr} (h : Tw k x) (hk : k ≤ l) : Tw l x := by
  have a := h.low.1
  have := Int.mul_le_mul_of_nonneg_right hk (show (0 : Int) ≤ x.2 by omega)
  exact ⟨h.low, h.d, by have := h.lo; omega, by have := h.hi; omega⟩
theorem slack_short : ∀ x ∈ slacks, Short x ∧ 0 ≤ x.1 := by
  intro x hx
  simp only [slacks, List.mem_cons, List.not_mem_nil, or_false] at hx
  rcases hx with rfl | rfl | rfl | rfl <;> exact ⟨⟨⟨by decide, by decide⟩, by decide, by decide, by decide⟩, by decide⟩
theorem weight_short : ∀ x ∈ weights, Short x ∧ 0 < x.1 := by
  intro x hx
  simp only [weights, List.mem_cons, List.not_mem_nil, or_false] at hx
  rcases hx with rfl | rfl | rfl | rfl | rfl <;> exact ⟨⟨⟨by decide, by decide⟩, by decide, by decide, by decide⟩, by decide⟩
/-- a drawn leg is one; its vector is of twelfths -/
theorem legV_ok (hc : DCOk c) (hp : PotOk p) (h2 : 2 ≤ n) (hl : places.length = n.toNat) (hv : ∀ v ∈ places, v.length = dims.toNat ∧ ∀ x ∈ v, Tw 12 x) :
    PotOk (legV c places dims n wrong p).1 ∧ (legV c places dims n wrong p).2.length = dims.toNat ∧ ∀ x ∈ (legV c places dims n wrong p).2, Tw 36 x := by
  obtain ⟨a1, a2, a3⟩ := draw_ok hc hp (n := n) (by omega)
  obtain ⟨b1, b2, b3⟩ := draw_ok hc a1 (n := n - 1) (by omega)
  obtain ⟨d1, d2, d3⟩ := draw_ok hc b1 (n := 10) (by decide)
  have er := fmod_rng (a := (draw c p n).2 + 1 + (draw c (draw c p n).1 (n - 1)).2) (n := n) (by omega)
  have m1 := hv _ (getD_mem (xs := places) [] er.1 (by omega))
  have m2 := hv _ (getD_mem (xs := places) (i := (draw c p n).2) [] a2 (by omega))
  obtain ⟨v1, v2, v3⟩ := vecC_tw hc d1 dims
  have hv0 := vMinus_len m1.1 m2.1
  have ht0 := vMinus_tw m1.2 m2.2
  unfold legV
  split
  · exact ⟨v1, vPlus_len hv0 v2, fun x hx => (vPlus_tw ht0 v3 x hx).up (by decide)⟩
  · exact ⟨d1, hv0, fun x hx => (ht0 x hx).up (by decide)⟩
theorem legC_ok (hc : DCOk c) (hp : PotOk p) (h2 : 2 ≤ n) (hl : places.length = n.toNat) (hv : ∀ v ∈ places, v.length = dims.toNat ∧ ∀ x ∈ v, Tw 12 x) :
    PotOk (legC c places dims n wrong p).1 ∧ LegOk dims n (legC c places dims n wrong p).2 ∧ ∀ x ∈ (legC c places dims n wrong p).2.v, Tw 36 x := by
  obtain ⟨a1, a2, a3⟩ := draw_ok hc hp (n := n) (by omega)
  obtain ⟨b1, b2, b3⟩ := draw_ok hc a1 (n := n - 1) (by omega)
  have er := fmod_rng (a := (draw c p n).2 + 1 + (draw c (draw c p n).1 (n - 1)).2) (n := n) (by omega)
  obtain ⟨q4, l4, t4⟩ := legV_ok (wrong := wrong) hc hp h2 hl hv
  obtain ⟨s1, s2, s3⟩ := slackC_ok hc q4 dims
  obtain ⟨e1, e2, e3⟩ := draw_ok hc s1 (n := 6) (by decide)
  obtain ⟨f1, f2, f3⟩ := draw_ok hc e1 (n := 5) (by decide)
  have wm := weight_short _ (getD_mem (xs := weights) (1, 1) f2 (by show _ < 5; exact f3))
  have ne : (draw c p n).2 ≠ ((draw c p n).2 + 1 + (draw c (draw c p n).1 (n - 1)).2).fmod n := by
    intro e
    have e5 := Int.fmod_def ((draw c p n).2 + 1 + (draw c (draw c p n).1 (n - 1)).2) n
    rw [← e] at e5
    have e6 : n * (((draw c p n).2 + 1 + (draw c (draw c p n).1 (n - 1)).2).fdiv n) = 1 + (draw c (draw c p n).1 (n - 1)).2 := by omega
    have lo : 0 < ((draw c p n).2 + 1 + (draw c (draw c p n).1 (n - 1)).2).fdiv n := by
      rcases Int.lt_or_le 0 (((draw c p n).2 + 1 + (draw c (draw c p n).1 (n - 1)).2).fdiv n) with h | h
      · exact h
      · have := Int.mul_nonpos_of_nonneg_of_nonpos (show 0 ≤ n by omega) h
        omega
    have : n * 1 ≤ n * (((draw c p n).2 + 1 + (draw c (draw c p n).1 (n - 1)).2).fdiv n) := Int.mul_le_mul_of_nonneg_left (by omega) (by omega)
    omega
  refine ⟨f1, ⟨e2, Int.le_of_lt_add_one e3, a2, by show (draw c p n).2 ≤ n - 1; omega, er.1, by show Int.fmod _ _ ≤ n - 1; omega, ne, l4, s2, fun x hx => tw_short (t4 x hx) (by decide) (by decide), fun x hx => slack_short x (s3 x hx), wm⟩, t4⟩
theorem svC_ok {legs : Int} (hc : DCOk c) (hp : PotOk p) (h1 : 1 ≤ dims) (h3 : dims ≤ 3) (n1 : 1 ≤ n) (n24 : n ≤ 24) (l60 : legs ≤ 60) :
    PotOk (svC c p dims n legs wrong).1 ∧ SvOk (svC c p dims n legs wrong).2 ∧ ∀ g ∈ (svC c p dims n legs wrong).2.legs, ∀ x ∈ g.v, Tw 36 x := by
  obtain ⟨p1, p2, p3⟩ := placesC_ok hc hp dims n
  have run : PotOk (svC c p dims n legs wrong).1 ∧ ∀ g ∈ (svC c p dims n legs wrong).2.legs, LegOk dims n g ∧ ∀ x ∈ g.v, Tw 36 x := by
    by_cases h : 1 < n
    · exact runT_all (f := legF c (placesC c p dims n).2 dims n wrong) (I := PotOk) (Q := fun g => LegOk dims n g ∧ ∀ x ∈ g.v, Tw 36 x) (fun b _ hb => legC_ok hc hb (by omega) p2 p3) _ _ p1
    · have e : (if decide (1 < n) = true then legs else 0).toNat = 0 := by
        rw [if_neg (by simpa using h)]
        rfl
      show PotOk (endT _ _ (List.range (if decide (1 < n) = true then legs else 0).toNat)) ∧ ∀ g ∈ runT _ _ (List.range (if decide (1 < n) = true then legs else 0).toNat), _
      rw [e]
      exact ⟨p1, fun g hg => nomatch hg⟩
  refine ⟨run.1, ⟨h1, h3, n1, n24, ?_, fun g hg => (run.2 g hg).1⟩, fun g hg => (run.2 g hg).2⟩
  show (runT _ _ _).length ≤ 60
  rw [runT_len, List.length_range]
  split <;> omega
end
end Cl

set_option maxRecDepth 100000
namespace Cl
open PySem PySem.Spec PyProof.Rows L2
/-! ### vectors of few, not too long, fractions -/
def Few (v : List Fr) : Prop := v.length ≤ 3 ∧ ∀ p ∈ v, Low p ∧ Bd 100 p
theorem few_zip {a b : List Fr} (h : a.length ≤ 3) : (a.zip b).length ≤ 3 := by rw [List.length_zip]; omega
theorem len_pair {a b : List Fr} (h : a.length ≤ 3) : (pairD (a.map fr) (b.map fr)).length ≤ 1000000 := by
  rw [pairD_map, List.length_map]
  have := few_zip (b := b) h
  omega
theorem tw_bd {k : Int} {p : Fr} (h : Tw k p) (h0 : 0 ≤ k) (hk : k ≤ 1000000) : Bd 100 p := by
  have a := h.low.1
  have b := tw_le12 h
  have lo := h.lo
  have hi := h.hi
  have : k * p.2 ≤ 1000000 * 12 := Int.mul_le_mul hk b (by omega) (by decide)
  refine ⟨?_, ?_⟩
  · show p.1.natAbs < 2 ^ 100
    omega
  · show p.2.natAbs < 2 ^ 100
    omega
theorem few_tw {k : Int} {v : List Fr} (hl : v.length ≤ 3) (h : ∀ x ∈ v, Tw k x) (h0 : 0 ≤ k) (hk : k ≤ 1000000) : Few v := ⟨hl, fun p hp => ⟨(h p hp).low, tw_bd (h p hp) h0 hk⟩⟩
theorem tw_neg {k : Int} {p : Fr} (h : Tw k p) : Tw k (0 - p.1, p.2) := by
  refine ⟨⟨h.low.1, ?_⟩, h.d, ?_, ?_⟩
  · have e : (0 - p.1).natAbs = p.1.natAbs := by omega
    show Nat.gcd (0 - p.1).natAbs p.2.natAbs = 1
    rw [e]
    exact h.low.2
  · have := h.hi
    show -(k * p.2) ≤ 0 - p.1
    omega
  · have := h.lo
    show 0 - p.1 ≤ k * p.2
    omega
def vNeg (v : List Fr) : List Fr := v.map fun p => (0 - p.1, p.2)
theorem vNeg_tw {k : Int} {v : List Fr} (h : ∀ x ∈ v, Tw k x) : ∀ x ∈ vNeg v, Tw k x := fun x hx => by
  obtain ⟨y, hy, rfl⟩ := List.mem_map.mp hx
  exact tw_neg (h y hy)
theorem vNeg_len (v : List Fr) : (vNeg v).length = v.length := List.length_map ..
/-- noughts, one by dimension -/
def vZero (n : Int) : List Fr := List.replicate n.toNat (0, 1)
theorem vZero_tw (n : Int) : ∀ x ∈ vZero n, Tw 0 x := fun x hx => by
  rw [List.eq_of_mem_replicate hx]
  exact ⟨⟨by decide, by decide⟩, ⟨12, rfl⟩, by decide, by decide⟩
theorem vSum_tw {d : Nat} : ∀ (l : List (List Fr)) (s : List Fr) (k : Int), s.length = d → (∀ x ∈ s, Tw k x) → (∀ v ∈ l, v.length = d ∧ ∀ x ∈ v, Tw 36 x) → (l.foldl vPlus s).length = d ∧ ∀ x ∈ l.foldl vPlus s, Tw (k + 36 * l.length) x
  | [], s, k, hs, hk, _ => ⟨hs, fun x hx => by
    rw [List.length_nil]
    have e : k + 36 * ((0 : Nat) : Int) = k := by omega
    rw [e]
    exact hk x hx⟩
  | v :: l, s, k, hs, hk, hl => by
    have hv := hl v List.mem_cons_self
    obtain ⟨a, b⟩ := vSum_tw l (vPlus s v) (k + 36) (vPlus_len hs hv.1) (vPlus_tw hk hv.2) fun u hu => hl u (List.mem_cons_of_mem _ hu)
    refine ⟨a, fun x hx => ?_⟩
    have e : k + 36 * ((v :: l).length : Int) = k + 36 + 36 * (l.length : Int) := by
      rw [List.length_cons]
      omega
    rw [e]
    exact b x hx
/-! ### sums of vectors, as rational numbers -/
theorem vNeg_plus {a b : List Fr} (ha : ∀ x ∈ a, Low x) (hb : ∀ x ∈ b, Low x) : vNeg (vPlus a b) = vPlus (vNeg a) (vNeg b) := by
  unfold vNeg vPlus
  rw [List.zip_map, List.map_map, List.map_map]
  refine List.map_congr_left fun p hp => ?_
  have m := mem_zip hp
  have h1 : p.1 = fq (qf p.1) := (fq_qf (ha _ m.1)).symm
  have h2 : p.2 = fq (qf p.2) := (fq_qf (hb _ m.2)).symm
  have neg : ∀ q : Rat, ((0 - (fq q).1, (fq q).2) : Fr) = fq (-q) := fun q => by
    show ((0 - q.num, (q.den : Int)) : Fr) = ((-q).num, ((-q).den : Int))
    rw [Int.zero_sub]
    rfl
  show (0 - (fPlus p.1 p.2).1, (fPlus p.1 p.2).2) = fPlus (0 - p.1.1, p.1.2) (0 - p.2.1, p.2.2)
  rw [h1, h2, fPlus_q, neg, neg, neg, fPlus_q, Rat.neg_add]
end Cl

set_option maxRecDepth 100000
namespace Cl
open PySem PySem.Spec PyProof.Rows L2
/-! ### repr of data that hold {} -/
def okE : Nat → PyData → Prop
  | _, .none => True
  | _, .bool _ => True
  | _, .int i => i.natAbs.log2 < 1920
  | _, .str x => (reprText x).length ≤ 1900
  | _, .dict kvs => kvs = []
  | n + 1, .list xs => ∀ x ∈ xs, okE n x
  | n + 1, .tuple xs => ∀ x ∈ xs, okE n x
  | _, _ => False
structure OkE (n : Nat) (d : PyData) : Prop where
  able : d.showable = true
  depth : d.depth ≤ n + 1
  size : d.shown.length + 10 ≤ 2000 * nod d
theorem okEAll {n : Nat} (ih : ∀ d, okE n d → OkE n d) : ∀ xs : List PyData, (∀ x ∈ xs, okE n x) → PyData.showableAll xs = true ∧ PyData.depthAll xs ≤ n + 1 ∧ piled (PyData.shownAll xs) ≤ 2000 * nodA xs
  | [], _ => ⟨by simp [PyData.showableAll], by simp [PyData.depthAll], by simp [PyData.shownAll, piled]⟩
  | x :: xs, h => by
    have a := ih x (h x List.mem_cons_self)
    obtain ⟨b1, b3, b4⟩ := okEAll ih xs fun y hy => h y (List.mem_cons_of_mem _ hy)
    have s := a.size
    have dp := a.depth
    refine ⟨by simp [PyData.showableAll, a.able, b1], ?_, ?_⟩
    · simp only [PyData.depthAll]
      omega
    · simp only [PyData.shownAll, piled_cons, nodA]
      omega
theorem okES : ∀ (n : Nat) (d : PyData), okE n d → OkE n d
  | n, .none, _ => ⟨by simp [PyData.showable], by simp [PyData.depth], by rw [PyData.shown_none]; show (4 : Nat) + 10 ≤ 2000 * nod .none; simp [nod]⟩
  | n, .bool b, _ => ⟨by simp [PyData.showable], by simp [PyData.depth], by
    rw [PyData.shown_bool]
    cases b
    · show (5 : Nat) + 10 ≤ 2000 * nod _; simp [nod]
    · show (4 : Nat) + 10 ≤ 2000 * nod _; simp [nod]⟩
  | n, .int i, h => by
    have h : i.natAbs.log2 < 1920 := by
      cases n <;> exact h
    refine ⟨by simp [PyData.showable, h], by simp [PyData.depth], ?_⟩
    rw [PyData.shown_int]
    have := int_text_len_1921 h
    have e : nod (.int i) = 1 := by simp [nod]
    rw [e]
    exact Nat.le_trans (Nat.add_le_add_right this 10) (by decide)
  | n, .str x, h => by
    have h : (reprText x).length ≤ 1900 := by
      cases n <;> exact h
    refine ⟨by simp [PyData.showable], by simp [PyData.depth], ?_⟩
    rw [PyData.shown_str]
    have e : nod (.str x) = 1 := by simp [nod]
    rw [e]
    omega
  | n, .dict kvs, h => by
    have h : kvs = [] := by
      cases n <;> exact h
    subst h
    refine ⟨by simp [PyData.showable, PyData.showableKv], by simp [PyData.depth, PyData.depthKv], ?_⟩
    have e : nod (.dict []) = 1 := by simp [nod]
    rw [e]
    decide +kernel
  | n + 1, .list xs, h => by
    obtain ⟨b1, b3, b4⟩ := okEAll (okES n) xs h
    refine ⟨by simp [PyData.showable, b1], by simp only [PyData.depth]; omega, ?_⟩
    rw [PyData.shown_list, strLen_append, strLen_append]
    have j := join_le (PyData.shownAll xs)
    have e1 : (Str.ofString "[").length = 1 := by decide
    have e2 : (Str.ofString "]").length = 1 := by decide
    have e : nod (.list xs) = 1 + nodA xs := by simp [nod]
    rw [e, e1, e2]
    omega
  | n + 1, .tuple xs, h => by
    obtain ⟨b1, b3, b4⟩ := okEAll (okES n) xs h
    refine ⟨by simp [PyData.showable, b1], by simp only [PyData.depth]; omega, ?_⟩
    rw [PyData.shown_tuple, strLen_append, strLen_append]
    have j := join_le (PyData.shownAll xs)
    have e1 : (Str.ofString "(").length = 1 := by decide
    have e2 : (Str.ofString (if (xs.length == 1) = true then ",)" else ")")).length ≤ 2 := by
      split
      · decide
      · decide
    have e : nod (.tuple xs) = 1 + nodA xs := by simp [nod]
    rw [e, e1]
    omega
  | 0, .list _, h => h.elim
  | 0, .tuple _, h => h.elim
structure ShowyE (d : PyData) : Prop where
  able : d.showable = true
  depth : d.depth ≤ 60
  size : d.shown.length ≤ sizeLine
theorem showyE {n : Nat} {d : PyData} (h : okE n d) (hn : n ≤ 50) (hz : nod d ≤ 8000) : ShowyE d := by
  have a := okES n d h
  refine ⟨a.able, Nat.le_trans a.depth (by omega), Nat.le_trans (Nat.le_trans (Nat.le_add_right _ 10) a.size) ?_⟩
  have : sizeLine = 16777216 := sizeLine_eq
  omega
section
variable {X : Cx} {pins : List (Addr × Obj)} {σ : L2.St} {H : Hp} {s : Shared}
mutual
theorem Dq.shows (I : Inv X pins σ H s) : ∀ (d : PyData) (v : V) (u : Value), Dq X.K H v d → RelV v u → d.showable = true → d.shown.length ≤ sizeLine → ∃ bs, ReadAtMost s.heap d.depth bs ∧ ReprK X.prog X.w bs s.heap d.depth u d.shown
  | .none, _, _, h, r, _, _ => by
    cases h
    cases r
    exact ⟨[], (fun _ h => nomatch h), by simp only [PyData.shown]; exact .of_is ReprIs.none _ _ _⟩
  | .bool b, _, _, h, r, _, _ => by
    cases h
    cases r
    exact ⟨[], (fun _ h => nomatch h), by simp only [PyData.shown]; exact .of_is (ReprIs.bool b) _ _ _⟩
  | .int i, _, _, h, r, hs, _ => by
    cases h
    obtain ⟨t, rfl⟩ := r
    exact ⟨[], (fun _ h => nomatch h), by simp only [PyData.shown]; exact .of_is (ReprIs.int t (by simpa [PyData.showable] using hs)) _ _ _⟩
  | .str x, _, _, h, r, _, hz => by
    cases h
    obtain ⟨t, rfl⟩ := r
    exact ⟨[], (fun _ h => nomatch h), by simp only [PyData.shown]; exact .of_is (ReprIs.str x t (by simpa only [PyData.shown] using hz)) _ _ _⟩
  | .list xs, v, u, h, r, hs, hz => by
    have h0 := h
    have r0 := r
    cases h with
    | lst h1 ha =>
      cases r
      obtain ⟨its, rv, ⟨o, n, ho, hc, _, hd⟩, _⟩ := I.list (.inl (.inl h1))
      obtain ⟨as, rd⟩ := Dq.rd I (.list xs) _ _ h0 r0
      have hz' : (listText (PyData.shownAll xs)).length ≤ sizeLine := by simpa only [PyData.shown] using hz
      obtain ⟨bs, hb, hk⟩ := DqA.shows I xs _ its ha rv (by simpa [PyData.showable] using hs) (fun t ht => Nat.le_trans (listText_mem_le ht) hz')
      have hna := not_mem_of_deeper rd (by simp only [PyData.depth]; omega) hb
      refine ⟨_ :: bs, ReadAtMost.cons rd (by simp only [PyData.depth]; omega) hb, ?_⟩
      simp only [PyData.depth, PyData.shown]
      cases its with
      | nil =>
        have e : PyData.shownAll xs = [] := by
          have := hk.length_eq
          exact List.length_eq_zero_iff.mp (by simpa using this)
        rw [e, listText_nil]
        exact ReprK.listEmpty ho hc hd
      | cons x l => exact ReprK.list ho hc hd hna (by simpa using hk.length_eq) (fun i y e => hk.item i y (by simpa using e))
  | .tuple xs, v, u, h, r, hs, hz => by
    have h0 := h
    have r0 := r
    cases h with
    | tup h1 ha =>
      cases r
      obtain ⟨its, rv, ⟨o, ho, hc, n, hd⟩, _⟩ := I.tuple h1
      obtain ⟨as, rd⟩ := Dq.rd I (.tuple xs) _ _ h0 r0
      have hz' : (tupleText (PyData.shownAll xs)).length ≤ sizeLine := by simpa only [PyData.shown] using hz
      obtain ⟨bs, hb, hk⟩ := DqA.shows I xs _ its ha rv (by simpa [PyData.showable] using hs) (fun t ht => Nat.le_trans (tupleText_mem_le ht) hz')
      have hna := not_mem_of_deeper rd (by simp only [PyData.depth]; omega) hb
      refine ⟨_ :: bs, ReadAtMost.cons rd (by simp only [PyData.depth]; omega) hb, ?_⟩
      simp only [PyData.depth, PyData.shown]
      exact ReprK.tuple ho hc hd hna hk
  | .dict kvs, v, u, h, r, hs, hz => by
    have h0 := h
    have r0 := r
    cases h with
    | dct h1 =>
      cases r
      obtain ⟨as, rd⟩ := Dq.rd I (.dict []) _ _ h0 r0
      obtain ⟨_, ns, vs, kv, o, es, ep, ho, ex, hd, q⟩ := I.hok _ _ h1
      cases kv
      have z : es.toList = [] := by
        have q2 := q.2.1
        cases h9 : es.toList with
        | nil => rfl
        | cons e r => rw [h9] at q2; cases q2
      refine ⟨_ :: [], ReadAtMost.cons rd (Nat.le_refl _) (fun _ h => nomatch h), ?_⟩
      simp only [PyData.depth, PyData.shown, PyData.shownKv_eq]
      exact ReprK.dict ho ex.1 hd ns (fun h => nomatch h) (by rw [z]; exact ReprEntriesK.of_two [] _ _ .nil .nil)
theorem DqA.shows (I : Inv X pins σ H s) : ∀ (ds : List PyData) (vs : List V) (us : List Value), DqA X.K H vs ds → Vals vs us → PyData.showableAll ds = true → (∀ t ∈ PyData.shownAll ds, t.length ≤ sizeLine) →
    ∃ bs, ReadAtMost s.heap (PyData.depthAll ds) bs ∧ ReprAllK X.prog X.w bs s.heap (PyData.depthAll ds) us (PyData.shownAll ds)
  | [], _, _, h, r, _, _ => by
    cases h
    cases r
    exact ⟨[], (fun _ h => nomatch h), by simp only [PyData.shownAll]; exact .nil⟩
  | d :: ds, _, _, h, r, hs, hz => by
    have hs' : d.showable = true ∧ PyData.showableAll ds = true := by simpa [PyData.showableAll] using hs
    cases h with
    | cons h1 h2 =>
      cases r with
      | cons r1 r2 =>
        obtain ⟨b1, hb1, k1⟩ := Dq.shows I d _ _ h1 r1 hs'.1 (hz _ (by simp only [PyData.shownAll]; exact List.mem_cons_self ..))
        obtain ⟨b2, hb2, k2⟩ := DqA.shows I ds _ _ h2 r2 hs'.2 (fun t ht => hz t (by simp only [PyData.shownAll]; exact List.mem_cons_of_mem _ ht))
        refine ⟨b1 ++ b2, ?_, ?_⟩
        · intro b hm
          simp only [PyData.depthAll]
          rcases List.mem_append.mp hm with hm | hm
          · obtain ⟨d', as', r', hd'⟩ := hb1 b hm
            exact ⟨d', as', r', Nat.le_trans hd' (Nat.le_max_left _ _)⟩
          · obtain ⟨d', as', r', hd'⟩ := hb2 b hm
            exact ⟨d', as', r', Nat.le_trans hd' (Nat.le_max_right _ _)⟩
        · simp only [PyData.depthAll, PyData.shownAll]
          exact .cons ((k1.more fun b hb => List.mem_append_left _ hb).level_le (Nat.le_max_left _ _)) (k2.more_le (fun b hb => List.mem_append_right _ hb) (Nat.le_max_right _ _))
end
end
section
variable {X : Cx} {ds : List PyData}
theorem f_reprE (hg : X.A.guards = some []) (hu : X.A.units + 64 < cLine) (h : ShowyE (.list ds)) : CallD X (.builtin "repr") [.list ds] (.str (PyData.list ds).shown) := by
  refine ⟨fun vs H Q => ∃ v, vs = [v] ∧ Dq X.K H v (.list ds) ∧ Q (.str (PyData.list ds).shown) H, ?_, fun F H vs Q s hv k => ?_⟩
  · intro pins s σ H vs us Q I r h9
    obtain ⟨v, rfl, h0, q⟩ := h9
    cases r with
    | cons r1 t =>
      cases t
      have hd0 := h0
      have r0 := r1
      cases h0 with
      | lst h1 ha =>
        cases r1
        obtain ⟨its, rv, ⟨o, n, ho, hc, _, hd⟩, _⟩ := I.list (.inl (.inl h1))
        obtain ⟨as, rd⟩ := Dq.rd I (.list ds) _ _ hd0 r0
        have hz' : (listText (PyData.shownAll ds)).length ≤ sizeLine := by simpa only [PyData.shown] using h.size
        obtain ⟨bs, hb, hk⟩ := DqA.shows I ds _ its ha rv (by simpa [PyData.showable] using h.able) (fun t ht => Nat.le_trans (listText_mem_le ht) hz')
        have hna := not_mem_of_deeper rd (by simp only [PyData.depth]; omega) hb
        have hdep := h.depth
        simp only [PyData.depth] at hdep
        simp only [PyData.shown] at q
        refine call_repr_slot (by omega) ⟨o, ho, hc⟩ F.slot_list_repr.toG ?_
        cases its with
        | nil =>
          have e : PyData.shownAll ds = [] := by
            have := hk.length_eq
            exact List.length_eq_zero_iff.mp (by simpa using this)
          rw [e, listText_nil] at q
          exact call_list_repr_empty ⟨o, ho, hc⟩ ho hd ⟨_, _, rfl, .str _, H, I.kept (fun _ _ e => e), ⟨_, rfl⟩, q⟩
        | cons x l =>
          exact call_list_reprK ho hc hd hna (by simpa using hk.length_eq) (fun i y e => hk.item i y (by simpa using e)) hg (fun b _ => Clear.nil b) (by show X.A.units + 1 + _ < cLine; omega) (fun _ _ e => e) (fun h' u tk hk => ⟨_, _, rfl, .str _, H, I.kept hk, ⟨u, rfl⟩, q⟩) hz'
  · cases hv with
    | cons h1 t =>
      cases t
      exact ⟨_, rfl, Dq.mono s _ h1, k _ F H (Grow.refl s) (.str _)⟩
end
theorem okeb {n : Nat} {b : Bool} : okE n (.bool b) := by cases n <;> trivial
theorem oken {n : Nat} : okE n .none := by cases n <;> trivial
theorem okei {n : Nat} {i : Int} (h : Bits 1900 i) : okE n (.int i) := by cases n <;> exact log2_small h
theorem okel {n : Nat} {xs : List PyData} (h : ∀ y ∈ xs, okE n y) : okE (n + 1) (.list xs) := h
theorem oket {n : Nat} {xs : List PyData} (h : ∀ y ∈ xs, okE n y) : okE (n + 1) (.tuple xs) := h
theorem okec {n : Nat} {x : PyData} {xs : List PyData} (h : okE n x) (t : ∀ y ∈ xs, okE n y) : ∀ y ∈ x :: xs, okE n y := fun y hy => by
  rcases List.mem_cons.mp hy with rfl | hy
  · exact h
  · exact t y hy
theorem okeNil {n : Nat} : ∀ y ∈ ([] : List PyData), okE n y := fun _ h => nomatch h
theorem okem {n : Nat} {α : Type} {f : α → PyData} {xs : List α} (h : ∀ x ∈ xs, okE n (f x)) : ∀ y ∈ xs.map f, okE n y := fun y hy => by
  obtain ⟨x, hx, rfl⟩ := List.mem_map.mp hy
  exact h x hx
theorem okE_of : ∀ {n : Nat} {d : PyData}, okD n d → okE n d
  | n, .none, _ => by cases n <;> trivial
  | n, .bool b, _ => by cases n <;> trivial
  | n, .int i, h => by cases n <;> exact h
  | n, .str x, h => by cases n <;> exact h
  | n + 1, .list xs, h => fun x hx => okE_of (h x hx)
  | n + 1, .tuple xs, h => fun x hx => okE_of (h x hx)
  | 0, .list _, h => h.elim
  | 0, .tuple _, h => h.elim
  | 0, .dict _, h => h.elim
  | n + 1, .dict _, h => h.elim
theorem okE_up : ∀ {n m : Nat} {d : PyData}, okE n d → n ≤ m → okE m d
  | n, m, .none, _, _ => by cases m <;> trivial
  | n, m, .bool b, _, _ => by cases m <;> trivial
  | n, m, .int i, h, _ => by cases n <;> cases m <;> exact h
  | n, m, .str x, h, _ => by cases n <;> cases m <;> exact h
  | n, m, .dict x, h, _ => by cases n <;> cases m <;> exact h
  | n + 1, m, .list xs, h, e => by
    cases m with
    | zero => omega
    | succ m => exact fun x hx => okE_up (h x hx) (by omega)
  | n + 1, m, .tuple xs, h, e => by
    cases m with
    | zero => omega
    | succ m => exact fun x hx => okE_up (h x hx) (by omega)
  | 0, _, .list _, h, _ => h.elim
  | 0, _, .tuple _, h, _ => h.elim
/-! ### a list held alone is read for some statements -/
def tX (K : PySem.W.Frag) (ρ ρ' : Rho) (fs : List Nat) (t : TS) : TS := fun D σ H => ∃ F, Sat K F ρ σ H ∧ ∀ σ' F' H', Step K ρ σ F H ρ' σ' F' H' → Same0 fs σ σ' → (∀ q, Own ρ' σ' q → Own ρ σ q) → t D σ' H'
abbrev SDx (X : Cx) (ρ : Rho) (sts : List Stmt) (ρ' : Rho) (fs : List Nat) (t : TS) : Prop := PSs X sts (tX X.K ρ ρ' fs t)
section
variable {X : Cx} {ρ ρ1 ρ2 ρ3 : Rho} {st : Stmt} {sts a b : List Stmt} {e c : Expr} {d : PyData} {l : List PyData} {pos p : Pos} {x : Str} {fs gs : List Nat}
theorem xs_end {t : TS} (h : PSs X sts t) : SDx X ρ sts ρ [] t := h.weak fun D σ H ⟨F, S, g⟩ => g σ F H (Step.refl S) ⟨rfl, fun _ _ => rfl⟩ own_id
theorem xs_set {T : TS} (n : Nat) (h : ED X ρ e ρ1 d) (nd : X.N.Nodup) (hN : X.N[n]? = some x) (hx : Loc X.env.scope x) (t : SDx X (ρ1.set n (some (.dat d))) sts ρ2 fs T) (hs : swapsWith e (some (.Name x p)) pos.line X.env = pure false := by rfl) (hf : X.fn x = true ∨ X.env.scope.names.lookup x = some .local := by first | exact .inl rfl | exact .inr rfl | assumption) :
    SDx X ρ (.Assign [.Name x p] e pos :: sts) ρ2 (n :: fs) T :=
  (pss_cons (ps_set nd hN hx h hs hf) t).weak fun D σ H ⟨F, S, g⟩ => ⟨F, S, fun v F1 H1 s1 o1 hv => by
    have t1 := s1.trans (Step.setD (n := n) s1.sat hv)
    have own : ∀ q, Own (ρ1.set n (some (.dat d))) (σ.set n (some v)) q → Own ρ σ q := fun q ⟨i, z⟩ => o1 q ⟨i, (Held.ofSet (fun c e => by cases e; rfl) z).1⟩
    refine ⟨F1, t1.sat, fun σ' F' H' s2 e2 o2 => g σ' F' H' (t1.trans s2) ⟨by rw [e2.1, List.length_set], fun i hi => ?_⟩ fun q h => own q (o2 q h)⟩
    rw [e2.2 i fun z => hi (List.mem_cons_of_mem _ z), List.getElem?_set_ne fun z => hi (by rw [z]; exact List.mem_cons_self)]⟩
theorem xs_ifF {T : TS} (hc : TD X ρ c ρ1 false) (t : SDx X ρ1 sts ρ2 fs T) : SDx X ρ (.If c a [] pos :: sts) ρ2 fs T :=
  (pss_cons (ps_if hc pss_never pss_nil) t).weak fun D σ H ⟨F, S, g⟩ => ⟨F, S, fun F1 H1 s1 o1 => iteF ⟨F1, s1.sat, fun σ' F' H' s2 e2 o2 => g σ' F' H' (s1.trans s2) e2 fun q h => o1 q (o2 q h)⟩⟩
theorem forget_get {ρ ρ' : Rho} {fs : List Nat} (e : forgetR ρ fs = forgetR ρ' fs) {i : Nat} (h : i ∉ fs) : ρ[i]? = ρ'[i]? := by
  rw [← forgetR_out h, e, forgetR_out h]
theorem ss_peek {o : Out} (n : Nat) (fs : List Nat) {cc : Cell} (h : ρ[n]? = some (some cc)) (hm : cc.mu = some (.lst l)) (hn : n ∉ fs) (ht : SDx X (ρ.set n (some (.dat (.list l)))) sts ρ1 fs (tS X.K (forgetR ρ fs) o)) (he : forgetR ρ1 fs = forgetR (ρ.set n (some (.dat (.list l)))) fs) (hp : peekOk ρ n = true) : SDs X ρ sts o :=
  ht.weak fun D σ H ⟨F, S, k⟩ => by
    obtain ⟨p, o, e1, e2, e3, e4⟩ := S.held h hm
    cases o with
    | lst xs =>
      have hl := (List.getElem?_eq_some_iff.mp h).1
      have other : ∀ {i : Nat} {q : Addr}, Held (ρ.set n (some (.dat (.list l)))) σ i q → Held ρ σ i q ∧ q ≠ p := fun {i q} ⟨c1, m, a, b, d⟩ => by
        by_cases z : n = i
        · subst z
          rw [List.getElem?_set_self hl] at a
          cases a
          cases b
        · rw [List.getElem?_set_ne z] at a
          refine ⟨⟨c1, m, a, b, d⟩, fun w => z (S.inj n i q ⟨cc, _, h, hm, by rw [e1, w]⟩ ⟨c1, m, a, b, d⟩)⟩
      have S2 : Sat X.K (upd F p (.lst xs)) (ρ.set n (some (.dat (.list l)))) σ H := by
        refine ⟨by rw [List.length_set]; exact S.len, fun b u z => ?_, fun i c1 x a b => ?_, fun i j q a b => S.inj i j q (other a).1 (other b).1⟩
        · by_cases hb : b = p
          · subst hb
            rw [upd_same] at z
            rw [e3]
            exact z
          · rw [upd_ne hb] at z
            exact S.sub _ _ z
        · by_cases z : n = i
          · subst z
            rw [List.getElem?_set_self hl] at a
            cases a
            rw [e1] at b
            cases b
            exact ⟨_, rfl, .lst upd_same (DqA.mono (same_upd e2) _ e4)⟩
          · rw [List.getElem?_set_ne z] at a
            have sl := S.slot i c1 x a b
            have ne : ∀ r, x = some (.ref r) → ∀ c2 m, c1 = some c2 → c2.mu = some m → r ≠ p := fun r hx c2 m h2 h3 w => z (S.inj n i p ⟨cc, _, h, hm, e1⟩ ⟨c2, m, by rw [a, h2], h3, by rw [b, hx, w]⟩)
            cases c1 with
            | none => trivial
            | some c1 =>
              cases c1 with
              | dat d =>
                obtain ⟨v, q1, q2⟩ := sl
                exact ⟨v, q1, q2.mono (same_upd e2)⟩
              | scr ns =>
                obtain ⟨v, q1, q2⟩ := sl
                exact ⟨v, q1, (same_upd e2).seq q2⟩
              | own m =>
                obtain ⟨r, u, q1, q2, q3, q4⟩ := sl
                exact ⟨r, u, q1, by rw [upd_ne (ne r q1 _ _ rfl rfl)]; exact q2, q3, q4.mono (same_upd e2)⟩
              | bor r m =>
                obtain ⟨u, q1, q2, q3, q4⟩ := sl
                exact ⟨u, q1, by rw [upd_ne (ne r q1 _ _ rfl rfl)]; exact q2, q3, q4.mono (same_upd e2)⟩
      refine ⟨_, S2, fun σ' F' H' st e0 oo => ?_⟩
      have kp : H' p = some (.lst xs) := st.sat.sub p _ (st.fr p _ upd_same)
      have gt : ∀ {i : Nat}, i ∉ fs → i ≠ n → ρ1[i]? = ρ[i]? := fun {i} hi ne => by
        rw [forget_get he hi, List.getElem?_set_ne fun z => ne z.symm]
      have H'own : ∀ q, Own (ρ.set n (some (.dat (.list l)))) σ q → F q = none := fun q hq => by
        have := (S2.ownF hq).1
        have ne : q ≠ p := fun w => by
          obtain ⟨i, hi⟩ := hq
          exact (other hi).2 w
        rw [upd_ne ne] at this
        exact this
      have back : ∀ {i q}, Held (forgetR ρ fs) σ' i q → Held ρ σ i q := fun {i q} ⟨c1, m, a, b, d⟩ => by
        by_cases y : i ∈ fs
        · cases forgetR_in y a
        · rw [forgetR_out y] at a
          rw [e0.2 i y] at d
          exact ⟨c1, m, a, b, d⟩
      suffices S9 : Step X.K ρ σ F H (forgetR ρ fs) σ' F H' from ⟨F, S9.sat, Goes.step S9 k⟩
      refine ⟨Same.refl F, fun _ a _ _ => a, fun q u a b => ?_, st.live, ⟨by rw [e0.1, S.len, forgetR_len], fun b u z => ?_, fun i c1 x a b => ?_, fun i j q a b => S.inj i j q (back a) (back b)⟩, fun q ⟨i, hq⟩ => .inl ⟨i, back hq⟩⟩
      · by_cases w : q = p
        · rw [w] at a ⊢
          rw [e3] at a
          rw [kp]
          exact a
        · refine st.keep q u a fun z => b ?_
          obtain ⟨i, hi⟩ := z
          exact ⟨i, (other hi).1⟩
      · by_cases w : Own (ρ.set n (some (.dat (.list l)))) σ b
        · rw [H'own b w] at z
          cases z
        · exact st.keep b u (S.sub _ _ z) w
      · by_cases y : i ∈ fs
        · cases forgetR_in y a
          trivial
        · rw [forgetR_out y] at a
          have b' := b
          rw [e0.2 i y] at b
          by_cases z : n = i
          · subst z
            rw [h] at a
            cases a
            rw [e1] at b
            cases b
            have sl := S.slot n _ _ h e1
            cases cc with
            | dat d => cases hm
            | scr ns => cases hm
            | own m =>
              cases hm
              exact ⟨p, _, rfl, e2, kp, e4⟩
            | bor r m =>
              cases hm
              obtain ⟨u, q1, q2, q3, q4⟩ := sl
              cases q1
              exact ⟨_, rfl, e2, kp, e4⟩
          · have sl := S.slot i c1 x a b
            have sl2 := st.sat.slot i c1 x (by rw [gt y fun w => z w.symm]; exact a) b'
            cases c1 with
            | none => trivial
            | some c1 =>
              cases c1 with
              | dat d => exact sl
              | scr ns => exact sl
              | own m =>
                obtain ⟨r, u, q1, q2, q3, q4⟩ := sl
                obtain ⟨r', u', f1, f2, f3, f4⟩ := sl2
                rw [q1] at f1
                cases f1
                exact ⟨r, u', q1, q2, f3, mu_flat f4 (peek_at hp z a rfl)⟩
              | bor r m =>
                obtain ⟨u, q1, q2, q3, q4⟩ := sl
                obtain ⟨u', f1, f2, f3, f4⟩ := sl2
                exact ⟨u', q1, q2, f3, mu_flat f4 (peek_at hp z a rfl)⟩
    | _ => exact e4.elim
end
section
variable {X : Cx} {sc : Scope} {ρ : Rho} {tg elt : Expr} {vs : List Nat} {ifs : List Expr}
theorem lc_some {α : Type} (enc : α → PyData) (p : α → Bool) (g : α → PyData) (l : List α)
    (step : ∀ x ∈ l, ∃ ρ1 ρ2, (Bk X sc fun B => GD B vs ρ tg (enc x) ρ1) ∧ (Bk X sc fun B => TsD B ρ1 ifs ρ2 (p x)) ∧ (Bk X sc fun B => ED B ρ2 elt ρ2 (g x)) ∧ forgetR ρ2 vs = ρ) :
    LcD X sc vs tg ifs elt (l.map enc) ρ ((l.filter p).map g) ρ := by
  induction l with
  | nil => exact .nil
  | cons x r ih =>
    obtain ⟨ρ1, ρ2, h1, h2, h3, h4⟩ := step x List.mem_cons_self
    have q := ih fun y hy => step y (List.mem_cons_of_mem _ hy)
    rw [List.filter_cons]
    by_cases hx : p x = true
    · rw [if_pos hx]
      rw [hx] at h2
      exact .keep h1 h2 h3 (by rw [h4]; exact q)
    · rw [if_neg hx]
      have e : p x = false := by simpa using hx
      rw [e] at h2
      exact .skip h1 h2 (by rw [h4]; exact q)
end
section
variable {X : Cx} {ρ ρ1 ρ2 : Rho} {e1 e2 c : Expr} {d d1 d2 : PyData} {l : List PyData} {x y : Str} {pos : Pos} {body : List Stmt} {tg : Expr} {vs : List Nat}
/-- a, b = e1, e2 by a tuple (one of the names is captured): a list held alone and data -/
theorem s_parCO (n m : Nat) {kt k2 : Nat} {pt pt2 px py : Pos} (hc : X.calm = true) (ha : EO X ρ e1 ρ1 l) (hb : ED X ρ1 e2 ρ2 d2) (nd : X.N.Nodup) (hN : X.N[n]? = some x) (hM : X.N[m]? = some y) (hnm : n ≠ m) (hx : Loc X.env.scope x) (hy : Loc X.env.scope y)
    (hw : swappedStores [.Tuple [.Name x px, .Name y py] kt pt] (.Tuple [e1, e2] k2 pt2) X.env = pure none)
    (hf : X.fn x = true ∨ X.env.scope.names.lookup x = some .local := by first | exact .inl rfl | exact .inr rfl | assumption) (hf2 : X.fn y = true ∨ X.env.scope.names.lookup y = some .local := by first | exact .inl rfl | exact .inr rfl | assumption)
    (hq : starEach [e1, e2] X.env = (false, eval e1 X.env) :: starEach [e2] X.env := by rfl) (hq2 : starEach [e2] X.env = (false, eval e2 X.env) :: starEach [] X.env := by rfl)
    (hs : swapsWithSole [.Tuple [.Name x px, .Name y py] kt pt] (.Tuple [e1, e2] k2 pt2) pos.line X.env = pure false := by rfl)
    (h1 : (assignEach [.Tuple [.Name x px, .Name y py] kt pt] X.env).map (·.2) = [assign (.Tuple [.Name x px, .Name y py] kt pt) X.env] := by rfl)
    (hn : (assignEach [.Name x px, .Name y py] X.env).length = 2 := by rfl) (hst : (assignEach [.Name x px, .Name y py] X.env).findIdx? (·.1) = none := by rfl)
    (hc1 : (assignEach [.Name x px, .Name y py] X.env).map (·.2) = assign (.Name x px) X.env :: (assignEach [.Name y py] X.env).map (·.2) := by rfl) (hc2 : (assignEach [.Name y py] X.env).map (·.2) = assign (.Name y py) X.env :: (assignEach [] X.env).map (·.2) := by rfl) :
    SD X ρ (.Assign [.Tuple [.Name x px, .Name y py] kt pt] (.Tuple [e1, e2] k2 pt2) pos) (.nx ((ρ2.set n (some (.own (.lst l)))).set m (some (.dat d2)))) :=
  (ps_asg (pe_tup (pa_cons ha (pa_cons hb pa_nil hq2) hq)) (pg_tup hc (pgs_cons (pg_name nd hN hx hf) (pgs_cons (pg_name nd hM hy hf2) pgs_nil hc2) hc1) hn hst) hs hw h1).weak fun D σ H ⟨F, S, g⟩ => ⟨F, S, fun v1 F1 H1 s1 o1 h1 => ⟨F1, s1.sat, fun v2 F2 H2 s2 o2 h2 => by
    refine ⟨Nat.le_of_ble_eq_true rfl, fun p hp => ⟨p, [v1, v2], rfl, .inl (.inl upd_same), rfl, v1, [v2], rfl, v2, [], rfl, rfl, ?_⟩⟩
    have s12 := s1.trans s2
    have tl := s12.trans (Step.laidM s2.sat (o := .tup [v1, v2]) hp)
    obtain ⟨q, o, b1, ⟨b2, b3⟩, b4, b5, b6⟩ := h1
    have hq5 : H1 q ≠ none := by rw [b5]; simp
    have k5 := s2.keep q o b5 b3
    have t1 := tl.into (n := n) (m := .lst l) ⟨q, o, b1, ⟨b2, fun z => b3 (o2 q z)⟩, s2.new q b4 hq5 b3, by rw [upd_ne (ne_of_none k5 hp)]; exact k5, b6.mono s2.fr⟩
    exact g _ F2 _ (t1.trans (Step.setD (n := m) (d := d2) t1.sat h2))⟩⟩
/-- a loop that draws and appends -/
theorem forD_run {α β γ : Type} (fs : List Nat) (enc : α → PyData) (g : β → α → β × γ) (R : β → List γ → Rho) (I : List α → β → List γ → Prop) (l : List α) (b : β) (acc : List γ)
    (step : ∀ x r b a, I (x :: r) b a → ∃ ρ1 ρ2, GD X vs (R b a) tg (enc x) ρ1 ∧ SDs X ρ1 body (.nx ρ2) ∧ forgetR ρ2 fs = R (g b x).1 (a ++ [(g b x).2]) ∧ I r (g b x).1 (a ++ [(g b x).2])) (h0 : I l b acc) :
    ForD X tg vs body (.nx (R (endT g b l) (acc ++ runT g b l))) (l.map enc) (R b acc) := by
  induction l generalizing b acc with
  | nil =>
    show ForD X tg vs body (.nx (R b (acc ++ []))) [] (R b acc)
    rw [List.append_nil]
    exact .nil rfl
  | cons x r ih =>
    obtain ⟨ρ1, ρ2, h1, h2, h3, h4⟩ := step x r b acc h0
    have q := ih (g b x).1 (acc ++ [(g b x).2]) h4
    rw [List.append_assoc] at q
    exact .next h1 (by rw [← h3]; exact ss_forget fs h2) q
end
theorem depth_ints : ∀ ns : List Int, PyData.depthAll (ns.map PyData.int) = 0
  | [] => by simp [PyData.depthAll]
  | i :: r => by
    have := depth_ints r
    simp [PyData.depthAll, PyData.depth, this]
theorem depth_frs : ∀ ns : List Fr, PyData.depthAll (ns.map fr) ≤ 1
  | [] => by simp [PyData.depthAll]
  | i :: r => by
    have := depth_frs r
    simp only [List.map_cons, PyData.depthAll]
    have h : (fr i).depth = 1 := by simp [fr, PyData.depth, PyData.depthAll]
    omega
theorem lay_ints : ∀ ns : List Int, PyData.canLayAll0 (ns.map PyData.int) = true
  | [] => rfl
  | i :: r => by
    have := lay_ints r
    simp [PyData.canLayAll0, PyData.canLay0, this]
theorem lay_frs : ∀ ns : List Fr, PyData.canLayAll0 (ns.map fr) = true
  | [] => rfl
  | i :: r => by
    have := lay_frs r
    simp [fr, PyData.canLayAll0, PyData.canLay0, this]
theorem ints_shaped (ns : List Int) : SeqAt.shaped (.list (ns.map .int)) = true := by
  have := depth_ints ns
  simp [SeqAt.shaped, PyData.canLay0, lay_ints, PyData.depth, this]
theorem frs_shaped (ns : List Fr) : SeqAt.shaped (.list (ns.map fr)) = true := by
  have := depth_frs ns
  have h : PyData.depthAll (ns.map fr) + 1 ≤ 64 := by omega
  simp [SeqAt.shaped, PyData.canLay0, lay_frs, PyData.depth, h]
theorem nil_shaped : SeqAt.shaped (.list []) = true := rfl
theorem eqv_nilI {α : Type} (f : α → PyData) (ns : List α) : PyData.eqv (.list (ns.map f)) (.list []) = ns.isEmpty := by
  cases ns with
  | nil => rfl
  | cons a r => rfl
section
variable {X : Cx} {k n : Nat} {f : Addr} {fd : FuncData} {ps ks : List Str} {ρ ρ0 ρ1 ρ2 : Rho} {x y : Str} {p pos px : Pos} {e0 : Expr} {es : List Expr} {ds : List PyData} {d : PyData} {m m' : List PyData}
/-- what is held by no slot is changed at q -/
theorem Step.aside {K : PySem.W.Frag} {F H F1 H1 F2 H2 : Hp} {σ : L2.St} {q : Addr} {vs : List V} (s1 : Step K ρ σ F H ρ1 σ F1 H1) (hq : H q = none ∨ Own ρ σ q) (hn : ¬ Own ρ1 σ q)
    (st : Step K ((Cell.bor q (.lst m) :: ds.map Cell.dat).map some) ((V.ref q :: vs).map some) F1 H1 ((Cell.bor q (.lst m') :: ds.map Cell.dat).map some) ((V.ref q :: vs).map some) F2 H2) : Step K ρ σ F H ρ1 σ F2 H2 := by
  have other : ∀ r, H r ≠ none → ¬ Own ρ σ r → r ≠ q := fun r a b e => by
    subst e
    rcases hq with h | h
    · exact a h
    · exact b h
  have no : ∀ r, r ≠ q → ¬ Own ((Cell.bor q (.lst m) :: ds.map Cell.dat).map some) ((V.ref q :: vs).map some) r := fun r h z => h (own_bor z)
  refine ⟨s1.fr.trans st.fr, fun r a b c => st.new r (s1.new r a b c) (s1.live r b) (no r (other r b c)), fun r o a c => st.keep r o (s1.keep r o a c) (no r (other r (by rw [a]; simp) c)), fun r a => st.live r (s1.live r a), ⟨s1.sat.len, st.sat.sub, fun i c x a b => ?_, s1.sat.inj⟩, s1.own⟩
  have sl := s1.sat.slot i c x a b
  have ne : ∀ r, x = some (.ref r) → ∀ c2 m, c = some c2 → c2.mu = some m → r ≠ q := fun r hx c2 m h2 h3 e => hn ⟨i, c2, m, by rw [a, h2], h3, by rw [b, hx, e]⟩
  cases c with
  | none => trivial
  | some c1 =>
    cases c1 with
    | dat d =>
      obtain ⟨v, q1, q2⟩ := sl
      exact ⟨v, q1, q2.mono st.fr⟩
    | scr ns =>
      obtain ⟨v, q1, q2⟩ := sl
      exact ⟨v, q1, st.fr.seq q2⟩
    | own m1 =>
      obtain ⟨r, u, q1, q2, q3, q4⟩ := sl
      have z := no r (ne r q1 _ _ rfl rfl)
      exact ⟨r, u, q1, st.new r q2 (by rw [q3]; simp) z, st.keep r u q3 z, q4.mono st.fr⟩
    | bor r m1 =>
      obtain ⟨u, q1, q2, q3, q4⟩ := sl
      have z := no r (ne r q1 _ _ rfl rfl)
      exact ⟨u, q1, st.new r q2 (by rw [q3]; simp) z, st.keep r u q3 z, q4.mono st.fr⟩
/-- f(e0, e, ..), e0 a new list -/
theorem e_callN {R : List PyData → List PyData → List PyData → PyData → Prop} (G : FnG X.prog X.w X.K X.mg X.base CX0 k f fd ps (spOf X.K (potS R))) (room : Room k X.A) (grd : X.A.guards = some []) (gl : Gl X x) (hm : X.mg x = some (.ref f)) (kp : PySem.W.keepIn X.K (.ref f) = true)
    (bn : Binds X.K fd ps []) (h0 : EO X ρ e0 ρ0 m) (ha : AD X ρ0 es ρ1 ds) (hR : R m ds m' d)
    (hdb : (x == ("__debug__" : Str)) = false := by decide) (he : starEach (e0 :: es) X.env = (false, eval e0 X.env) :: starEach es X.env := by rfl)
    (hpl : (backTo pos (starEach es X.env)).any (·.1) = false := by rfl) : ED X ρ (.Call (.Name x p) (e0 :: es) [] pos) ρ1 d :=
  (g_call G room grd gl hm kp bn .nil pass0 (pa_cons h0 ha he) hdb he hpl).weak fun σ H Q ⟨F, S, kk⟩ => by
    refine ⟨F, S, fun v0 F0 H0 s0 o0 v => ?_⟩
    obtain ⟨q, o, rfl, ⟨b2, b3⟩, b4, b5, b6⟩ := v
    refine ⟨F0, s0.sat, fun vs F1 H1 s1 o1 v1 => ?_⟩
    have hq5 : H0 q ≠ none := by rw [b5]; simp
    have k5 := s1.keep q o b5 b3
    refine nilArgs (spOf X.K _) (V.ref q :: vs) H1 Q _ ?_
    refine ⟨_, _, _, ⟨q, m, ds, m', d, hR, rfl, rfl, rfl⟩, F1, ?_, fun v F2 H2 st _ hv => ?_⟩
    · exact sat_bor v1 s1.sat.sub (s1.new q b4 hq5 b3) k5 (b6.mono s1.fr)
    · exact kk v F2 H2 (Step.aside (s0.trans s1) b2 (fun z => b3 (o1 q z)) st) (fun r z => o0 r (o1 r z)) hv
end
end Cl

set_option maxRecDepth 100000
namespace Cl
open PySem PySem.Spec PyProof.Rows L2
/-! ### steps, walks, loops of a survey -/
def gAt (s : Sv) (i : Int) : Leg := s.legs.getD i.toNat ⟨0, 0, 1, [], [], (0, 1)⟩
def okStep (m : Int) (p : Fr) : Bool := decide (0 ≤ p.1 ∧ p.1 ≤ m - 1 ∧ (p.2 = 1 ∨ p.2 = -1))
def isStep (m : Int) : PyData → Bool
  | .tuple [.int a, .int b] => okStep m (a, b)
  | _ => false
def toFr : PyData → Fr
  | .tuple [.int a, .int b] => (a, b)
  | _ => (0, 0)
theorem isStep_fr (m : Int) (p : Fr) : isStep m (fr p) = okStep m p := rfl
theorem isStep_of {m : Int} {x : PyData} (h : isStep m x = true) : x = fr (toFr x) ∧ okStep m (toFr x) = true := by
  unfold isStep at h
  split at h
  · exact ⟨rfl, h⟩
  · cases h
theorem isStep_no {m : Int} {x : PyData} (h : ¬ isName x "tuple" = true) : isStep m x = false := by
  unfold isStep
  split
  · exact absurd rfl h
  · rfl
theorem isStep_len {m : Int} {l : List PyData} (h : ¬ l.length = 2) : isStep m (.tuple l) = false := by
  unfold isStep
  split
  · rename_i e
    cases e
    exact absurd rfl h
  · rfl
theorem isStep_a {m : Int} {a b : PyData} (h : ¬ isI a = true) : isStep m (.tuple [a, b]) = false := by
  unfold isStep
  split
  · rename_i e
    cases e
    exact absurd rfl h
  · rfl
theorem isStep_b {m : Int} {a b : PyData} (h : ¬ isI b = true) : isStep m (.tuple [a, b]) = false := by
  unfold isStep
  split
  · rename_i e
    cases e
    exact absurd rfl h
  · rfl
theorem steps_of {m : Int} {l : List PyData} (h : (l.map (isStep m)).all id = true) : ∃ w : List Fr, l = w.map fr ∧ ∀ p ∈ w, okStep m p = true := by
  rw [List.all_map] at h
  have h := List.all_eq_true.mp h
  refine ⟨l.map toFr, ?_, fun p hp => ?_⟩
  · rw [List.map_map]
    conv => lhs; rw [← List.map_id l]
    exact List.map_congr_left fun x hx => (isStep_of (h x hx)).1
  · obtain ⟨x, hx, rfl⟩ := List.mem_map.mp hp
    exact (isStep_of (h x hx)).2
theorem steps_all {m : Int} {w : List Fr} (h : ∀ p ∈ w, okStep m p = true) : ((w.map fr).map (isStep m)).all id = true := by
  rw [List.all_map]
  refine List.all_eq_true.mpr fun x hx => ?_
  obtain ⟨p, hp, rfl⟩ := List.mem_map.mp hx
  exact h p hp
theorem toFr_map (w : List Fr) : (w.map fr).map toFr = w := by
  rw [List.map_map]
  exact List.map_id w
def endsF (s : Sv) (p : Fr) : Fr := if p.2 = 1 then ((gAt s p.1).a, (gAt s p.1).b) else ((gAt s p.1).b, (gAt s p.1).a)
def joinsB (s : Sv) (w : List Fr) : Bool := ((w.zip (w.drop 1)).map fun q => decide ((endsF s q.1).2 = (endsF s q.2).1)).all id
def lenS (s : Sv) : Int := ((s.legs.map encLeg).length : Int)
theorem lenS_eq (s : Sv) : lenS s = (s.legs.length : Int) := by
  unfold lenS
  rw [List.length_map]
def walkL (s : Sv) (l : List PyData) : Bool := (decide (l.length ≤ 600) && (l.map (isStep (lenS s))).all id) && joinsB s (l.map toFr)
def isWalkV (s : Sv) : PyData → Bool
  | .list l => walkL s l
  | .tuple l => walkL s l
  | _ => false
def startsF (s : Sv) (w : List Fr) : List Int := w.map fun p => (endsF s p).1
def legsF (w : List Fr) : List Int := w.map fun p => p.1
def roundB (s : Sv) (w : List Fr) : Bool := decide ((endsF s (w.getD 0 (0, 0))).1 = (endsF s (w.getD (w.length - 1) (0, 0))).2)
def onceB (s : Sv) (w : List Fr) : Bool := decide ((Cl1.fewI (startsF s w) : Int) = (w.length : Int)) && decide ((Cl1.fewI (legsF w) : Int) = (w.length : Int))
def loopL (s : Sv) (l : List PyData) : Bool := walkL s l && (decide (2 ≤ l.length) && (roundB s (l.map toFr) && onceB s (l.map toFr)))
def isLoopV (s : Sv) : PyData → Bool
  | .list l => loopL s l
  | .tuple l => loopL s l
  | _ => false
/-- what a walk is of -/
structure WalkOk (s : Sv) (w : List Fr) : Prop where
  len : w.length ≤ 600
  ok : ∀ p ∈ w, okStep (lenS s) p = true
theorem walkL_long {s : Sv} {l : List PyData} (h : ¬ l.length ≤ 600) : walkL s l = false := by
  unfold walkL
  rw [decide_eq_false h]
  rfl
theorem walkL_odd {s : Sv} {l : List PyData} (h : ¬ (l.map (isStep (lenS s))).all id = true) : walkL s l = false := by
  unfold walkL
  rw [Bool.eq_false_iff.mpr h, Bool.and_false, Bool.false_and]
theorem walkL_fr {s : Sv} {w : List Fr} (h : WalkOk s w) : walkL s (w.map fr) = joinsB s w := by
  unfold walkL
  rw [steps_all h.ok, toFr_map, decide_eq_true (by rw [List.length_map]; exact h.len)]
  rfl
theorem walkL_of {s : Sv} {l : List PyData} (h : walkL s l = true) : ∃ w : List Fr, l = w.map fr ∧ WalkOk s w ∧ joinsB s w = true := by
  unfold walkL at h
  rw [Bool.and_eq_true, Bool.and_eq_true] at h
  obtain ⟨w, rfl, hw⟩ := steps_of h.1.2
  refine ⟨w, rfl, ⟨?_, hw⟩, ?_⟩
  · have := of_decide_eq_true h.1.1
    rw [List.length_map] at this
    exact this
  · have := h.2
    rw [toFr_map] at this
    exact this
theorem isWalkV_no {s : Sv} {x : PyData} (h1 : ¬ isName x "list" = true) (h2 : ¬ isName x "tuple" = true) : isWalkV s x = false := by
  unfold isWalkV
  split
  · exact absurd rfl h1
  · exact absurd rfl h2
  · rfl
theorem isLoopV_no {s : Sv} {x : PyData} (h : isWalkV s x = false) : isLoopV s x = false := by
  cases x with
  | list l =>
    show (walkL s l && _) = false
    rw [show walkL s l = false from h]
    rfl
  | tuple l =>
    show (walkL s l && _) = false
    rw [show walkL s l = false from h]
    rfl
  | _ => rfl
theorem list_of {x : PyData} (h : isName x "list" = true) : ∃ l, x = .list l := by
  cases x <;> first | exact ⟨_, rfl⟩ | exact absurd h (by decide) | exact absurd h (fun z => nomatch z)
theorem step_in {m : Int} {p : Fr} (h : okStep m p = true) : 0 ≤ p.1 ∧ p.1 ≤ m - 1 ∧ (p.2 = 1 ∨ p.2 = -1) := of_decide_eq_true h
theorem gAt_pick {s : Sv} {p : Fr} (h : okStep (lenS s) p = true) : atI (s.legs.map encLeg) p.1 = some (encLeg (gAt s p.1)) := by
  obtain ⟨h0, h1, _⟩ := step_in h
  exact pick_map _ h0 (by rw [lenS_eq] at h1; omega)
theorem gAt_mem {s : Sv} {p : Fr} (h : okStep (lenS s) p = true) : gAt s p.1 ∈ s.legs := by
  obtain ⟨h0, h1, _⟩ := step_in h
  exact getD_mem _ h0 (by rw [lenS_eq] at h1; omega)
theorem cut_from1 (ds : List PyData) : cutD ds (some 1) none = ds.drop 1 := by
  cases ds with
  | nil => rfl
  | cons x l =>
    unfold cutD
    have h1 : HT.sIx (x :: l).length 0 (some 1) = 1 := by
      simp [HT.sIx]
      try omega
    have h2 : HT.sIx (x :: l).length (x :: l).length none = (x :: l).length := rfl
    rw [h1, h2]
    rw [List.take_of_length_le]
    rw [List.length_drop]
    exact Nat.le_refl _
theorem cut_map1 {α : Type} (f : α → PyData) (w : List α) : cutD (w.map f) (some 1) none = (w.drop 1).map f := by
  rw [cut_from1, List.map_drop]
theorem atI_last {α : Type} (f : α → PyData) (z : α) {w : List α} (h : 1 ≤ w.length) : atI (w.map f) (-1) = some (f (w.getD (w.length - 1) z)) := by
  have hl : (w.map f).length = w.length := List.length_map ..
  unfold atI
  have e : ixN (w.map f).length (-1) = some (w.length - 1) := by
    rw [hl]
    unfold ixN
    rw [if_neg (by decide), if_pos (by omega)]
    congr 1
    omega
  rw [e]
  show (w.map f)[w.length - 1]? = _
  rw [List.getElem?_map, List.getD_eq_getElem?_getD, List.getElem?_eq_getElem (show w.length - 1 < w.length by omega)]
  rfl
theorem map_ints {α : Type} (f : α → Int) (w : List α) : (w.map fun p => PyData.int (f p)) = (w.map f).map .int := by
  rw [List.map_map]
  rfl
theorem ends_eq {s : Sv} {p : Fr} : (if decide (p.2 = 1) = true then PyData.tuple [.int (gAt s p.1).a, .int (gAt s p.1).b] else .tuple [.int (gAt s p.1).b, .int (gAt s p.1).a]) = fr (endsF s p) := by
  unfold endsF
  by_cases h : p.2 = 1
  · rw [if_pos h, if_pos (decide_eq_true h)]
    rfl
  · rw [if_neg h, if_neg (by rw [decide_eq_false h]; exact Bool.false_ne_true)]
    rfl
theorem len_walk {s : Sv} {w : List Fr} {α : Type} {f : Fr → α} (h : WalkOk s w) : (w.map f).length ≤ 1000000 := by
  rw [List.length_map]
  have := h.len
  omega
theorem len_join {s : Sv} {w : List Fr} {f g : Fr → PyData} (h : WalkOk s w) : (pairD (w.map f) ((w.drop 1).map g)).length ≤ 1000000 := by
  rw [pairD_map, List.length_map, List.length_zip]
  have := h.len
  omega
theorem loopL_not {s : Sv} {l : List PyData} (h : ¬ walkL s l = true) : loopL s l = false := by
  unfold loopL
  rw [Bool.eq_false_iff.mpr h]
  rfl
theorem loopL_few {s : Sv} {l : List PyData} (h : ¬ 2 ≤ l.length) : loopL s l = false := by
  unfold loopL
  rw [decide_eq_false h, Bool.false_and, Bool.and_false]
theorem loopL_fr {s : Sv} {w : List Fr} (h : WalkOk s w) (hj : joinsB s w = true) (h2 : 2 ≤ w.length) : loopL s (w.map fr) = (roundB s w && onceB s w) := by
  unfold loopL
  rw [walkL_fr h, hj, toFr_map, decide_eq_true (by rw [List.length_map]; exact h2)]
  rfl
theorem loopL_odd {s : Sv} {w : List Fr} (h : WalkOk s w) (hj : joinsB s w = true) (h2 : 2 ≤ w.length) (h3 : (!roundB s w) = true) : loopL s (w.map fr) = false := by
  rw [loopL_fr h hj h2]
  have : roundB s w = false := by simpa using h3
  rw [this]
  rfl
theorem loopL_round {s : Sv} {w : List Fr} (h : WalkOk s w) (hj : joinsB s w = true) (h2 : 2 ≤ w.length) (h3 : (!roundB s w) = false) : loopL s (w.map fr) = onceB s w := by
  rw [loopL_fr h hj h2]
  have : roundB s w = true := by simpa using h3
  rw [this]
  rfl
theorem onceB_len {s : Sv} {w : List Fr} {f g : Fr → PyData} : (decide ((Cl1.fewI (startsF s w) : Int) = ((w.map f).length : Int)) && decide ((Cl1.fewI (legsF w) : Int) = ((w.map g).length : Int))) = onceB s w := by
  rw [List.length_map, List.length_map]
  rfl
/-! ### sums of walks -//-! ### sums of walks -/
def stepV (s : Sv) (p : Fr) : List Fr := if p.2 = 1 then (gAt s p.1).v else vNeg (gAt s p.1).v
def sumF (s : Sv) (w : List Fr) : List Fr := (w.map (stepV s)).foldl vPlus (vZero s.dims)
def aboutF (w : List Fr) : List Fr := w.reverse.map fun p => (p.1, 0 - p.2)
theorem qf_neg {p : Fr} (h : Low p) : ((0 - p.1, p.2) : Fr) = fq (-(qf p)) := by
  conv => lhs; rw [← fq_qf h]
  show ((0 - (qf p).num, ((qf p).den : Int)) : Fr) = ((-(qf p)).num, ((-(qf p)).den : Int))
  rw [Int.zero_sub]
  rfl
theorem vPlus_q {a b : List Fr} (ha : ∀ x ∈ a, Low x) (hb : ∀ x ∈ b, Low x) : vPlus a b = (List.zipWith (· + ·) (a.map qf) (b.map qf)).map fq := by
  unfold vPlus
  rw [List.zipWith_map, ← List.map_uncurry_zip_eq_zipWith, List.map_map]
  refine List.map_congr_left fun p hp => ?_
  have m := mem_zip hp
  show fPlus p.1 p.2 = fq (qf p.1 + qf p.2)
  conv => lhs; rw [← fq_qf (ha _ m.1), ← fq_qf (hb _ m.2)]
  exact fPlus_q _ _
theorem vNeg_q {a : List Fr} (ha : ∀ x ∈ a, Low x) : vNeg a = ((a.map qf).map (-·)).map fq := by
  unfold vNeg
  rw [List.map_map, List.map_map]
  exact List.map_congr_left fun p hp => qf_neg (ha p hp)
theorem back_q {a : List Fr} (ha : ∀ x ∈ a, Low x) : (a.map qf).map fq = a := by
  rw [List.map_map]
  conv => rhs; rw [← List.map_id a]
  exact List.map_congr_left fun p hp => fq_qf (ha p hp)
theorem low_fq (l : List Rat) : ∀ x ∈ l.map fq, Low x := fun x hx => by
  obtain ⟨q, _, rfl⟩ := List.mem_map.mp hx
  exact fq_low q
theorem qf_map_fq (l : List Rat) : (l.map fq).map qf = l := by
  rw [List.map_map]
  conv => rhs; rw [← List.map_id l]
  exact List.map_congr_left fun q _ => qf_fq q
theorem fold_q : ∀ (l : List (List Fr)) (z : List Fr), (∀ x ∈ z, Low x) → (∀ v ∈ l, ∀ x ∈ v, Low x) → l.foldl vPlus z = ((l.map (·.map qf)).foldl (List.zipWith (· + ·)) (z.map qf)).map fq
  | [], z, hz, _ => (back_q hz).symm
  | v :: l, z, hz, h => by
    have hv := h v List.mem_cons_self
    show l.foldl vPlus (vPlus z v) = _
    have e : ∀ x ∈ vPlus z v, Low x := by
      rw [vPlus_q hz hv]
      exact low_fq _
    rw [fold_q l (vPlus z v) e fun u hu => h u (List.mem_cons_of_mem _ hu), vPlus_q hz hv, qf_map_fq]
    rfl
theorem zw_neg (a b : List Rat) : List.zipWith (· + ·) (a.map (-·)) (b.map (-·)) = (List.zipWith (· + ·) a b).map (-·) := by
  rw [List.zipWith_map, List.map_zipWith]
  congr 1
  funext x y
  show -x + -y = -(x + y)
  rw [Rat.neg_add]
theorem fold_neg : ∀ (l : List (List Rat)) (z : List Rat), (l.map (·.map (-·))).foldl (List.zipWith (· + ·)) (z.map (-·)) = (l.foldl (List.zipWith (· + ·)) z).map (-·)
  | [], z => rfl
  | v :: l, z => by
    show (l.map (·.map (-·))).foldl (List.zipWith (· + ·)) (List.zipWith (· + ·) (z.map (-·)) (v.map (-·))) = _
    rw [zw_neg]
    exact fold_neg l _
theorem zw_swap (z a b : List Rat) : List.zipWith (· + ·) (List.zipWith (· + ·) z a) b = List.zipWith (· + ·) (List.zipWith (· + ·) z b) a := by
  refine List.ext_getElem? fun i => ?_
  simp only [List.getElem?_zipWith]
  cases z[i]? <;> cases a[i]? <;> cases b[i]? <;> simp
  rename_i x y w
  rw [Rat.add_assoc, Rat.add_comm y w, ← Rat.add_assoc]
theorem fold_perm {l l' : List (List Rat)} (p : l.Perm l') (z : List Rat) : l.foldl (List.zipWith (· + ·)) z = l'.foldl (List.zipWith (· + ·)) z :=
  p.foldl_eq' (fun x _ y _ z => zw_swap z x y) z
theorem vZero_low (n : Int) : ∀ x ∈ vZero n, Low x := fun x hx => (vZero_tw n x hx).low
theorem vZero_neg (n : Int) : ((vZero n).map qf).map (-·) = (vZero n).map qf := by
  unfold vZero
  rw [List.map_replicate, List.map_replicate]
  congr 1
theorem steps_vec (s : Sv) (w : List Fr) : (w.map fun p => if decide (p.2 = 1) = true then vec (gAt s p.1).v else vec (vNeg (gAt s p.1).v)) = (w.map (stepV s)).map vec := by
  rw [List.map_map]
  refine List.map_congr_left fun p _ => ?_
  show _ = vec (stepV s p)
  unfold stepV
  by_cases h : p.2 = 1
  · rw [if_pos h, if_pos (decide_eq_true h)]
  · rw [if_neg h, if_neg (by rw [decide_eq_false h]; exact Bool.false_ne_true)]
theorem step_vec (s : Sv) (p : Fr) : (if decide (p.2 = 1) = true then vec (gAt s p.1).v else vec (vNeg (gAt s p.1).v)) = vec (stepV s p) := by
  unfold stepV
  by_cases h : p.2 = 1
  · rw [if_pos h, if_pos (decide_eq_true h)]
  · rw [if_neg h, if_neg (by rw [decide_eq_false h]; exact Bool.false_ne_true)]
theorem about_map (w : List Fr) : (aboutF w).map fr = w.reverse.map fun p => fr (p.1, 0 - p.2) := by
  unfold aboutF
  rw [List.map_map]
  rfl
theorem sum_fold (s : Sv) (w : List Fr) : w.foldl (fun f p => vPlus f (stepV s p)) (vZero s.dims) = sumF s w := by
  unfold sumF
  rw [List.foldl_map]
structure SvTw (s : Sv) : Prop where
  ok : SvOk s
  tw : ∀ g ∈ s.legs, ∀ x ∈ g.v, Tw 36 x
theorem stepV_tw {s : Sv} (S : SvTw s) {p : Fr} (h : okStep (lenS s) p = true) : (stepV s p).length = s.dims.toNat ∧ ∀ x ∈ stepV s p, Tw 36 x := by
  have m := gAt_mem h
  have l := (S.ok.legs _ m).lv
  have t := S.tw _ m
  unfold stepV
  split
  · exact ⟨l, t⟩
  · exact ⟨by rw [vNeg_len]; exact l, vNeg_tw t⟩
theorem sumF_tw {s : Sv} (S : SvTw s) {w : List Fr} (h : ∀ p ∈ w, okStep (lenS s) p = true) : (sumF s w).length = s.dims.toNat ∧ ∀ x ∈ sumF s w, Tw (36 * w.length) x := by
  obtain ⟨a, b⟩ := vSum_tw (w.map (stepV s)) (vZero s.dims) 0 (List.length_replicate ..) (vZero_tw _) fun v hv => by
    obtain ⟨p, hp, rfl⟩ := List.mem_map.mp hv
    exact stepV_tw S (h p hp)
  refine ⟨a, fun x hx => ?_⟩
  have := b x hx
  rw [List.length_map] at this
  have e : (0 : Int) + 36 * (w.length : Int) = 36 * (w.length : Int) := by omega
  rw [e] at this
  exact this
theorem sumF_few {s : Sv} (S : SvTw s) {w : List Fr} (h : WalkOk s w) : Few (sumF s w) := by
  obtain ⟨a, b⟩ := sumF_tw S h.ok
  have d3 := S.ok.d3
  have l := h.len
  exact few_tw (by omega) b (by omega) (by omega)
theorem vNeg_vNeg (a : List Fr) : vNeg (vNeg a) = a := by
  unfold vNeg
  rw [List.map_map]
  conv => rhs; rw [← List.map_id a]
  refine List.map_congr_left fun p _ => ?_
  show ((0 - (0 - p.1), p.2) : Fr) = p
  have : (0 : Int) - (0 - p.1) = p.1 := by omega
  rw [this]
theorem stepV_about (s : Sv) {p : Fr} (h : p.2 = 1 ∨ p.2 = -1) : stepV s (p.1, 0 - p.2) = vNeg (stepV s p) := by
  show (if (0 - p.2) = 1 then (gAt s p.1).v else vNeg (gAt s p.1).v) = vNeg (if p.2 = 1 then (gAt s p.1).v else vNeg (gAt s p.1).v)
  rcases h with h | h
  · rw [if_neg (by omega), if_pos h]
  · rw [if_pos (by omega), if_neg (by omega), vNeg_vNeg]
theorem sum_about {s : Sv} (S : SvTw s) {w : List Fr} (h : ∀ p ∈ w, okStep (lenS s) p = true) : sumF s (aboutF w) = vNeg (sumF s w) := by
  have lowS : ∀ v ∈ w.map (stepV s), ∀ x ∈ v, Low x := fun v hv x hx => by
    obtain ⟨p, hp, rfl⟩ := List.mem_map.mp hv
    exact ((stepV_tw S (h p hp)).2 x hx).low
  have e1 : (aboutF w).map (stepV s) = (w.map (stepV s)).reverse.map vNeg := by
    unfold aboutF
    rw [List.map_map, ← List.map_reverse, List.map_map]
    exact List.map_congr_left fun p hp => stepV_about s (step_in (h p (List.mem_reverse.mp hp))).2.2
  have lowN : ∀ v ∈ (w.map (stepV s)).reverse.map vNeg, ∀ x ∈ v, Low x := fun v hv x hx => by
    obtain ⟨u, hu, rfl⟩ := List.mem_map.mp hv
    have q := lowS u (List.mem_reverse.mp hu)
    rw [vNeg_q q] at hx
    exact low_fq _ x hx
  have e2 : ((w.map (stepV s)).reverse.map vNeg).map (·.map qf) = (((w.map (stepV s)).map (·.map qf)).reverse).map (·.map (-·)) := by
    rw [← List.map_reverse (f := fun x : List Fr => x.map qf), List.map_map (l := (w.map (stepV s)).reverse) (g := fun x : List Fr => x.map qf), List.map_map (l := (w.map (stepV s)).reverse)]
    refine List.map_congr_left fun u hu => ?_
    have q := lowS u (List.mem_reverse.mp hu)
    show (vNeg u).map qf = (u.map qf).map (-·)
    rw [vNeg_q q, qf_map_fq]
  unfold sumF
  rw [e1, fold_q _ _ (vZero_low _) lowN, e2, fold_q _ _ (vZero_low _) lowS, vNeg_q (low_fq _), qf_map_fq]
  congr 1
  rw [← vZero_neg, fold_neg, vZero_neg]
  congr 1
  exact fold_perm (List.reverse_perm _) _
/-! ### a walk turned about is one -/
def chainB (s : Sv) : List Fr → Bool
  | [] => true
  | [_] => true
  | x :: y :: r => decide ((endsF s x).2 = (endsF s y).1) && chainB s (y :: r)
theorem joins_chain (s : Sv) : ∀ w : List Fr, joinsB s w = chainB s w
  | [] => rfl
  | [_] => rfl
  | x :: y :: r => by
    have ih := joins_chain s (y :: r)
    show (decide ((endsF s x).2 = (endsF s y).1) && (((y :: r).zip r).map _).all id) = _
    exact congrArg (decide ((endsF s x).2 = (endsF s y).1) && ·) ih
theorem chain_snoc (s : Sv) : ∀ (w : List Fr) (y z : Fr), chainB s (w ++ [y, z]) = (chainB s (w ++ [y]) && decide ((endsF s y).2 = (endsF s z).1))
  | [], y, z => by simp [chainB]
  | [x], y, z => by simp [chainB, Bool.and_assoc]
  | x :: u :: r, y, z => by
    have ih := chain_snoc s (u :: r) y z
    show (decide _ && chainB s ((u :: r) ++ [y, z])) = ((decide _ && chainB s ((u :: r) ++ [y])) && _)
    rw [ih, Bool.and_assoc]
theorem ends_about (s : Sv) {p : Fr} (h : p.2 = 1 ∨ p.2 = -1) : endsF s (p.1, 0 - p.2) = ((endsF s p).2, (endsF s p).1) := by
  show (if (0 - p.2) = 1 then ((gAt s p.1).a, (gAt s p.1).b) else ((gAt s p.1).b, (gAt s p.1).a)) = ((if p.2 = 1 then ((gAt s p.1).a, (gAt s p.1).b) else ((gAt s p.1).b, (gAt s p.1).a)).2, (if p.2 = 1 then ((gAt s p.1).a, (gAt s p.1).b) else ((gAt s p.1).b, (gAt s p.1).a)).1)
  rcases h with h | h
  · rw [if_neg (by omega), if_pos h]
  · rw [if_pos (by omega), if_neg (by omega)]
theorem chain_about (s : Sv) : ∀ w : List Fr, (∀ p ∈ w, p.2 = 1 ∨ p.2 = -1) → chainB s (aboutF w) = chainB s w
  | [], _ => rfl
  | [_], _ => rfl
  | x :: y :: r, h => by
    have ih := chain_about s (y :: r) fun p hp => h p (List.mem_cons_of_mem _ hp)
    have hx := h x List.mem_cons_self
    have hy := h y (List.mem_cons_of_mem _ List.mem_cons_self)
    have e : aboutF (x :: y :: r) = (r.reverse.map fun p => (p.1, 0 - p.2)) ++ [(y.1, 0 - y.2), (x.1, 0 - x.2)] := by
      unfold aboutF
      rw [List.reverse_cons, List.reverse_cons, List.append_assoc, List.map_append]
      rfl
    have e2 : aboutF (y :: r) = (r.reverse.map fun p => (p.1, 0 - p.2)) ++ [(y.1, 0 - y.2)] := by
      unfold aboutF
      rw [List.reverse_cons, List.map_append]
      rfl
    rw [e, chain_snoc, ← e2, ih, ends_about s hx, ends_about s hy]
    show (chainB s (y :: r) && decide ((endsF s y).1 = (endsF s x).2)) = (decide ((endsF s x).2 = (endsF s y).1) && chainB s (y :: r))
    rw [Bool.and_comm]
    congr 1
    exact decide_eq_decide.mpr ⟨Eq.symm, Eq.symm⟩
theorem about_ok {s : Sv} {w : List Fr} (h : WalkOk s w) (hj : joinsB s w = true) : WalkOk s (aboutF w) ∧ joinsB s (aboutF w) = true := by
  have hs : ∀ p ∈ w, p.2 = 1 ∨ p.2 = -1 := fun p hp => (step_in (h.ok p hp)).2.2
  refine ⟨⟨by unfold aboutF; rw [List.length_map, List.length_reverse]; exact h.len, fun p hp => ?_⟩, ?_⟩
  · obtain ⟨q, hq, rfl⟩ := List.mem_map.mp hp
    have hq := List.mem_reverse.mp hq
    obtain ⟨a, b, c⟩ := step_in (h.ok q hq)
    refine decide_eq_true ⟨a, b, ?_⟩
    rcases c with c | c
    · exact .inr (by show 0 - q.2 = -1; omega)
    · exact .inl (by show 0 - q.2 = 1; omega)
  · rw [joins_chain, chain_about s w hs, ← joins_chain]
    exact hj
end Cl

set_option maxRecDepth 100000
namespace Cl
open PySem PySem.Spec PyProof.Rows L2
/-! ### walks as the laws draw them (c: the law's own draw) -/
theorem atI_snoc (l : List PyData) (d : PyData) : atI (l ++ [d]) (-1) = some d := by
  unfold atI
  have e : ixN (l ++ [d]).length (-1) = some l.length := by
    rw [List.length_append, List.length_singleton]
    unfold ixN
    rw [if_neg (by decide), if_pos (by omega)]
    congr 1
    omega
  rw [e]
  show (l ++ [d])[l.length]? = _
  rw [List.getElem?_append_right (Nat.le_refl _), Nat.sub_self]
  rfl
def someL (s : Sv) (here : Int) : List Int := (((List.range (s.legs.map encLeg).length).zip s.legs).filter fun q => decide (here ∈ [q.2.a, q.2.b])).map fun q => 0 + (q.1 : Int)
theorem someL_map (s : Sv) (here : Int) : (someL s here).map PyData.int = (((List.range (s.legs.map encLeg).length).zip s.legs).filter fun q => decide (here ∈ [q.2.a, q.2.b])).map fun q => PyData.int (0 + (q.1 : Int)) := by
  unfold someL
  rw [List.map_map]
  rfl
theorem someL_in {s : Sv} {here i : Int} (h : i ∈ someL s here) : 0 ≤ i ∧ i ≤ lenS s - 1 := by
  obtain ⟨q, hq, rfl⟩ := List.mem_map.mp h
  have m := (List.mem_filter.mp hq).1
  obtain ⟨u, v⟩ := q
  have := List.mem_range.mp (List.of_mem_zip m).1
  show 0 ≤ 0 + (u : Int) ∧ 0 + (u : Int) ≤ ((s.legs.map encLeg).length : Int) - 1
  omega
theorem someL_len (s : Sv) (here : Int) : (someL s here).length ≤ s.legs.length := by
  unfold someL
  rw [List.length_map]
  refine Nat.le_trans (List.length_filter_le _ _) ?_
  rw [List.length_zip]
  omega
theorem enum_legs (s : Sv) : pairD (rangeD 0 (s.legs.map encLeg).length) (s.legs.map encLeg) = ((List.range (s.legs.map encLeg).length).zip s.legs).map fun q : Nat × Leg => .tuple [.int (0 + (q.1 : Int)), encLeg q.2] := by
  unfold rangeD
  exact pairD_map _ _ _ _
section
variable (c : DC)
def walkD (s : Sv) (b : Pot × List Fr × Int) : Pot × Int := draw c b.1 (((someL s b.2.2).map PyData.int).length : Int)
def walkA (s : Sv) (b : Pot × List Fr × Int) : Int := (someL s b.2.2).getD (walkD c s b).2.toNat 0
def walkP (s : Sv) (b : Pot × List Fr × Int) : Fr := (walkA c s b, if decide ((gAt s (walkA c s b)).a = b.2.2) = true then 1 else -1)
def walkG (s : Sv) (b : Pot × List Fr × Int) (_ : Nat) : Pot × List Fr × Int :=
  if (someL s b.2.2).isEmpty = true then b else ((walkD c s b).1, b.2.1 ++ [walkP c s b], (endsF s (walkP c s b)).2)
def walkE (p : Pot) (s : Sv) (many : Int) : Pot × List Fr × Int := (List.range many.toNat).foldl (walkG c s) ((draw c p s.n).1, [], (draw c p s.n).2)
end
section
variable {c : DC} {s : Sv} {b : Pot × List Fr × Int}
theorem walkG_T {x : Nat} (h : ¬ (someL s b.2.2).isEmpty = true) : walkG c s b x = ((walkD c s b).1, b.2.1 ++ [walkP c s b], (endsF s (walkP c s b)).2) := if_neg h
theorem walkG_F {x : Nat} (h : (someL s b.2.2).isEmpty = true) : walkG c s b x = b := if_pos h
theorem walkD_ok (hc : DCOk c) (hp : PotOk b.1) (h : ¬ (someL s b.2.2).isEmpty = true) : PotOk (walkD c s b).1 ∧ 0 ≤ (walkD c s b).2 ∧ (walkD c s b).2 < ((someL s b.2.2).length : Int) := by
  have l : 0 < (someL s b.2.2).length := by
    cases e : someL s b.2.2 with
    | nil => rw [e] at h; exact absurd rfl h
    | cons a r => simp
  have e : ((someL s b.2.2).map PyData.int).length = (someL s b.2.2).length := List.length_map ..
  have := draw_ok hc hp (n := (((someL s b.2.2).map PyData.int).length : Int)) (by rw [e]; omega)
  rw [e] at this
  unfold walkD
  rw [e]
  exact this
theorem walkA_in (hc : DCOk c) (hp : PotOk b.1) (h : ¬ (someL s b.2.2).isEmpty = true) : 0 ≤ walkA c s b ∧ walkA c s b ≤ lenS s - 1 := by
  obtain ⟨_, h1, h2⟩ := walkD_ok hc hp h
  exact someL_in (getD_mem 0 h1 h2)
theorem walkP_ok (hc : DCOk c) (hp : PotOk b.1) (h : ¬ (someL s b.2.2).isEmpty = true) : okStep (lenS s) (walkP c s b) = true := by
  obtain ⟨h1, h2⟩ := walkA_in hc hp h
  refine decide_eq_true ⟨h1, h2, ?_⟩
  by_cases e : decide ((gAt s (walkA c s b)).a = b.2.2) = true
  · exact .inl (if_pos e)
  · exact .inr (if_neg e)
structure DrawnOk (s : Sv) (k : Nat) (b : Pot × List Fr × Int) : Prop where
  pot : PotOk b.1
  len : b.2.1.length ≤ k
  ok : ∀ p ∈ b.2.1, okStep (lenS s) p = true
theorem walkG_ok (hc : DCOk c) {k x : Nat} (h : DrawnOk s k b) : DrawnOk s (k + 1) (walkG c s b x) := by
  by_cases e : (someL s b.2.2).isEmpty = true
  · rw [walkG_F e]
    exact ⟨h.pot, Nat.le_succ_of_le h.len, h.ok⟩
  · rw [walkG_T e]
    refine ⟨(walkD_ok hc h.pot e).1, ?_, fun p hp => ?_⟩
    · show (b.2.1 ++ [walkP c s b]).length ≤ k + 1
      rw [List.length_append, List.length_singleton]
      have := h.len
      omega
    · rcases List.mem_append.mp hp with hp | hp
      · exact h.ok p hp
      · rw [List.mem_singleton.mp hp]
        exact walkP_ok hc h.pot e
theorem walkF_ok (hc : DCOk c) : ∀ (l : List Nat) {k : Nat} {b : Pot × List Fr × Int}, DrawnOk s k b → DrawnOk s (k + l.length) (l.foldl (walkG c s) b)
  | [], _, _, h => h
  | x :: r, k, b, h => by
    have := walkF_ok hc r (walkG_ok hc (x := x) h)
    rw [List.length_cons]
    have e : k + (r.length + 1) = k + 1 + r.length := by omega
    rw [e]
    exact this
theorem walkE_ok (hc : DCOk c) {p : Pot} (hp : PotOk p) (hn : 0 < s.n) (many : Int) : DrawnOk s many.toNat (walkE c p s many) := by
  obtain ⟨a1, a2, a3⟩ := draw_ok hc hp hn
  have := walkF_ok (s := s) hc (List.range many.toNat) (k := 0) (b := ((draw c p s.n).1, [], (draw c p s.n).2)) ⟨a1, Nat.le_refl _, fun _ h => nomatch h⟩
  rw [List.length_range, Nat.zero_add] at this
  exact this
end
/-! ### a walk cut -/
def cutI (s : Sv) (w : List Fr) (e there : Int) (i : Nat) : Option PyData := if (endsF s (w.getD (0 + (i : Int)).toNat (0, 0))).1 = there then some (.list (cutD (w.map fr) (some (0 + (i : Int))) (some e))) else none
def cutJ (s : Sv) (w : List Fr) (j : Nat) : Option PyData := (List.range (1 + (j : Int)).toNat).findSome? (cutI s w (1 + (j : Int)) (endsF s (w.getD ((1 + (j : Int)) - 1).toNat (0, 0))).2)
def cutO (s : Sv) (w : List Fr) : Option PyData := (List.range (((w.map fr).length : Int) + 1 - 1).toNat).findSome? (cutJ s w)
def cutW (s : Sv) (w : List Fr) : PyData := match cutO s w with
  | none => .list (w.map fr)
  | some d => d
theorem cutD_map {α : Type} (f : α → PyData) (w : List α) (m n : Option Int) : ∃ u : List α, cutD (w.map f) m n = u.map f ∧ u.length ≤ w.length ∧ ∀ p ∈ u, p ∈ w := by
  unfold cutD
  rw [List.length_map]
  refine ⟨(w.drop (HT.sIx w.length 0 m)).take (HT.sIx w.length w.length n - HT.sIx w.length 0 m), ?_, ?_, fun p hp => List.mem_of_mem_drop (List.mem_of_mem_take hp)⟩
  · rw [List.map_take, List.map_drop]
  · rw [List.length_take, List.length_drop]
    omega
theorem findSome_mem {α β : Type} {f : α → Option β} {d : β} : ∀ {l : List α}, l.findSome? f = some d → ∃ x ∈ l, f x = some d
  | [], h => nomatch h
  | x :: r, h => by
    rw [List.findSome?_cons] at h
    cases e : f x with
    | none =>
      rw [e] at h
      obtain ⟨y, hy, q⟩ := findSome_mem h
      exact ⟨y, List.mem_cons_of_mem _ hy, q⟩
    | some z =>
      rw [e] at h
      cases h
      exact ⟨x, List.mem_cons_self, e⟩
theorem cutW_ok (s : Sv) (w : List Fr) : ∃ u : List Fr, cutW s w = .list (u.map fr) ∧ u.length ≤ w.length ∧ ∀ p ∈ u, p ∈ w := by
  unfold cutW
  cases h : cutO s w with
  | none => exact ⟨w, rfl, Nat.le_refl _, fun _ h => h⟩
  | some d =>
    obtain ⟨j, _, hj⟩ := findSome_mem h
    obtain ⟨i, _, hi⟩ := findSome_mem hj
    unfold cutI at hi
    split at hi
    · cases hi
      obtain ⟨u, e, h1, h2⟩ := cutD_map fr w (some (0 + (i : Int))) (some (1 + (j : Int)))
      refine ⟨u, ?_, h1, h2⟩
      show PyData.list _ = _
      rw [e]
    · cases hi
section
variable {X : Cx} {ρ : Rho} {tg : Expr} {vs : List Nat} {body : List Stmt}
/-- a loop that may return -/
theorem forD_find {α : Type} (fs : List Nat) (enc : α → PyData) (f : α → Option PyData) (bs : List (Addr × Mu)) (l : List α)
    (step : ∀ x ∈ l, ∃ ρ1 ρ2, GD X vs ρ tg (enc x) ρ1 ∧ SDs X ρ1 body (match f x with | none => .nx ρ2 | some d => .rt (.dat d) bs) ∧ forgetR ρ2 fs = ρ) :
    ForD X tg vs body (match l.findSome? f with | none => .nx ρ | some d => .rt (.dat d) bs) (l.map enc) ρ := by
  induction l with
  | nil => exact .nil rfl
  | cons x r ih =>
    obtain ⟨ρ1, ρ2, h1, h2, h3⟩ := step x List.mem_cons_self
    rw [List.findSome?_cons]
    cases e : f x with
    | none =>
      rw [e] at h2
      exact .next h1 (by rw [← h3]; exact ss_forget fs h2) (ih fun y hy => step y (List.mem_cons_of_mem _ hy))
    | some d =>
      rw [e] at h2
      exact .ret h1 h2 rfl
theorem find_nx {ds : List PyData} {ρ' : Rho} {x : Option PyData} {bs : List (Addr × Mu)} (h : ForD X tg vs body (match x with | none => .nx ρ' | some d => .rt (.dat d) bs) ds ρ) (e : x = none) : ForD X tg vs body (.nx ρ') ds ρ := by
  rw [e] at h
  exact h
theorem find_rt {ds : List PyData} {ρ' : Rho} {x : Option PyData} {bs : List (Addr × Mu)} {d : PyData} (h : ForD X tg vs body (match x with | none => .nx ρ' | some d => .rt (.dat d) bs) ds ρ) (e : x = some d) : ForD X tg vs body (.rt (.dat d) bs) ds ρ := by
  rw [e] at h
  exact h
end
/-! ### values, bent -/
/-- what may be shown -/
structure OkW (x : PyData) : Prop where
  ok : okE 6 x
  nod : nod x ≤ 2000
theorem step_bits {s : Sv} {p : Fr} (S : SvOk s) (h : okStep (lenS s) p = true) : Bits 64 p.1 ∧ Bits 64 p.2 := by
  obtain ⟨h1, h2, h3⟩ := step_in h
  have := S.l60
  rw [lenS_eq] at h2
  exact ⟨bits64 (by omega), bits64 (by omega)⟩
theorem fr_okE {n : Nat} {p : Fr} (h : Bits 64 p.1 ∧ Bits 64 p.2) : okE (n + 1) (fr p) := oket (okec (okei (bits_up h.1 (by decide))) (okec (okei (bits_up h.2 (by decide))) okeNil))
theorem walk_okW {s : Sv} {w : List Fr} (S : SvOk s) (h : ∀ p ∈ w, okStep (lenS s) p = true) (hl : w.length ≤ 640) : OkW (.list (w.map fr)) ∧ OkW (.tuple (w.map fr)) := by
  have n := nod_map (f := fr) (k := 3) (fun p => Nat.le_of_eq (nod_fr p)) w
  have a : ∀ y ∈ w.map fr, okE 5 y := okem fun p hp => fr_okE (step_bits S (h p hp))
  exact ⟨⟨okel a, by show 1 + nodA (w.map fr) ≤ 2000; omega⟩, ⟨oket a, by show 1 + nodA (w.map fr) ≤ 2000; omega⟩⟩
/-- lists of what is small -/
structure SmE (x : PyData) : Prop where
  ok : okE 3 x
  nod : nod x ≤ 20
theorem nodA_leE {k : Nat} : ∀ {l : List PyData}, (∀ y ∈ l, nod y ≤ k) → nodA l ≤ k * l.length
  | [], _ => by simp [nodA]
  | x :: r, h => by
    have := nodA_leE fun y hy => h y (List.mem_cons_of_mem _ hy)
    have h1 := h x List.mem_cons_self
    rw [List.length_cons, Nat.mul_add, Nat.mul_one]
    show nod x + nodA r ≤ _
    omega
theorem list_okW {l : List PyData} (h : ∀ y ∈ l, SmE y) (hl : l.length ≤ 90) : OkW (.list l) ∧ OkW (.tuple l) := by
  have n := nodA_leE (k := 20) fun y hy => (h y hy).nod
  have a : ∀ y ∈ l, okE 5 y := fun y hy => okE_up (h y hy).ok (by decide)
  exact ⟨⟨okel a, by show 1 + nodA l ≤ 2000; omega⟩, ⟨oket a, by show 1 + nodA l ≤ 2000; omega⟩⟩
theorem step_smE {s : Sv} {p : Fr} (S : SvOk s) (h : okStep (lenS s) p = true) : SmE (fr p) := ⟨fr_okE (step_bits S h), by rw [nod_fr]; decide⟩
theorem steps_smE {s : Sv} {w : List Fr} (S : SvOk s) (h : ∀ p ∈ w, okStep (lenS s) p = true) : ∀ y ∈ w.map fr, SmE y := fun y hy => by
  obtain ⟨p, hp, rfl⟩ := List.mem_map.mp hy
  exact step_smE S (h p hp)
def kindsW (w : List Fr) : List PyData := [.none, .tuple [], .list [], .dict [], .int 0, .str "w", .list [.none], .list [.tuple []], .tuple (w.map fr), .list (w.map fr ++ w.map fr), .list (w.map fr).reverse, .list [.tuple [.int 0, .int 1]], .list [.list [.int 0, .int 1]]]
def oddsW (m : Int) (p : Fr) (e : Int) : List PyData := [.tuple [.int p.1, .int (0 - p.2)], .tuple [.int p.1, .int 0], .tuple [.int p.1, .int (2 * p.2)], .tuple [.int p.1, .bool true], .tuple [.int p.1, .none], .tuple [.int m, .int p.2], .tuple [.int (-1), .int p.2], .tuple [.bool true, .int p.2],
  .list [.int p.1, .int p.2], .tuple [.int p.1], .tuple [.int p.1, .int p.2, .int 0], .tuple [.str (toString p.1), .int p.2], .none, .tuple [.int e, .int p.2]]
section
variable (c : DC)
def bnW (p : Pot) : Pot × Int := draw c p 9
def bnK (p : Pot) : Pot × Int := draw c (bnW c p).1 13
def bnA (p : Pot) (w : List Fr) : Pot × Int := draw c (bnW c p).1 ((w.map fr).length : Int)
def bnP (p : Pot) (w : List Fr) : Fr := w.getD (bnA c p w).2.toNat (0, 0)
def bnE (p : Pot) (s : Sv) (w : List Fr) : Pot × Int := draw c (bnA c p w).1 (lenS s)
def bnO (p : Pot) (s : Sv) (w : List Fr) : Pot × Int := draw c (bnE c p s w).1 14
def bentW (p : Pot) (s : Sv) (w : List Fr) : Pot × PyData :=
  if w = [] ∨ (bnW c p).2 = 0 then ((bnK c p).1, (kindsW w).getD (bnK c p).2.toNat .none)
  else if (bnW c p).2 = 1 then ((bnA c p w).1, .list (cutD (w.map fr) none (some (bnA c p w).2) ++ cutD (w.map fr) (some ((bnA c p w).2 + 1)) none))
  else if (bnW c p).2 = 2 then ((bnA c p w).1, .list (cutD (w.map fr) (some (bnA c p w).2) none ++ cutD (w.map fr) none (some (bnA c p w).2)))
  else ((bnO c p s w).1, .list (cutD (w.map fr) none (some (bnA c p w).2) ++ [(oddsW (lenS s) (bnP c p w) (bnE c p s w).2).getD (bnO c p s w).2.toNat .none] ++ cutD (w.map fr) (some ((bnA c p w).2 + 1)) none))
end
theorem intStr_len {i : Int} (h0 : 0 ≤ i) (h1 : i < 60) : (reprText (toString i)).length ≤ 1900 := by
  obtain ⟨k, rfl⟩ := Int.eq_ofNat_of_zero_le h0
  have all : ∀ k : Nat, k < 60 → (reprText (toString (k : Int))).length ≤ 1900 := by decide +kernel
  exact all k (by omega)
theorem odds_smE {m e : Int} {p : Fr} (hm : Bits 64 m) (he : Bits 64 e) (h : Bits 64 p.1 ∧ Bits 64 p.2) (h2 : p.2.natAbs ≤ 1000) (h0 : 0 ≤ p.1) (h1 : p.1 < 60) : ∀ y ∈ oddsW m p e, SmE y := by
  have i1 : ∀ n, okE n (.int p.1) := fun n => okei (bits_up h.1 (by decide))
  have i2 : ∀ n, okE n (.int p.2) := fun n => okei (bits_up h.2 (by decide))
  have two : ∀ x y : PyData, okE 2 x → okE 2 y → nod x ≤ 5 → nod y ≤ 5 → SmE (.tuple [x, y]) := fun x y a b n1 n2 => ⟨oket (okec a (okec b okeNil)), by show 1 + (nod x + (nod y + 0)) ≤ 20; omega⟩
  have small : ∀ j : Int, j.natAbs ≤ 100000 → okE 2 (.int j) := fun j hj => okei (bitsS (by omega))
  have nI : ∀ j : Int, nod (.int j) ≤ 5 := fun j => by simp [nod]
  intro y hy
  simp only [oddsW, List.mem_cons, List.not_mem_nil, or_false] at hy
  rcases hy with rfl | rfl | rfl | rfl | rfl | rfl | rfl | rfl | rfl | rfl | rfl | rfl | rfl | rfl
  · exact two _ _ (i1 2) (small _ (by omega)) (nI _) (nI _)
  · exact two _ _ (i1 2) (small _ (by decide)) (nI _) (nI _)
  · exact two _ _ (i1 2) (small _ (by omega)) (nI _) (nI _)
  · exact two _ _ (i1 2) okeb (nI _) (by simp [nod])
  · exact two _ _ (i1 2) oken (nI _) (by simp [nod])
  · exact two _ _ (okei (bits_up hm (by decide))) (i2 2) (nI _) (nI _)
  · exact two _ _ (small _ (by decide)) (i2 2) (nI _) (nI _)
  · exact two _ _ okeb (i2 2) (by simp [nod]) (nI _)
  · exact ⟨okel (okec (i1 2) (okec (i2 2) okeNil)), by simp [nod, nodA]⟩
  · exact ⟨oket (okec (i1 2) okeNil), by simp [nod, nodA]⟩
  · exact ⟨oket (okec (i1 2) (okec (i2 2) (okec (small _ (by decide)) okeNil))), by simp [nod, nodA]⟩
  · exact two _ _ (intStr_len h0 h1) (i2 2) (by simp [nod]) (nI _)
  · exact ⟨oken, by simp [nod]⟩
  · exact two _ _ (okei (bits_up he (by decide))) (i2 2) (nI _) (nI _)
theorem kindsW_ok {s : Sv} {w : List Fr} (S : SvOk s) (h : ∀ p ∈ w, okStep (lenS s) p = true) (hl : w.length ≤ 40) : ∀ y ∈ kindsW w, OkW y := by
  have sm := steps_smE S h
  have n := nod_map (f := fr) (k := 3) (fun p => Nat.le_of_eq (nod_fr p)) w
  have l0 : (w.map fr).length ≤ 40 := by rw [List.length_map]; exact hl
  have i0 : ∀ n, okE n (.int 0) := fun n => okei (bitsS (by decide))
  have i1 : ∀ n, okE n (.int 1) := fun n => okei (bitsS (by decide))
  intro y hy
  simp only [kindsW, List.mem_cons, List.not_mem_nil, or_false] at hy
  rcases hy with rfl | rfl | rfl | rfl | rfl | rfl | rfl | rfl | rfl | rfl | rfl | rfl | rfl
  · exact ⟨oken, by simp [nod]⟩
  · exact ⟨oket okeNil, by simp [nod, nodA]⟩
  · exact ⟨okel okeNil, by simp [nod, nodA]⟩
  · exact ⟨rfl, by simp [nod]⟩
  · exact ⟨i0 _, by simp [nod]⟩
  · exact ⟨by show (reprText "w").length ≤ 1900; decide +kernel, by simp [nod]⟩
  · exact ⟨okel (okec oken okeNil), by simp [nod, nodA]⟩
  · exact ⟨okel (okec (oket okeNil) okeNil), by simp [nod, nodA]⟩
  · exact (list_okW sm (by omega)).2
  · exact (list_okW (fun y hy => (List.mem_append.mp hy).elim (sm y) (sm y)) (by rw [List.length_append]; omega)).1
  · exact (list_okW (fun y hy => sm y (List.mem_reverse.mp hy)) (by rw [List.length_reverse]; omega)).1
  · exact ⟨okel (okec (oket (okec (i0 _) (okec (i1 _) okeNil))) okeNil), by simp [nod, nodA]⟩
  · exact ⟨okel (okec (okel (okec (i0 _) (okec (i1 _) okeNil))) okeNil), by simp [nod, nodA]⟩
theorem getD_memP {xs : List PyData} {i : Int} (h0 : 0 ≤ i) (h1 : i < xs.length) : xs.getD i.toNat .none ∈ xs := getD_mem .none h0 h1
/-- what bending asks -/
structure BentOk (c : DC) (p : Pot) (s : Sv) (w : List Fr) : Prop where
  pw : PotOk (bnW c p).1
  pk : PotOk (bnK c p).1
  k0 : 0 ≤ (bnK c p).2
  k1 : (bnK c p).2 < 13
  a : w ≠ [] → PotOk (bnA c p w).1 ∧ 0 ≤ (bnA c p w).2 ∧ (bnA c p w).2 < ((w.map fr).length : Int) ∧ okStep (lenS s) (bnP c p w) = true ∧ 0 < lenS s ∧ PotOk (bnE c p s w).1 ∧ PotOk (bnO c p s w).1 ∧ 0 ≤ (bnO c p s w).2 ∧ (bnO c p s w).2 < 14
  e : PotOk (bentW c p s w).1
  ok : OkW (bentW c p s w).2
theorem bentW_ok {c : DC} {p : Pot} {s : Sv} {w : List Fr} (hc : DCOk c) (hp : PotOk p) (S : SvOk s) (h : ∀ p ∈ w, okStep (lenS s) p = true) (hl : w.length ≤ 40) : BentOk c p s w := by
  obtain ⟨w1, w2, w3⟩ := draw_ok hc hp (n := 9) (by decide)
  obtain ⟨k1, k2, k3⟩ := draw_ok hc (p := (bnW c p).1) w1 (n := 13) (by decide)
  have ha : w ≠ [] → PotOk (bnA c p w).1 ∧ 0 ≤ (bnA c p w).2 ∧ (bnA c p w).2 < ((w.map fr).length : Int) ∧ okStep (lenS s) (bnP c p w) = true ∧ 0 < lenS s ∧ PotOk (bnE c p s w).1 ∧ PotOk (bnO c p s w).1 ∧ 0 ≤ (bnO c p s w).2 ∧ (bnO c p s w).2 < 14 := fun hw => by
    have l0 : 0 < (w.map fr).length := by
      rw [List.length_map]
      exact List.length_pos_iff.mpr hw
    obtain ⟨a1, a2, a3⟩ := draw_ok hc (p := (bnW c p).1) w1 (n := ((w.map fr).length : Int)) (by omega)
    have a4 : (draw c (bnW c p).1 ((w.map fr).length : Int)).2 < (w.length : Int) := by
      have e : (w.map fr).length = w.length := List.length_map ..
      rw [e] at a3 ⊢
      exact a3
    have hs : okStep (lenS s) (bnP c p w) = true := h _ (getD_mem (0, 0) a2 a4)
    have m0 : 0 < lenS s := by
      obtain ⟨x, y, _⟩ := step_in hs
      omega
    obtain ⟨e1, e2, e3⟩ := draw_ok hc (p := (bnA c p w).1) a1 (n := lenS s) m0
    obtain ⟨o1, o2, o3⟩ := draw_ok hc (p := (bnE c p s w).1) e1 (n := 14) (by decide)
    exact ⟨a1, a2, a3, hs, m0, e1, o1, o2, o3⟩
  have sm := steps_smE S h
  have l0 : (w.map fr).length ≤ 40 := by rw [List.length_map]; exact hl
  have cutM : ∀ m n, ∀ y ∈ cutD (w.map fr) m n, SmE y := fun m n y hy => sm y (cutD_mem hy)
  have cutL : ∀ m n, (cutD (w.map fr) m n).length ≤ 40 := fun m n => Nat.le_trans cutD_len l0
  have fin : PotOk (bentW c p s w).1 ∧ OkW (bentW c p s w).2 := by
    unfold bentW
    split
    · exact ⟨k1, kindsW_ok S h hl _ (getD_memP k2 k3)⟩
    · rename_i hz
      have hw : w ≠ [] := fun e => hz (.inl e)
      obtain ⟨a1, a2, a3, hs, m0, e1, o1, o2, o3⟩ := ha hw
      split
      · refine ⟨a1, (list_okW (fun y hy => (List.mem_append.mp hy).elim (cutM _ _ y) (cutM _ _ y)) ?_).1⟩
        have := cutL none (some (bnA c p w).2)
        have := cutL (some ((bnA c p w).2 + 1)) none
        rw [List.length_append]
        omega
      · split
        · refine ⟨a1, (list_okW (fun y hy => (List.mem_append.mp hy).elim (cutM _ _ y) (cutM _ _ y)) ?_).1⟩
          have := cutL none (some (bnA c p w).2)
          have := cutL (some (bnA c p w).2) none
          rw [List.length_append]
          omega
        · have lb : Bits 64 (lenS s) := by
            rw [lenS_eq]
            have := S.l60
            exact bits64 (by omega)
          obtain ⟨q1, q2, q3⟩ := draw_ok hc (p := (bnA c p w).1) a1 (n := lenS s) m0
          have eb : Bits 64 (bnE c p s w).2 := by
            have := S.l60
            have e := lenS_eq s
            exact bits64 (by show _ < (draw c (bnA c p w).1 (lenS s)).2 ∧ (draw c (bnA c p w).1 (lenS s)).2 < _; omega)
          have od := odds_smE lb eb (step_bits S hs) (by have := (step_in hs).2.2; omega) (step_in hs).1 (by have := (step_in hs).2.1; have := S.l60; have := lenS_eq s; omega) _ (getD_memP (xs := oddsW (lenS s) (bnP c p w) (bnE c p s w).2) o2 o3)
          refine ⟨o1, (list_okW (fun y hy => ?_) ?_).1⟩
          · rcases List.mem_append.mp hy with hy | hy
            · rcases List.mem_append.mp hy with hy | hy
              · exact cutM _ _ y hy
              · rw [List.mem_singleton.mp hy]
                exact od
            · exact cutM _ _ y hy
          · have := cutL none (some (bnA c p w).2)
            have := cutL (some ((bnA c p w).2 + 1)) none
            rw [List.length_append, List.length_append, List.length_singleton]
            omega
  exact ⟨w1, k1, k2, k3, ha, fin.1, fin.2⟩
/-! ### a survey is shown -/
theorem short_ok {n : Nat} {p : Fr} (h : Short p) : okD (n + 1) (fr p) := by
  obtain ⟨l, a, b, d⟩ := h
  have := l.1
  exact fr_ok ⟨bitsS (by omega), bitsS (by omega)⟩
theorem svD {s : Sv} (S : SvOk s) : okD 6 (encS s) := by
  have iB : ∀ {n : Nat} {i : Int}, -(2 ^ 64) < i ∧ i < 2 ^ 64 → okD n (.int i) := fun h => by
    have := log2_small (bitsS h)
    rename_i n i
    cases n <;> exact this
  have d1 := S.d1
  have d3 := S.d3
  have n1 := S.n1
  have n24 := S.n24
  refine okt (okc ?_ (okc (iB (by omega)) (okc (iB (by omega)) (okc (okt (okm fun g hg => ?_)) okn))))
  · show (reprText "survey").length ≤ 1900
    decide +kernel
  · have G := S.legs g hg
    have a1 := G.p0
    have a2 := G.p5
    have a3 := G.a0
    have a4 := G.a1
    have a5 := G.b0
    have a6 := G.b1
    exact okt (okc (iB (by omega)) (okc (iB (by omega)) (okc (iB (by omega)) (okc (okt (okm fun p hp => short_ok (G.v p hp))) (okc (okt (okm fun p hp => short_ok (G.s p hp).1)) (okc (short_ok G.w.1) okn))))))
theorem svNod {s : Sv} (S : SvOk s) (h : s.legs.length ≤ 60) : nod (encS s) ≤ 10 + 30 * s.legs.length := by
  have one : ∀ g ∈ s.legs, nod (encLeg g) ≤ 30 := fun g hg => by
    have G := S.legs g hg
    have d3 := S.d3
    have a := nod_map (f := fr) (k := 3) (fun p => Nat.le_of_eq (nod_fr p)) g.v
    have b := nod_map (f := fr) (k := 3) (fun p => Nat.le_of_eq (nod_fr p)) g.sl
    have lv := G.lv
    have ls := G.ls
    show 1 + (1 + (1 + (1 + ((1 + nodA (g.v.map fr)) + ((1 + nodA (g.sl.map fr)) + (nod (fr g.w) + 0)))))) ≤ 30
    rw [nod_fr]
    omega
  have a := nodA_leE (k := 30) (l := s.legs.map encLeg) fun y hy => by
    obtain ⟨g, hg, rfl⟩ := List.mem_map.mp hy
    exact one g hg
  rw [List.length_map] at a
  show 1 + (1 + (1 + (1 + ((1 + nodA (s.legs.map encLeg)) + 0)))) ≤ _
  omega
theorem sv_shows {s : Sv} {x : PyData} (S : SvOk s) (hx : OkW x) : ShowyE (.list [encS s, x]) := by
  have n := svNod S S.l60
  have l := S.l60
  have m := hx.nod
  exact showyE (n := 7) (okel (okec (okE_of (svD S)) (okec hx.ok okeNil))) (by decide) (by show 1 + (nod (encS s) + (nod x + 0)) ≤ 8000; omega)
/-! ### one drawn leg, step by step -/
section
variable {c : DC} {p : Pot} {dims n wrong : Int} {places : List (List Fr)}
structure LegSt (c : DC) (places : List (List Fr)) (dims n : Int) (p : Pot) : Prop where
  a : PotOk (draw c p n).1
  a0 : 0 ≤ (draw c p n).2
  a1 : (draw c p n).2 < (places.length : Int)
  e : PotOk (draw c (draw c p n).1 (n - 1)).1
  e0 : 0 ≤ legE c n p
  e1 : legE c n p < (places.length : Int)
  q : PotOk (legQ c n p).1
  pe : Few (places.getD (legE c n p).toNat [])
  ps : Few (places.getD (draw c p n).2.toNat [])
  v0 : Few (legV0 c places n p)
  v : PotOk (vecC c (legQ c n p).1 dims).1
  vf : Few (vecC c (legQ c n p).1 dims).2
theorem leg_st (hc : DCOk c) (hp : PotOk p) (h2 : 2 ≤ n) (d3 : dims ≤ 3) (hl : places.length = n.toNat) (hv : ∀ v ∈ places, v.length = dims.toNat ∧ ∀ x ∈ v, Tw 12 x) : LegSt c places dims n p := by
  obtain ⟨a1, a2, a3⟩ := draw_ok hc hp (n := n) (by omega)
  obtain ⟨b1, b2, b3⟩ := draw_ok hc a1 (n := n - 1) (by omega)
  obtain ⟨q1, q2, q3⟩ := draw_ok hc b1 (n := 10) (by decide)
  have er := fmod_rng (a := (draw c p n).2 + 1 + (draw c (draw c p n).1 (n - 1)).2) (n := n) (by omega)
  have m1 := hv _ (getD_mem (xs := places) [] er.1 (by omega))
  have m2 := hv _ (getD_mem (xs := places) (i := (draw c p n).2) [] a2 (by omega))
  obtain ⟨v1, v2, v3⟩ := vecC_tw hc q1 dims
  have hv0 := vMinus_len m1.1 m2.1
  have ht0 := vMinus_tw m1.2 m2.2
  have le3 : ∀ {v : List Fr}, v.length = dims.toNat → v.length ≤ 3 := fun h => by omega
  exact ⟨a1, a2, by omega, b1, er.1, by show Int.fmod _ _ < _; omega, q1, few_tw (le3 m1.1) m1.2 (by decide) (by decide), few_tw (le3 m2.1) m2.2 (by decide) (by decide), few_tw (le3 hv0) ht0 (by decide) (by decide), v1, few_tw (le3 v2) v3 (by decide) (by decide)⟩
theorem legV_pos (h : (legQ c n p).2 < wrong) : legV c places dims n wrong p = ((vecC c (legQ c n p).1 dims).1, vPlus (legV0 c places n p) (vecC c (legQ c n p).1 dims).2) := if_pos h
theorem legV_neg (h : ¬ (legQ c n p).2 < wrong) : legV c places dims n wrong p = ((legQ c n p).1, legV0 c places n p) := if_neg h
theorem legF_pos {x : Nat} (h : decide ((draw c (draw c (draw c p n).1 (n - 1)).1 10).2 < wrong) = true) : legF c places dims n wrong p x =
    ((draw c (draw c (slackC c (vecC c (legQ c n p).1 dims).1 dims).1 6).1 5).1, ⟨(draw c (slackC c (vecC c (legQ c n p).1 dims).1 dims).1 6).2, (draw c p n).2, legE c n p, vPlus (legV0 c places n p) (vecC c (legQ c n p).1 dims).2, (slackC c (vecC c (legQ c n p).1 dims).1 dims).2, weights.getD (draw c (draw c (slackC c (vecC c (legQ c n p).1 dims).1 dims).1 6).1 5).2.toNat (1, 1)⟩) := by
  unfold legF legC legW legP legS
  rw [legV_pos (of_decide_eq_true h)]
theorem legF_neg {x : Nat} (h : decide ((draw c (draw c (draw c p n).1 (n - 1)).1 10).2 < wrong) = false) : legF c places dims n wrong p x =
    ((draw c (draw c (slackC c (legQ c n p).1 dims).1 6).1 5).1, ⟨(draw c (slackC c (legQ c n p).1 dims).1 6).2, (draw c p n).2, legE c n p, legV0 c places n p, (slackC c (legQ c n p).1 dims).2, weights.getD (draw c (draw c (slackC c (legQ c n p).1 dims).1 6).1 5).2.toNat (1, 1)⟩) := by
  unfold legF legC legW legP legS
  rw [legV_neg (of_decide_eq_false h)]
theorem gAt_ix {s : Sv} {i : Int} (h0 : 0 ≤ i) (h1 : i ≤ lenS s - 1) : atI (s.legs.map encLeg) i = some (encLeg (gAt s i)) := pick_map _ h0 (by rw [lenS_eq] at h1; omega)
theorem someT {l : List Int} (h : (!PyData.eqv (.list (l.map .int)) (.list [])) = true) : ¬ l.isEmpty = true := by
  rw [eqv_nilI] at h
  intro z
  rw [z] at h
  cases h
theorem someF {l : List Int} (h : (!PyData.eqv (.list (l.map .int)) (.list [])) = false) : l.isEmpty = true := by
  rw [eqv_nilI] at h
  simpa using h
end
section
variable {X : Cx} {sc : Scope} {ρ : Rho} {tg elt : Expr} {vs : List Nat} {ifs : List Expr}
theorem lc_about (w : List Fr)
    (step : ∀ x ∈ w.reverse, ∃ ρ1 ρ2 ρ3, (Bk X sc fun B => GD B vs ρ tg (fr x) ρ1) ∧ (Bk X sc fun B => TsD B ρ1 ifs ρ2 true) ∧ (Bk X sc fun B => ED B ρ2 elt ρ3 (fr (x.1, 0 - x.2))) ∧ forgetR ρ3 vs = ρ) :
    LcD X sc vs tg ifs elt (w.map fr).reverse ρ ((aboutF w).map fr) ρ := by
  rw [← List.map_reverse, about_map]
  exact lc_map fr (fun p => fr (p.1, 0 - p.2)) w.reverse step
end
/-- names are forgotten, the rest is written down anew -/
theorem ss_to {X : Cx} {ρ : Rho} (ρ' : Rho) (fs : List Nat) {sts : List Stmt} {o : Out} (e : forgetR ρ fs = ρ') (h : SDs X ρ' sts o) : SDs X ρ sts o := by
  subst e
  exact ss_drop fs h
end Cl

set_option maxRecDepth 100000
set_option maxHeartbeats 4000000
namespace K23
open PySem PySem.Spec PyProof.Rows L2 Cl
def topS (i : Nat) : Stmt := PySem.Challenge.pw_cavelegs_k23_any_value_as_walk_or_loop.main.body.getD i (.Pass ⟨0, 0, 0, 0⟩)
abbrev s_is_integer : Stmt := topS 2
theorem sc_is_integer : FnScope ["value"] ["value"] (defScope s_is_integer) := ⟨rfl, rfl, rfl, by decide +kernel, rfl, by decide +kernel, by decide +kernel⟩
abbrev s_is_within : Stmt := topS 3
theorem sc_is_within : FnScope ["value", "least", "most"] ["value", "least", "most"] (defScope s_is_within) := ⟨rfl, rfl, rfl, by decide +kernel, rfl, by decide +kernel, by decide +kernel⟩
abbrev s_is_list : Stmt := topS 4
theorem sc_is_list : FnScope ["value"] ["value"] (defScope s_is_list) := ⟨rfl, rfl, rfl, by decide +kernel, rfl, by decide +kernel, by decide +kernel⟩
abbrev s_is_tuple : Stmt := topS 5
theorem sc_is_tuple : FnScope ["value", "many"] ["value", "many"] (defScope s_is_tuple) := ⟨rfl, rfl, rfl, by decide +kernel, rfl, by decide +kernel, by decide +kernel⟩
abbrev s_fraction : Stmt := topS 14
theorem sc_fraction : FnScope ["above", "below", "shared"] ["above", "below"] (defScope s_fraction) := ⟨rfl, rfl, rfl, by decide +kernel, rfl, by decide +kernel, by decide +kernel⟩
abbrev s_added : Stmt := topS 15
theorem sc_added : FnScope ["a", "b"] ["a", "b"] (defScope s_added) := ⟨rfl, rfl, rfl, by decide +kernel, rfl, by decide +kernel, by decide +kernel⟩
abbrev s_contrary : Stmt := topS 16
theorem sc_contrary : FnScope ["a"] ["a"] (defScope s_contrary) := ⟨rfl, rfl, rfl, by decide +kernel, rfl, by decide +kernel, by decide +kernel⟩
abbrev s_is_fraction : Stmt := topS 17
theorem sc_is_fraction : FnScope ["value"] ["value"] (defScope s_is_fraction) := ⟨rfl, rfl, rfl, by decide +kernel, rfl, by decide +kernel, by decide +kernel⟩
abbrev s_is_short : Stmt := topS 18
theorem sc_is_short : FnScope ["value"] ["value"] (defScope s_is_short) := ⟨rfl, rfl, rfl, by decide +kernel, rfl, by decide +kernel, by decide +kernel⟩
abbrev s_nought : Stmt := topS 21
theorem sc_nought : FnScope ["dims"] ["dims"] (defScope s_nought) := ⟨rfl, rfl, rfl, by decide +kernel, rfl, by decide +kernel, by decide +kernel⟩
abbrev s_joined : Stmt := topS 22
theorem sc_joined : FnScope ["a", "b", "one", "other"] ["a", "b"] (defScope s_joined) := ⟨rfl, rfl, rfl, by decide +kernel, rfl, by decide +kernel, by decide +kernel⟩
abbrev s_against : Stmt := topS 23
theorem sc_against : FnScope ["a", "one"] ["a"] (defScope s_against) := ⟨rfl, rfl, rfl, by decide +kernel, rfl, by decide +kernel, by decide +kernel⟩
abbrev s_gathered : Stmt := topS 24
theorem sc_gathered : FnScope ["vectors", "dims", "found", "one"] ["vectors", "dims"] (defScope s_gathered) := ⟨rfl, rfl, rfl, by decide +kernel, rfl, by decide +kernel, by decide +kernel⟩
abbrev s_is_short_vector : Stmt := topS 29
theorem sc_is_short_vector : FnScope ["value", "dims", "one"] ["value", "dims"] (defScope s_is_short_vector) := ⟨rfl, rfl, rfl, by decide +kernel, rfl, by decide +kernel, by decide +kernel⟩
abbrev s_is_leg_value : Stmt := topS 30
theorem sc_is_leg_value : FnScope ["value", "dims", "stations", "one"] ["value", "dims", "stations"] (defScope s_is_leg_value) := ⟨rfl, rfl, rfl, by decide +kernel, rfl, by decide +kernel, by decide +kernel⟩
abbrev s_is_survey_value : Stmt := topS 31
theorem sc_is_survey_value : FnScope ["value", "one"] ["value"] (defScope s_is_survey_value) := ⟨rfl, rfl, rfl, by decide +kernel, rfl, by decide +kernel, by decide +kernel⟩
abbrev s_want_survey : Stmt := topS 32
theorem sc_want_survey : FnScope ["survey"] ["survey"] (defScope s_want_survey) := ⟨rfl, rfl, rfl, by decide +kernel, rfl, by decide +kernel, by decide +kernel⟩
abbrev s_is_step : Stmt := topS 35
theorem sc_is_step : FnScope ["survey", "value"] ["survey", "value"] (defScope s_is_step) := ⟨rfl, rfl, rfl, by decide +kernel, rfl, by decide +kernel, by decide +kernel⟩
abbrev s_step_ends : Stmt := topS 36
theorem sc_step_ends : FnScope ["survey", "step", "leg"] ["survey", "step"] (defScope s_step_ends) := ⟨rfl, rfl, rfl, by decide +kernel, rfl, by decide +kernel, by decide +kernel⟩
abbrev s_is_walk_of : Stmt := topS 37
theorem sc_is_walk_of : FnScope ["survey", "value", "ends", "one", "near", "far"] ["survey", "value"] (defScope s_is_walk_of) := ⟨rfl, rfl, rfl, by decide +kernel, rfl, by decide +kernel, by decide +kernel⟩
abbrev s_is_loop_of : Stmt := topS 38
theorem sc_is_loop_of : FnScope ["survey", "value", "ends", "one"] ["survey", "value"] (defScope s_is_loop_of) := ⟨rfl, rfl, rfl, by decide +kernel, rfl, by decide +kernel, by decide +kernel⟩
abbrev s_want_walk : Stmt := topS 39
theorem sc_want_walk : FnScope ["survey", "walk"] ["survey", "walk"] (defScope s_want_walk) := ⟨rfl, rfl, rfl, by decide +kernel, rfl, by decide +kernel, by decide +kernel⟩
abbrev s_sum_along : Stmt := topS 40
theorem sc_sum_along : FnScope ["survey", "walk", "some", "leg", "sense"] ["survey", "walk"] (defScope s_sum_along) := ⟨rfl, rfl, rfl, by decide +kernel, rfl, by decide +kernel, by decide +kernel⟩
abbrev s_about : Stmt := topS 41
theorem sc_about : FnScope ["walk", "leg", "sense"] ["walk"] (defScope s_about) := ⟨rfl, rfl, rfl, by decide +kernel, rfl, by decide +kernel, by decide +kernel⟩
abbrev s_is_walk : Stmt := topS 42
theorem sc_is_walk : FnScope ["survey", "value"] ["survey", "value"] (defScope s_is_walk) := ⟨rfl, rfl, rfl, by decide +kernel, rfl, by decide +kernel, by decide +kernel⟩
abbrev s_is_loop : Stmt := topS 43
theorem sc_is_loop : FnScope ["survey", "value"] ["survey", "value"] (defScope s_is_loop) := ⟨rfl, rfl, rfl, by decide +kernel, rfl, by decide +kernel, by decide +kernel⟩
abbrev s_walk_sum : Stmt := topS 44
theorem sc_walk_sum : FnScope ["survey", "walk"] ["survey", "walk"] (defScope s_walk_sum) := ⟨rfl, rfl, rfl, by decide +kernel, rfl, by decide +kernel, by decide +kernel⟩
abbrev s_turned_about : Stmt := topS 45
theorem sc_turned_about : FnScope ["survey", "walk"] ["survey", "walk"] (defScope s_turned_about) := ⟨rfl, rfl, rfl, by decide +kernel, rfl, by decide +kernel, by decide +kernel⟩
abbrev s__law_pot : Stmt := topS 47
theorem sc__law_pot : FnScope ["script", "k", "cell"] ["script", "k"] (defScope s__law_pot) := ⟨rfl, rfl, rfl, by decide +kernel, rfl, by decide +kernel, by decide +kernel⟩
abbrev s__law_draw : Stmt := topS 48
theorem sc__law_draw : FnScope ["pot", "many", "digit"] ["pot", "many"] (defScope s__law_draw) := ⟨rfl, rfl, rfl, by decide +kernel, rfl, by decide +kernel, by decide +kernel⟩
abbrev s__law_pick : Stmt := topS 49
theorem sc__law_pick : FnScope ["pot", "some"] ["pot", "some"] (defScope s__law_pick) := ⟨rfl, rfl, rfl, by decide +kernel, rfl, by decide +kernel, by decide +kernel⟩
abbrev s__law_frac : Stmt := topS 50
theorem sc__law_frac : FnScope ["above", "below", "a", "b"] ["above", "below"] (defScope s__law_frac) := ⟨rfl, rfl, rfl, by decide +kernel, rfl, by decide +kernel, by decide +kernel⟩
abbrev s__law_plus : Stmt := topS 51
theorem sc__law_plus : FnScope ["a", "b"] ["a", "b"] (defScope s__law_plus) := ⟨rfl, rfl, rfl, by decide +kernel, rfl, by decide +kernel, by decide +kernel⟩
abbrev s__law_minus : Stmt := topS 52
theorem sc__law_minus : FnScope ["a", "b"] ["a", "b"] (defScope s__law_minus) := ⟨rfl, rfl, rfl, by decide +kernel, rfl, by decide +kernel, by decide +kernel⟩
abbrev s__law_some : Stmt := topS 53
theorem sc__law_some : FnScope ["pot"] ["pot"] (defScope s__law_some) := ⟨rfl, rfl, rfl, by decide +kernel, rfl, by decide +kernel, by decide +kernel⟩
abbrev s__law_vsum : Stmt := topS 54
theorem sc__law_vsum : FnScope ["a", "b", "one", "other"] ["a", "b"] (defScope s__law_vsum) := ⟨rfl, rfl, rfl, by decide +kernel, rfl, by decide +kernel, by decide +kernel⟩
abbrev s__law_vless : Stmt := topS 55
theorem sc__law_vless : FnScope ["a", "b", "one", "other"] ["a", "b"] (defScope s__law_vless) := ⟨rfl, rfl, rfl, by decide +kernel, rfl, by decide +kernel, by decide +kernel⟩
abbrev s__law_back : Stmt := topS 56
theorem sc__law_back : FnScope ["a", "one"] ["a"] (defScope s__law_back) := ⟨rfl, rfl, rfl, by decide +kernel, rfl, by decide +kernel, by decide +kernel⟩
abbrev s__law_vector : Stmt := topS 57
theorem sc__law_vector : FnScope ["pot", "dims", "at"] ["pot", "dims"] (defScope s__law_vector) := ⟨rfl, rfl, rfl, by decide +kernel, rfl, by decide +kernel, by decide +kernel⟩
abbrev s__law_survey : Stmt := topS 58
theorem sc__law_survey : FnScope ["pot", "dims", "stations", "legs", "wrong", "places", "found", "turn", "start", "end", "vector", "slack", "station", "at"] ["pot", "dims", "stations", "legs", "wrong"] (defScope s__law_survey) := ⟨rfl, rfl, rfl, by decide +kernel, rfl, by decide +kernel, by decide +kernel⟩
abbrev s__law_ends : Stmt := topS 59
theorem sc__law_ends : FnScope ["survey", "step", "leg"] ["survey", "step"] (defScope s__law_ends) := ⟨rfl, rfl, rfl, by decide +kernel, rfl, by decide +kernel, by decide +kernel⟩
abbrev s__law_total : Stmt := topS 60
theorem sc__law_total : FnScope ["survey", "walk", "found", "leg", "sense", "vector"] ["survey", "walk"] (defScope s__law_total) := ⟨rfl, rfl, rfl, by decide +kernel, rfl, by decide +kernel, by decide +kernel⟩
abbrev s__law_is_step : Stmt := topS 61
theorem sc__law_is_step : FnScope ["survey", "value", "one"] ["survey", "value"] (defScope s__law_is_step) := ⟨rfl, rfl, rfl, by decide +kernel, rfl, by decide +kernel, by decide +kernel⟩
abbrev s__law_is_walk : Stmt := topS 62
theorem sc__law_is_walk : FnScope ["survey", "value", "one", "near", "far"] ["survey", "value"] (defScope s__law_is_walk) := ⟨rfl, rfl, rfl, by decide +kernel, rfl, by decide +kernel, by decide +kernel⟩
abbrev s__law_is_loop : Stmt := topS 63
theorem sc__law_is_loop : FnScope ["survey", "value", "starts", "legs", "step"] ["survey", "value"] (defScope s__law_is_loop) := ⟨rfl, rfl, rfl, by decide +kernel, rfl, by decide +kernel, by decide +kernel⟩
abbrev s__law_drawn_walk : Stmt := topS 64
theorem sc__law_drawn_walk : FnScope ["pot", "survey", "many", "found", "here", "turn", "some", "at", "sense", "leg"] ["pot", "survey", "many"] (defScope s__law_drawn_walk) := ⟨rfl, rfl, rfl, by decide +kernel, rfl, by decide +kernel, by decide +kernel⟩
abbrev s__law_cut : Stmt := topS 65
theorem sc__law_cut : FnScope ["survey", "walk", "end", "there", "begin"] ["survey", "walk"] (defScope s__law_cut) := ⟨rfl, rfl, rfl, by decide +kernel, rfl, by decide +kernel, by decide +kernel⟩
abbrev s__law_bent : Stmt := topS 66
theorem sc__law_bent : FnScope ["pot", "survey", "walk", "way", "at", "leg", "sense", "odd"] ["pot", "survey", "walk"] (defScope s__law_bent) := ⟨rfl, rfl, rfl, by decide +kernel, rfl, by decide +kernel, by decide +kernel⟩
abbrev s__law_value_right : Stmt := topS 67
theorem sc__law_value_right : FnScope ["survey", "value", "due", "shown", "told", "named", "total", "about_v", "late", "leg", "sense"] ["survey", "value"] (defScope s__law_value_right) := ⟨rfl, rfl, rfl, by decide +kernel, rfl, by decide +kernel, by decide +kernel⟩
abbrev s__law_right : Stmt := topS 68
theorem sc__law_right : FnScope ["pot", "survey", "walk", "loop", "values", "value", "leg", "sense", "turn"] ["pot"] (defScope s__law_right) := ⟨rfl, rfl, rfl, by decide +kernel, rfl, by decide +kernel, by decide +kernel⟩
abbrev s_law : Stmt := topS 69
theorem sc_law : FnScope ["script", "k"] ["script"] (defScope s_law) := ⟨rfl, rfl, rfl, by decide +kernel, rfl, by decide +kernel, by decide +kernel⟩
structure Txt (K : PySem.W.Frag) (mg : Str → Option Value) where
  a_is_integer : Addr
  d_is_integer : FuncData
  F_is_integer : Fun K "is_integer" "is_integer" s_is_integer a_is_integer d_is_integer
  g_is_integer : mg "is_integer" = some (.ref a_is_integer)
  b_is_integer : L2.Binds K d_is_integer ["value"] []
  a_is_within : Addr
  d_is_within : FuncData
  F_is_within : Fun K "is_within" "is_within" s_is_within a_is_within d_is_within
  g_is_within : mg "is_within" = some (.ref a_is_within)
  b_is_within : L2.Binds K d_is_within ["value", "least", "most"] []
  a_is_list : Addr
  d_is_list : FuncData
  F_is_list : Fun K "is_list" "is_list" s_is_list a_is_list d_is_list
  g_is_list : mg "is_list" = some (.ref a_is_list)
  b_is_list : L2.Binds K d_is_list ["value"] []
  a_is_tuple : Addr
  d_is_tuple : FuncData
  F_is_tuple : Fun K "is_tuple" "is_tuple" s_is_tuple a_is_tuple d_is_tuple
  g_is_tuple : mg "is_tuple" = some (.ref a_is_tuple)
  b_is_tuple : L2.Binds K d_is_tuple ["value", "many"] []
  a_fraction : Addr
  d_fraction : FuncData
  F_fraction : Fun K "fraction" "fraction" s_fraction a_fraction d_fraction
  g_fraction : mg "fraction" = some (.ref a_fraction)
  b_fraction : L2.Binds K d_fraction ["above", "below"] []
  a_added : Addr
  d_added : FuncData
  F_added : Fun K "added" "added" s_added a_added d_added
  g_added : mg "added" = some (.ref a_added)
  b_added : L2.Binds K d_added ["a", "b"] []
  a_contrary : Addr
  d_contrary : FuncData
  F_contrary : Fun K "contrary" "contrary" s_contrary a_contrary d_contrary
  g_contrary : mg "contrary" = some (.ref a_contrary)
  b_contrary : L2.Binds K d_contrary ["a"] []
  a_is_fraction : Addr
  d_is_fraction : FuncData
  F_is_fraction : Fun K "is_fraction" "is_fraction" s_is_fraction a_is_fraction d_is_fraction
  g_is_fraction : mg "is_fraction" = some (.ref a_is_fraction)
  b_is_fraction : L2.Binds K d_is_fraction ["value"] []
  a_is_short : Addr
  d_is_short : FuncData
  F_is_short : Fun K "is_short" "is_short" s_is_short a_is_short d_is_short
  g_is_short : mg "is_short" = some (.ref a_is_short)
  b_is_short : L2.Binds K d_is_short ["value"] []
  a_nought : Addr
  d_nought : FuncData
  F_nought : Fun K "nought" "nought" s_nought a_nought d_nought
  g_nought : mg "nought" = some (.ref a_nought)
  b_nought : L2.Binds K d_nought ["dims"] []
  a_joined : Addr
  d_joined : FuncData
  F_joined : Fun K "joined" "joined" s_joined a_joined d_joined
  g_joined : mg "joined" = some (.ref a_joined)
  b_joined : L2.Binds K d_joined ["a", "b"] []
  a_against : Addr
  d_against : FuncData
  F_against : Fun K "against" "against" s_against a_against d_against
  g_against : mg "against" = some (.ref a_against)
  b_against : L2.Binds K d_against ["a"] []
  a_gathered : Addr
  d_gathered : FuncData
  F_gathered : Fun K "gathered" "gathered" s_gathered a_gathered d_gathered
  g_gathered : mg "gathered" = some (.ref a_gathered)
  b_gathered : L2.Binds K d_gathered ["vectors", "dims"] []
  a_is_short_vector : Addr
  d_is_short_vector : FuncData
  F_is_short_vector : Fun K "is_short_vector" "is_short_vector" s_is_short_vector a_is_short_vector d_is_short_vector
  g_is_short_vector : mg "is_short_vector" = some (.ref a_is_short_vector)
  b_is_short_vector : L2.Binds K d_is_short_vector ["value", "dims"] []
  a_is_leg_value : Addr
  d_is_leg_value : FuncData
  F_is_leg_value : Fun K "is_leg_value" "is_leg_value" s_is_leg_value a_is_leg_value d_is_leg_value
  g_is_leg_value : mg "is_leg_value" = some (.ref a_is_leg_value)
  b_is_leg_value : L2.Binds K d_is_leg_value ["value", "dims", "stations"] []
  a_is_survey_value : Addr
  d_is_survey_value : FuncData
  F_is_survey_value : Fun K "is_survey_value" "is_survey_value" s_is_survey_value a_is_survey_value d_is_survey_value
  g_is_survey_value : mg "is_survey_value" = some (.ref a_is_survey_value)
  b_is_survey_value : L2.Binds K d_is_survey_value ["value"] []
  a_want_survey : Addr
  d_want_survey : FuncData
  F_want_survey : Fun K "want_survey" "want_survey" s_want_survey a_want_survey d_want_survey
  g_want_survey : mg "want_survey" = some (.ref a_want_survey)
  b_want_survey : L2.Binds K d_want_survey ["survey"] []
  a_is_step : Addr
  d_is_step : FuncData
  F_is_step : Fun K "is_step" "is_step" s_is_step a_is_step d_is_step
  g_is_step : mg "is_step" = some (.ref a_is_step)
  b_is_step : L2.Binds K d_is_step ["survey", "value"] []
  a_step_ends : Addr
  d_step_ends : FuncData
  F_step_ends : Fun K "step_ends" "step_ends" s_step_ends a_step_ends d_step_ends
  g_step_ends : mg "step_ends" = some (.ref a_step_ends)
  b_step_ends : L2.Binds K d_step_ends ["survey", "step"] []
  a_is_walk_of : Addr
  d_is_walk_of : FuncData
  F_is_walk_of : Fun K "is_walk_of" "is_walk_of" s_is_walk_of a_is_walk_of d_is_walk_of
  g_is_walk_of : mg "is_walk_of" = some (.ref a_is_walk_of)
  b_is_walk_of : L2.Binds K d_is_walk_of ["survey", "value"] []
  a_is_loop_of : Addr
  d_is_loop_of : FuncData
  F_is_loop_of : Fun K "is_loop_of" "is_loop_of" s_is_loop_of a_is_loop_of d_is_loop_of
  g_is_loop_of : mg "is_loop_of" = some (.ref a_is_loop_of)
  b_is_loop_of : L2.Binds K d_is_loop_of ["survey", "value"] []
  a_want_walk : Addr
  d_want_walk : FuncData
  F_want_walk : Fun K "want_walk" "want_walk" s_want_walk a_want_walk d_want_walk
  g_want_walk : mg "want_walk" = some (.ref a_want_walk)
  b_want_walk : L2.Binds K d_want_walk ["survey", "walk"] []
  a_sum_along : Addr
  d_sum_along : FuncData
  F_sum_along : Fun K "sum_along" "sum_along" s_sum_along a_sum_along d_sum_along
  g_sum_along : mg "sum_along" = some (.ref a_sum_along)
  b_sum_along : L2.Binds K d_sum_along ["survey", "walk"] []
  a_about : Addr
  d_about : FuncData
  F_about : Fun K "about" "about" s_about a_about d_about
  g_about : mg "about" = some (.ref a_about)
  b_about : L2.Binds K d_about ["walk"] []
  a_is_walk : Addr
  d_is_walk : FuncData
  F_is_walk : Fun K "is_walk" "is_walk" s_is_walk a_is_walk d_is_walk
  g_is_walk : mg "is_walk" = some (.ref a_is_walk)
  b_is_walk : L2.Binds K d_is_walk ["survey", "value"] []
  a_is_loop : Addr
  d_is_loop : FuncData
  F_is_loop : Fun K "is_loop" "is_loop" s_is_loop a_is_loop d_is_loop
  g_is_loop : mg "is_loop" = some (.ref a_is_loop)
  b_is_loop : L2.Binds K d_is_loop ["survey", "value"] []
  a_walk_sum : Addr
  d_walk_sum : FuncData
  F_walk_sum : Fun K "walk_sum" "walk_sum" s_walk_sum a_walk_sum d_walk_sum
  g_walk_sum : mg "walk_sum" = some (.ref a_walk_sum)
  b_walk_sum : L2.Binds K d_walk_sum ["survey", "walk"] []
  a_turned_about : Addr
  d_turned_about : FuncData
  F_turned_about : Fun K "turned_about" "turned_about" s_turned_about a_turned_about d_turned_about
  g_turned_about : mg "turned_about" = some (.ref a_turned_about)
  b_turned_about : L2.Binds K d_turned_about ["survey", "walk"] []
  a__law_pot : Addr
  d__law_pot : FuncData
  F__law_pot : Fun K "_law_pot" "_law_pot" s__law_pot a__law_pot d__law_pot
  g__law_pot : mg "_law_pot" = some (.ref a__law_pot)
  b__law_pot : L2.Binds K d__law_pot ["script", "k"] []
  a__law_draw : Addr
  d__law_draw : FuncData
  F__law_draw : Fun K "_law_draw" "_law_draw" s__law_draw a__law_draw d__law_draw
  g__law_draw : mg "_law_draw" = some (.ref a__law_draw)
  b__law_draw : L2.Binds K d__law_draw ["pot", "many"] []
  a__law_pick : Addr
  d__law_pick : FuncData
  F__law_pick : Fun K "_law_pick" "_law_pick" s__law_pick a__law_pick d__law_pick
  g__law_pick : mg "_law_pick" = some (.ref a__law_pick)
  b__law_pick : L2.Binds K d__law_pick ["pot", "some"] []
  a__law_frac : Addr
  d__law_frac : FuncData
  F__law_frac : Fun K "_law_frac" "_law_frac" s__law_frac a__law_frac d__law_frac
  g__law_frac : mg "_law_frac" = some (.ref a__law_frac)
  b__law_frac : L2.Binds K d__law_frac ["above", "below"] []
  a__law_plus : Addr
  d__law_plus : FuncData
  F__law_plus : Fun K "_law_plus" "_law_plus" s__law_plus a__law_plus d__law_plus
  g__law_plus : mg "_law_plus" = some (.ref a__law_plus)
  b__law_plus : L2.Binds K d__law_plus ["a", "b"] []
  a__law_minus : Addr
  d__law_minus : FuncData
  F__law_minus : Fun K "_law_minus" "_law_minus" s__law_minus a__law_minus d__law_minus
  g__law_minus : mg "_law_minus" = some (.ref a__law_minus)
  b__law_minus : L2.Binds K d__law_minus ["a", "b"] []
  a__law_some : Addr
  d__law_some : FuncData
  F__law_some : Fun K "_law_some" "_law_some" s__law_some a__law_some d__law_some
  g__law_some : mg "_law_some" = some (.ref a__law_some)
  b__law_some : L2.Binds K d__law_some ["pot"] []
  a__law_vsum : Addr
  d__law_vsum : FuncData
  F__law_vsum : Fun K "_law_vsum" "_law_vsum" s__law_vsum a__law_vsum d__law_vsum
  g__law_vsum : mg "_law_vsum" = some (.ref a__law_vsum)
  b__law_vsum : L2.Binds K d__law_vsum ["a", "b"] []
  a__law_vless : Addr
  d__law_vless : FuncData
  F__law_vless : Fun K "_law_vless" "_law_vless" s__law_vless a__law_vless d__law_vless
  g__law_vless : mg "_law_vless" = some (.ref a__law_vless)
  b__law_vless : L2.Binds K d__law_vless ["a", "b"] []
  a__law_back : Addr
  d__law_back : FuncData
  F__law_back : Fun K "_law_back" "_law_back" s__law_back a__law_back d__law_back
  g__law_back : mg "_law_back" = some (.ref a__law_back)
  b__law_back : L2.Binds K d__law_back ["a"] []
  a__law_vector : Addr
  d__law_vector : FuncData
  F__law_vector : Fun K "_law_vector" "_law_vector" s__law_vector a__law_vector d__law_vector
  g__law_vector : mg "_law_vector" = some (.ref a__law_vector)
  b__law_vector : L2.Binds K d__law_vector ["pot", "dims"] []
  a__law_survey : Addr
  d__law_survey : FuncData
  F__law_survey : Fun K "_law_survey" "_law_survey" s__law_survey a__law_survey d__law_survey
  g__law_survey : mg "_law_survey" = some (.ref a__law_survey)
  b__law_survey : L2.Binds K d__law_survey ["pot", "dims", "stations", "legs", "wrong"] []
  a__law_ends : Addr
  d__law_ends : FuncData
  F__law_ends : Fun K "_law_ends" "_law_ends" s__law_ends a__law_ends d__law_ends
  g__law_ends : mg "_law_ends" = some (.ref a__law_ends)
  b__law_ends : L2.Binds K d__law_ends ["survey", "step"] []
  a__law_total : Addr
  d__law_total : FuncData
  F__law_total : Fun K "_law_total" "_law_total" s__law_total a__law_total d__law_total
  g__law_total : mg "_law_total" = some (.ref a__law_total)
  b__law_total : L2.Binds K d__law_total ["survey", "walk"] []
  a__law_is_step : Addr
  d__law_is_step : FuncData
  F__law_is_step : Fun K "_law_is_step" "_law_is_step" s__law_is_step a__law_is_step d__law_is_step
  g__law_is_step : mg "_law_is_step" = some (.ref a__law_is_step)
  b__law_is_step : L2.Binds K d__law_is_step ["survey", "value"] []
  a__law_is_walk : Addr
  d__law_is_walk : FuncData
  F__law_is_walk : Fun K "_law_is_walk" "_law_is_walk" s__law_is_walk a__law_is_walk d__law_is_walk
  g__law_is_walk : mg "_law_is_walk" = some (.ref a__law_is_walk)
  b__law_is_walk : L2.Binds K d__law_is_walk ["survey", "value"] []
  a__law_is_loop : Addr
  d__law_is_loop : FuncData
  F__law_is_loop : Fun K "_law_is_loop" "_law_is_loop" s__law_is_loop a__law_is_loop d__law_is_loop
  g__law_is_loop : mg "_law_is_loop" = some (.ref a__law_is_loop)
  b__law_is_loop : L2.Binds K d__law_is_loop ["survey", "value"] []
  a__law_drawn_walk : Addr
  d__law_drawn_walk : FuncData
  F__law_drawn_walk : Fun K "_law_drawn_walk" "_law_drawn_walk" s__law_drawn_walk a__law_drawn_walk d__law_drawn_walk
  g__law_drawn_walk : mg "_law_drawn_walk" = some (.ref a__law_drawn_walk)
  b__law_drawn_walk : L2.Binds K d__law_drawn_walk ["pot", "survey", "many"] []
  a__law_cut : Addr
  d__law_cut : FuncData
  F__law_cut : Fun K "_law_cut" "_law_cut" s__law_cut a__law_cut d__law_cut
  g__law_cut : mg "_law_cut" = some (.ref a__law_cut)
  b__law_cut : L2.Binds K d__law_cut ["survey", "walk"] []
  a__law_bent : Addr
  d__law_bent : FuncData
  F__law_bent : Fun K "_law_bent" "_law_bent" s__law_bent a__law_bent d__law_bent
  g__law_bent : mg "_law_bent" = some (.ref a__law_bent)
  b__law_bent : L2.Binds K d__law_bent ["pot", "survey", "walk"] []
  a__law_value_right : Addr
  d__law_value_right : FuncData
  F__law_value_right : Fun K "_law_value_right" "_law_value_right" s__law_value_right a__law_value_right d__law_value_right
  g__law_value_right : mg "_law_value_right" = some (.ref a__law_value_right)
  b__law_value_right : L2.Binds K d__law_value_right ["survey", "value"] []
  a__law_right : Addr
  d__law_right : FuncData
  F__law_right : Fun K "_law_right" "_law_right" s__law_right a__law_right d__law_right
  g__law_right : mg "_law_right" = some (.ref a__law_right)
  b__law_right : L2.Binds K d__law_right ["pot"] []
  a_law : Addr
  d_law : FuncData
  F_law : Fun K "law" "law" s_law a_law d_law
  g_law : mg "law" = some (.ref a_law)
  b_law : L2.Binds K d_law ["script"] []
  kb_is_walk_value_survey : L2.KBinds K d_is_walk ["survey", "value"] ["value", "survey"] (permK [1, 0] 2) (permK [1, 0] 2)
  kb_is_loop_value_survey : L2.KBinds K d_is_loop ["survey", "value"] ["value", "survey"] (permK [1, 0] 2) (permK [1, 0] 2)
  kb_walk_sum_walk_survey : L2.KBinds K d_walk_sum ["survey", "walk"] ["walk", "survey"] (permK [1, 0] 2) (permK [1, 0] 2)
  kb_turned_about_walk_survey : L2.KBinds K d_turned_about ["survey", "walk"] ["walk", "survey"] (permK [1, 0] 2) (permK [1, 0] 2)
  n_isinstance : mg "isinstance" = none
  n_int : mg "int" = none
  n_bool : mg "bool" = none
  n_list : mg "list" = none
  n_tuple : mg "tuple" = none
  n_len : mg "len" = none
  n_abs : mg "abs" = none
  n_zip : mg "zip" = none
  n_all : mg "all" = none
  n_str : mg "str" = none
  n_set : mg "set" = none
  n_max : mg "max" = none
  n_divmod : mg "divmod" = none
  n_range : mg "range" = none
  n_enumerate : mg "enumerate" = none
  n_repr : mg "repr" = none
  n_min : mg "min" = none
  n_gcd : mg "gcd" = some (.builtin "math.gcd")
  c_NOUGHT : Konst K mg "NOUGHT" (fr (0, 1))
  c_MOST_SHORT : Konst K mg "MOST_SHORT" (.int 1000000)
  c_MOST_BELOW : Konst K mg "MOST_BELOW" (.int 60)
  c_MOST_DIMS : Konst K mg "MOST_DIMS" (.int 3)
  c_MOST_STATIONS : Konst K mg "MOST_STATIONS" (.int 24)
  c_MOST_LEGS : Konst K mg "MOST_LEGS" (.int 60)
  c_MOST_PARTY : Konst K mg "MOST_PARTY" (.int 5)
  c_MOST_WALK : Konst K mg "MOST_WALK" (.int 600)

theorem low01 : Low (0, 1) := ⟨by decide, by decide⟩
theorem bd01 : Bd 1 (0, 1) := ⟨by show (0 : Int).natAbs < 2 ^ 1; decide, by show (1 : Int).natAbs < 2 ^ 1; decide⟩
theorem map_true {α : Type} (l : List α) : l.map (fun _ => PyData.bool true) = (l.map fun _ => true).map .bool := by rw [List.map_map]; rfl
theorem all_true {α : Type} (l : List α) : (l.map fun _ => true).all id = true := by rw [List.all_map]; exact List.all_eq_true.mpr fun _ _ => rfl
theorem len_map {α : Type} {f : α → PyData} {l : List α} (h : l.length ≤ 1000) : (l.map f).length ≤ 1000000 := by rw [List.length_map]; omega
theorem len_map_lt {α : Type} {f : α → PyData} {l : List α} (h : l.length ≤ 1000) : (l.map f).length < 1000000 := by rw [List.length_map]; omega
/-- a fraction put at its place -/
def insW (s : List Fr) (x : Fr) : List Fr := s.take (s.filter fun y => !fLess x y).length ++ [x] ++ s.drop (s.filter fun y => !fLess x y).length
theorem insW_few {s : List Fr} {x : Fr} (h : s.length ≤ 1000) : ((s.filter fun y => !fLess x y).map fr).length ≤ 1000 := by
  have := List.length_filter_le (fun y => !fLess x y) s
  rw [List.length_map]
  omega
theorem len_rng {l : List PyData} (h : l.length ≤ 1000) : 0 ≤ (l.length : Int) ∧ (l.length : Int) < 2 ^ 63 := by omega
theorem insW_all {s : List Fr} {x : Fr} {Q : Fr → Prop} (h : ∀ p ∈ s, Q p) (hx : Q x) : ∀ p ∈ insW s x, Q p := fun p hp => by
  unfold insW at hp
  rcases List.mem_append.mp hp with hp | hp
  · rcases List.mem_append.mp hp with hp | hp
    · exact h p (List.mem_of_mem_take hp)
    · rw [List.mem_singleton.mp hp]
      exact hx
  · exact h p (List.mem_of_mem_drop hp)
theorem insW_length (s : List Fr) (x : Fr) : (insW s x).length = s.length + 1 := by
  unfold insW
  rw [List.length_append, List.length_append, List.length_take, List.length_drop, List.length_singleton]
  omega
theorem insW_len {s r : List Fr} {x : Fr} {n : Nat} (h : s.length + (x :: r).length ≤ n) : (insW s x).length + r.length ≤ n := by
  rw [insW_length]
  rw [List.length_cons] at h
  omega
theorem insW_map (s : List Fr) (x : Fr) : (insW s x).map fr = (s.map fr).take ((((s.filter fun y => !fLess x y).map fr).length : Int)).toNat ++ [fr x] ++ (s.map fr).drop ((((s.filter fun y => !fLess x y).map fr).length : Int)).toNat := by
  unfold insW
  rw [Int.toNat_natCast, List.length_map, List.map_append, List.map_append, List.map_take, List.map_drop]
  rfl
theorem insW_env {a b : Option Cell} {s : List Fr} {x : Fr} : ([a, b, some (Cell.own (.lst ((s.map fr).take ((((s.filter fun y => !fLess x y).map fr).length : Int)).toNat ++ [fr x] ++ (s.map fr).drop ((((s.filter fun y => !fLess x y).map fr).length : Int)).toNat))), none, none, none] : Rho) = [a, b, some (.own (.lst ((insW s x).map fr))), none, none, none] := by rw [insW_map]
theorem euclid_env {a b : Option Cell} (x y : Nat) : Out.nx [a, b, some (.dat (.int (y : Nat))), some (.dat (.int ((x : Int).fmod (y : Int))))] = Out.nx [a, b, some (.dat (.int (y : Nat))), some (.dat (.int ((x % y : Nat) : Int)))] := by rw [fmod_nat]

def dc : DC := ⟨40692, 9803, 2147483587, 2147483549, 17⟩
theorem dc_ok : DCOk dc := ⟨by decide, by decide, by decide, by decide⟩
def pot0 (ns : List Int) (k : Int) : Pot := (max 0 ((if decide (k < (ns.length : Int)) = true then ((ns.getD k.toNat 0).natAbs : Int) else 1153 * k + 113) - (10 : Int) ^ (18 : Int).toNat), (((if decide (k < (ns.length : Int)) = true then ((ns.getD k.toNat 0).natAbs : Int) else 1153 * k + 113).fmod 2147483549 * 40014 + 6709 * k + 823).fmod 2147483563) + 1)
theorem pot0_ok (ns : List Int) (k : Int) : PotOk (pot0 ns k) := by
  have h := fmod_rng (a := ((if decide (k < (ns.length : Int)) = true then ((ns.getD k.toNat 0).natAbs : Int) else 1153 * k + 113).fmod 2147483549 * 40014 + 6709 * k + 823)) (n := 2147483563) (by decide)
  refine ⟨Int.le_max_left _ _, ?_, ?_⟩
  · show 0 ≤ (((if decide (k < (ns.length : Int)) = true then ((ns.getD k.toNat 0).natAbs : Int) else 1153 * k + 113).fmod 2147483549 * 40014 + 6709 * k + 823).fmod 2147483563) + 1
    omega
  · show (((if decide (k < (ns.length : Int)) = true then ((ns.getD k.toNat 0).natAbs : Int) else 1153 * k + 113).fmod 2147483549 * 40014 + 6709 * k + 823).fmod 2147483563) + 1 < 4294967296
    omega

theorem short_eq {p : Fr} (h : Short p) : PyData.bool (isFr (fr p) && (decide ((p.1.natAbs : Int) < 1000000) && decide (p.2 ≤ 60))) = .bool true := by
  obtain ⟨l, a, b, c⟩ := h
  rw [isFr_fr l, decide_eq_true (show (p.1.natAbs : Int) < 1000000 by omega), decide_eq_true c]
  rfl

def isTup : PyData → Int → Bool
  | .tuple l, n => decide ((l.length : Int) = n)
  | _, _ => false
theorem isTup_no {x : PyData} {n : Int} (h : ¬ isName x "tuple" = true) : isTup x n = false := by
  unfold isTup
  split
  · exact absurd rfl h
  · rfl

theorem mapB {α : Type} {f : α → Bool} (l : List α) : l.map (fun x => PyData.bool (f x)) = (l.map f).map .bool := by rw [List.map_map]; rfl
theorem all_of {α : Type} {f : α → Bool} {l : List α} (h : ∀ x ∈ l, f x = true) : (l.map f).all id = true := by
  rw [List.all_map]
  exact List.all_eq_true.mpr h

def isWin : PyData → Int → Int → Bool
  | .int v, a, b => decide (a ≤ v) && decide (v ≤ b)
  | _, _, _ => false
theorem isWin_no {x : PyData} {a b : Int} (h : ¬ isI x = true) : isWin x a b = false := by
  unfold isWin
  split
  · exact absurd rfl h
  · rfl
theorem isWin_in {v a b : Int} (h1 : a ≤ v) (h2 : v ≤ b) : isWin (.int v) a b = true := by
  show (decide (a ≤ v) && decide (v ≤ b)) = true
  rw [decide_eq_true h1, decide_eq_true h2]
  rfl

theorem isTup_two {x : PyData} (h : isTup x 2 = true) : ∃ a b, x = .tuple [a, b] := by
  match x, h with
  | .tuple l, h =>
    have h : decide ((l.length : Int) = 2) = true := h
    have h := of_decide_eq_true h
    obtain ⟨a, b, rfl⟩ := two_of (l := l) (by omega)
    exact ⟨a, b, rfl⟩
theorem isStep_tup {m : Int} {x : PyData} (h : ¬ isTup x 2 = true) : isStep m x = false := by
  unfold isStep
  split
  · exact absurd rfl h
  · rfl
theorem isWin_int {x : PyData} {a b : Int} (h : isWin x a b = true) : ∃ i, x = .int i := by
  unfold isWin at h
  split at h
  · exact ⟨_, rfl⟩
  · cases h
theorem isWin_two {v a b : Int} (h : isWin (.int v) a b = true) : a ≤ v ∧ v ≤ b := by
  have h : (decide (a ≤ v) && decide (v ≤ b)) = true := h
  rw [Bool.and_eq_true] at h
  exact ⟨of_decide_eq_true h.1, of_decide_eq_true h.2⟩
theorem isStep_win {m : Int} {a b : PyData} (h : ¬ isWin a 0 (m - 1) = true) : isStep m (.tuple [a, b]) = false := by
  unfold isStep
  split
  · rename_i e
    cases e
    refine decide_eq_false fun z => h ?_
    exact isWin_in z.1 z.2.1
  · rfl
theorem okStep_prog {m i j : Int} (h : isWin (.int i) 0 (m - 1) = true) : (isWin (.int j) (-1) 1 && !decide (j = 0)) = okStep m (i, j) := by
  obtain ⟨h1, h2⟩ := isWin_two h
  unfold okStep
  show ((decide (-1 ≤ j) && decide (j ≤ 1)) && !decide (j = 0)) = decide (0 ≤ i ∧ i ≤ m - 1 ∧ (j = 1 ∨ j = -1))
  by_cases hj : j = 1 ∨ j = -1
  · rw [decide_eq_true (p := 0 ≤ i ∧ i ≤ m - 1 ∧ (j = 1 ∨ j = -1)) ⟨h1, h2, hj⟩, decide_eq_true (p := -1 ≤ j) (by omega), decide_eq_true (p := j ≤ 1) (by omega), decide_eq_false (p := j = 0) (by omega)]
    rfl
  · rw [decide_eq_false (p := 0 ≤ i ∧ i ≤ m - 1 ∧ (j = 1 ∨ j = -1)) fun z => hj z.2.2]
    by_cases j0 : j = 0
    · rw [decide_eq_true j0, Bool.not_true, Bool.and_false]
    · by_cases j1 : -1 ≤ j
      · rw [decide_eq_false (p := j ≤ 1) (by omega), Bool.and_false, Bool.false_and]
      · rw [decide_eq_false (p := -1 ≤ j) j1, Bool.false_and, Bool.false_and]
theorem leg_few {s : Sv} {p : Fr} (S : SvOk s) (h : okStep (lenS s) p = true) : (gAt s p.1).v.length ≤ 3 := by
  rw [(S.legs _ (gAt_mem h)).lv]
  have := S.d3
  omega

theorem small_den {i : Int} (h0 : 0 ≤ i) (h1 : i < 7) : 1 ≤ ([1, 1, 1, 2, 3, 4, 6] : List Int).getD i.toNat 1 ∧ ([1, 1, 1, 2, 3, 4, 6] : List Int).getD i.toNat 1 ≤ 6 := by
  have h := getD_mem (xs := ([1, 1, 1, 2, 3, 4, 6] : List Int)) 1 h0 (by show i < 7; exact h1)
  have all : ∀ x ∈ ([1, 1, 1, 2, 3, 4, 6] : List Int), 1 ≤ x ∧ x ≤ 6 := by decide
  exact all _ h
theorem isI_map (l : List PyData) : (l.map fun x => PyData.bool (isI x)) = (l.map isI).map .bool := by rw [List.map_map]; rfl
theorem okStep_law {m i j : Int} : ((decide (0 ≤ i) && decide (i < m)) && decide (j ∈ ([1, -1] : List Int))) = okStep m (i, j) := by
  unfold okStep
  show _ = decide (0 ≤ i ∧ i ≤ m - 1 ∧ (j = 1 ∨ j = -1))
  rw [Bool.eq_iff_iff]
  simp only [Bool.and_eq_true, decide_eq_true_eq, List.mem_cons, List.not_mem_nil, or_false]
  omega
theorem some_pos {l : List Int} (h : ¬ l.isEmpty = true) : 0 < (l.map PyData.int).length := by
  cases l with
  | nil => exact absurd rfl h
  | cons a r => simp
theorem last_mem {w : List Fr} (h : 1 ≤ w.length) : w.getD (w.length - 1) (0, 0) ∈ w := by
  have := getD_mem (xs := w) (i := ((w.length - 1 : Nat) : Int)) (0, 0) (by omega) (by omega)
  exact this
theorem cut_rng {w : List Fr} {x : Nat} (h : x ∈ List.range (((w.map fr).length : Int) + 1 - 1).toNat) : x < w.length := by
  have := List.mem_range.mp h
  rw [List.length_map] at this
  omega

theorem bent_T {w : List Fr} {i : Int} (h : w = [] ∨ i = 0) : (PyData.eqv (.list (w.map fr)) (.list []) || decide (i = 0)) = true := by
  rw [eqv_nilI]
  rcases h with rfl | rfl
  · rfl
  · simp
theorem bent_F {w : List Fr} {i : Int} (h : ¬ (w = [] ∨ i = 0)) : (PyData.eqv (.list (w.map fr)) (.list []) || decide (i = 0)) = false := by
  rw [eqv_nilI]
  have h1 : ¬ w = [] := fun e => h (.inl e)
  have h2 : ¬ i = 0 := fun e => h (.inr e)
  simp [h1, h2]

theorem or_ff {a b : Bool} (h1 : a = false) (h2 : b = false) : (a || b) = false := by rw [h1, h2]; rfl
theorem sames (a : Str) : (!decide (a = a)) = false := by simp
theorem walkV_of {s : Sv} {x : PyData} (h : isWalkV s x = true) : ∃ w : List Fr, (x = .list (w.map fr) ∨ x = .tuple (w.map fr)) ∧ WalkOk s w ∧ joinsB s w = true := by
  cases x with
  | list l =>
    obtain ⟨w, rfl, W, J⟩ := walkL_of (s := s) (l := l) h
    exact ⟨w, .inl rfl, W, J⟩
  | tuple l =>
    obtain ⟨w, rfl, W, J⟩ := walkL_of (s := s) (l := l) h
    exact ⟨w, .inr rfl, W, J⟩
  | _ => cases h
theorem bools_show {a b c d : Bool} : ShowyE (.list [.list [.bool a, .bool b], .list [.bool c, .bool d]]) := showyE (n := 3) (okel (okec (okel (okec okeb (okec okeb okeNil))) (okec (okel (okec okeb (okec okeb okeNil))) okeNil))) (by decide) (by simp [nod, nodA])
theorem about_shows {s : Sv} {w : List Fr} (h : WalkOk s w) (S : SvOk s) : ShowyE (.list (w.map fr)) := by
  have a := (walk_okW S h.ok (by have := h.len; omega)).1
  exact showyE a.ok (by decide) (by have := a.nod; omega)
theorem vec_okE {v : List Fr} (h : Few v) : okE 6 (vec v) ∧ nod (vec v) ≤ 10 := by
  have n := nod_map (f := fr) (k := 3) (fun p => Nat.le_of_eq (nod_fr p)) v
  have h1 := h.1
  refine ⟨okE_up (n := 2) (okE_of (okt (okm fun x hx => fr_ok ((h.2 x hx).2.up (by decide))))) (by decide), ?_⟩
  show 1 + nodA (v.map fr) ≤ 10
  omega
theorem told_shows {s : Sv} {v w : List Fr} (f : Few v) (h : WalkOk s w) (S : SvOk s) : ShowyE (.list [vec v, vec v, .list (w.map fr), .list (w.map fr)]) := by
  have a := (walk_okW S h.ok (by have := h.len; omega)).1
  have b := vec_okE f
  have n := a.nod
  have m := b.2
  exact showyE (n := 7) (okel (okec b.1 (okec b.1 (okec a.ok (okec a.ok okeNil))))) (by decide) (by show 1 + (nod (vec v) + (nod (vec v) + (nod (.list (w.map fr)) + (nod (.list (w.map fr)) + 0)))) ≤ 8000; omega)
def loopF (s : Sv) (w : List Fr) : List Fr := match cutW s w with
  | .list l => l.map toFr
  | _ => []
theorem loopF_ok (s : Sv) (w : List Fr) : cutW s w = .list ((loopF s w).map fr) ∧ (loopF s w).length ≤ w.length ∧ ∀ p ∈ loopF s w, p ∈ w := by
  obtain ⟨u, e, h1, h2⟩ := cutW_ok s w
  have : loopF s w = u := by
    unfold loopF
    rw [e]
    exact toFr_map u
  rw [this]
  exact ⟨e, h1, h2⟩
theorem about_len (w : List Fr) : (aboutF w).length = w.length := by
  unfold aboutF
  rw [List.length_map, List.length_reverse]
theorem rep_len {n : Nat} {ds : List PyData} : ((List.replicate n ds).flatten).length = n * ds.length := by simp
def rA (p : Pot) : Pot × Int := draw dc p 2
def rB (p : Pot) : Pot × Int := draw dc (rA p).1 5
def rC (p : Pot) : Pot × Int := draw dc (rB p).1 9
def rS (p : Pot) : Pot × Sv := svC dc (rC p).1 (1 + (rA p).2) (2 + (rB p).2) (1 + (rC p).2) 4
def rM (p : Pot) : Pot × Int := draw dc (rS p).1 15
def rW (p : Pot) : Pot × List Fr × Int := walkE dc (rM p).1 (rS p).2 (rM p).2
def rU (p : Pot) : List Fr := loopF (rS p).2 (rW p).2.1
def bentF (p : Pot) (b : Pot) (_ : Nat) : Pot × PyData := bentW dc (draw dc b 2).1 (rS p).2 (([(rW p).2.1, rU p] : List (List Fr)).getD (draw dc b 2).2.toNat [])
def rightP (p : Pot) : Pot := endL (bentF p) (rW p).1 (List.range (Int.toNat 8))
def long : List PyData := (List.replicate (Int.toNat 300) [.tuple [.int 0, .int 1], .tuple [.int 0, .int (-1)]]).flatten
def valsR (p : Pot) : List PyData := ([.list ((rW p).2.1.map fr), .list ((rU p).map fr), .tuple ((rU p).map fr), .list ((rU p).map fr ++ (rU p).map fr), .list ((rW p).2.1.map fr ++ (aboutF (rW p).2.1).map fr)] ++ [.list long]) ++ [.list (long ++ [.tuple [.int 0, .int 1]])]
structure RightOk (p : Pot) : Prop where
  a : PotOk (rA p).1
  a0 : 0 ≤ (rA p).2
  a1 : (rA p).2 < 2
  b : PotOk (rB p).1
  b0 : 0 ≤ (rB p).2
  b1 : (rB p).2 < 5
  c : PotOk (rC p).1
  c0 : 0 ≤ (rC p).2
  c1 : (rC p).2 < 9
  s : PotOk (rS p).1
  S : SvTw (rS p).2
  m : PotOk (rM p).1
  m0 : 0 ≤ (rM p).2
  m1 : (rM p).2 < 15
  w : PotOk (rW p).1
  wo : ∀ q ∈ (rW p).2.1, okStep (lenS (rS p).2) q = true
  wl : (rW p).2.1.length ≤ 14
  u : cutW (rS p).2 (rW p).2.1 = .list ((rU p).map fr)
  uo : ∀ q ∈ rU p, okStep (lenS (rS p).2) q = true
  ul : (rU p).length ≤ 14
structure RightOk2 (p : Pot) : Prop extends RightOk p where
  ok : ∀ x ∈ valsR p ++ runL (bentF p) (rW p).1 (List.range (Int.toNat 8)), OkW x
  e : PotOk (rightP p)
theorem two_ok {p b : Pot} (B : RightOk p) (hb : PotOk b) : (∀ q ∈ ([(rW p).2.1, rU p] : List (List Fr)).getD (draw dc b 2).2.toNat [], okStep (lenS (rS p).2) q = true) ∧ (([(rW p).2.1, rU p] : List (List Fr)).getD (draw dc b 2).2.toNat []).length ≤ 40 := by
  obtain ⟨d1, d2, d3⟩ := draw_ok dc_ok hb (n := 2) (by decide)
  have m := getD_mem (xs := ([(rW p).2.1, rU p] : List (List Fr))) [] d2 (by show _ < 2; exact d3)
  have wl := B.wl
  have ul := B.ul
  simp only [List.mem_cons, List.not_mem_nil, or_false] at m
  rcases m with m | m
  · rw [m]
    exact ⟨B.wo, by omega⟩
  · rw [m]
    exact ⟨B.uo, by omega⟩
theorem bentF_ok {p b : Pot} {x : Nat} (B : RightOk p) (hb : PotOk b) : PotOk (bentF p b x).1 ∧ OkW (bentF p b x).2 := by
  have t := two_ok B hb
  have q := bentW_ok dc_ok (draw_ok dc_ok hb (n := 2) (by decide)).1 B.S.ok t.1 t.2
  exact ⟨q.e, q.ok⟩
theorem long_eq : long = ((List.replicate (Int.toNat 300) [((0 : Int), (1 : Int)), (0, -1)]).flatten).map fr := by
  unfold long
  rw [List.map_flatten, List.map_replicate]
  rfl
theorem frs_okW {w : List Fr} (h : ∀ p ∈ w, Bits 64 p.1 ∧ Bits 64 p.2) (hl : w.length ≤ 640) : OkW (.list (w.map fr)) := by
  have n := nod_map (f := fr) (k := 3) (fun p => Nat.le_of_eq (nod_fr p)) w
  exact ⟨okel (okem fun p hp => fr_okE (h p hp)), by show 1 + nodA (w.map fr) ≤ 2000; omega⟩
theorem right_ok {p : Pot} (hp : PotOk p) : RightOk2 p := by
  obtain ⟨a1, a2, a3⟩ := draw_ok dc_ok hp (n := 2) (by decide)
  obtain ⟨b1, b2, b3⟩ := draw_ok dc_ok (p := (rA p).1) a1 (n := 5) (by decide)
  obtain ⟨c1, c2, c3⟩ := draw_ok dc_ok (p := (rB p).1) b1 (n := 9) (by decide)
  have a2' : 0 ≤ (rA p).2 := a2
  have a3' : (rA p).2 < 2 := a3
  have b2' : 0 ≤ (rB p).2 := b2
  have b3' : (rB p).2 < 5 := b3
  have c2' : 0 ≤ (rC p).2 := c2
  have c3' : (rC p).2 < 9 := c3
  obtain ⟨s1, s2, s3⟩ := svC_ok (wrong := 4) (dims := 1 + (rA p).2) (n := 2 + (rB p).2) (legs := 1 + (rC p).2) dc_ok (p := (rC p).1) c1 (by omega) (by omega) (by omega) (by omega) (by omega)
  obtain ⟨m1, m2, m3⟩ := draw_ok dc_ok (p := (rS p).1) s1 (n := 15) (by decide)
  have m2' : 0 ≤ (rM p).2 := m2
  have m3' : (rM p).2 < 15 := m3
  have W := walkE_ok dc_ok (p := (rM p).1) (s := (rS p).2) m1 (by have := (show SvOk (rS p).2 from s2).n1; omega) (rM p).2
  have wl : (rW p).2.1.length ≤ 14 := Nat.le_trans W.len (by omega)
  obtain ⟨u1, u2, u3⟩ := loopF_ok (rS p).2 (rW p).2.1
  have ul : (rU p).length ≤ 14 := Nat.le_trans u2 wl
  have wo : ∀ q ∈ (rW p).2.1, okStep (lenS (rS p).2) q = true := W.ok
  have uo : ∀ q ∈ rU p, okStep (lenS (rS p).2) q = true := fun q hq => wo q (u3 q hq)
  have S : SvTw (rS p).2 := ⟨s2, s3⟩
  have B : RightOk p := ⟨a1, a2, a3, b1, b2, b3, c1, c2, c3, s1, S, m1, m2, m3, W.pot, wo, wl, u1, uo, ul⟩
  obtain ⟨e1, e2⟩ := runL_all (f := bentF p) (I := PotOk) (Q := OkW) (fun b x hb => bentF_ok B hb) (List.range (Int.toNat 8)) (rW p).1 W.pot
  have sw := steps_smE s2 wo
  have su := steps_smE s2 uo
  have ao : ∀ q ∈ aboutF (rW p).2.1, okStep (lenS (rS p).2) q = true := fun q hq => by
    obtain ⟨y, hy, rfl⟩ := List.mem_map.mp hq
    obtain ⟨z1, z2, z3⟩ := step_in (wo y (List.mem_reverse.mp hy))
    refine decide_eq_true ⟨z1, z2, ?_⟩
    show 0 - y.2 = 1 ∨ 0 - y.2 = -1
    omega
  have sa := steps_smE s2 ao
  have lb : ∀ q ∈ (List.replicate (Int.toNat 300) [((0 : Int), (1 : Int)), (0, -1)]).flatten, Bits 64 q.1 ∧ Bits 64 q.2 := fun q hq => by
    obtain ⟨l, hl, hq⟩ := List.mem_flatten.mp hq
    rw [List.eq_of_mem_replicate hl] at hq
    simp only [List.mem_cons, List.not_mem_nil, or_false] at hq
    rcases hq with rfl | rfl
    · exact ⟨bits64 (by decide), bits64 (by decide)⟩
    · exact ⟨bits64 (by decide), bits64 (by decide)⟩
  have ll : ((List.replicate (Int.toNat 300) [((0 : Int), (1 : Int)), (0, -1)]).flatten).length = 600 := by simp
  refine ⟨B, fun x hx => ?_, e1⟩
  rcases List.mem_append.mp hx with hx | hx
  · rcases List.mem_append.mp hx with hx | hx
    · rcases List.mem_append.mp hx with hx | hx
      · simp only [List.mem_cons, List.not_mem_nil, or_false] at hx
        rcases hx with rfl | rfl | rfl | rfl | rfl
        · exact (walk_okW s2 wo (by omega)).1
        · exact (walk_okW s2 uo (by omega)).1
        · exact (walk_okW s2 uo (by omega)).2
        · exact (list_okW (fun y hy => (List.mem_append.mp hy).elim (su y) (su y)) (by rw [List.length_append, List.length_map]; omega)).1
        · exact (list_okW (fun y hy => (List.mem_append.mp hy).elim (sw y) (sa y)) (by rw [List.length_append, List.length_map, List.length_map, about_len]; omega)).1
      · rw [List.mem_singleton.mp hx, long_eq]
        exact frs_okW lb (by rw [ll]; decide)
    · rw [List.mem_singleton.mp hx, long_eq]
      have := frs_okW (w := (List.replicate (Int.toNat 300) [((0 : Int), (1 : Int)), (0, -1)]).flatten ++ [(0, 1)]) (fun q hq => by
        rcases List.mem_append.mp hq with hq | hq
        · exact lb q hq
        · rw [List.mem_singleton.mp hq]
          exact ⟨bits64 (by decide), bits64 (by decide)⟩) (by rw [List.length_append, ll]; decide)
      rw [List.map_append] at this
      exact this
  · exact e2 x hx

section
variable {P : Program} {w : World} {K : PySem.W.Frag} {mg : Str → Option Value} {base : Heap}

def R_is_integer (ds : List PyData) (d : PyData) : Prop := ∃ x, ds = [x] ∧ d = .bool (isName x "int" && !isName x "bool")
theorem ok_is_integer (T : Txt K mg) : FnG P w K mg base CX0 1 T.a_is_integer T.d_is_integer ["value"] (spOf K (pureS R_is_integer)) := by
  refine fn_pure T.F_is_integer sc_is_integer (by rintro _ _ ⟨x, rfl, _⟩; rfl) fun cdv A outer s H E room grd ds d hR => ?_
  obtain ⟨x, rfl, rfl⟩ := hR
  exact (
    (ss_one (s_ret (e_conv (e_and (e_isi1 (by rfl) T.n_isinstance (pe_bltn (by rfl) T.n_int (by decide +kernel) rfl) kit_int (e_var 0 rfl rfl (.inl rfl))) fun hw => (e_one (e_not (e_isi1 (by rfl) T.n_isinstance (pe_bltn (by rfl) T.n_bool (by decide +kernel) rfl) kit_bool (e_var 0 rfl rfl (.inl rfl)))))) rfl))))

def R_is_within (ds : List PyData) (d : PyData) : Prop := ∃ (x : PyData) (a b : Int), ds = [x, .int a, .int b] ∧ d = .bool (isWin x a b)
theorem ok_is_within (T : Txt K mg) : FnG P w K mg base CX0 2 T.a_is_within T.d_is_within ["value", "least", "most"] (spOf K (pureS R_is_within)) := by
  have G_is_integer := (ok_is_integer (P := P) (w := w) (base := base) T).mono (by decide : 1 ≤ 1)
  refine fn_pure T.F_is_within sc_is_within (by rintro _ _ ⟨_, _, _, rfl, _⟩; rfl) fun cdv A outer s H E room grd ds d hR => ?_
  obtain ⟨x, a, b, rfl, rfl⟩ := hR
  by_cases h : isI x = true
  · obtain ⟨i, rfl⟩ := int_of h
    exact (
    (ss_one (s_ret (e_conv (e_and (e_call G_is_integer room grd (by rfl) T.g_is_integer T.F_is_integer.kp T.b_is_integer (a_cons (e_var 0 rfl rfl (.inl rfl)) a_nil) (⟨_, rfl, rfl⟩)) fun hw => (e_one (e_chain c_le c_le (e_var 1 rfl rfl (.inl rfl)) (e_var 0 rfl rfl (.inl rfl)) (e_var 2 rfl rfl (.inl rfl))))) rfl))))
  · exact (
    (ss_one (s_ret (e_conv (e_and (u := false) (v := true) (e_convB (e_call G_is_integer room grd (by rfl) T.g_is_integer T.F_is_integer.kp T.b_is_integer (a_cons (e_var 0 rfl rfl (.inl rfl)) a_nil) (⟨_, rfl, rfl⟩)) (by have := Bool.eq_false_iff.mpr h; unfold isI at this; exact this)) (fun hd => nomatch hd)) (congrArg PyData.bool (isWin_no h).symm)))))

def R_is_list (ds : List PyData) (d : PyData) : Prop := ∃ x, ds = [x] ∧ d = .bool (isName x "list" || isName x "tuple")
theorem ok_is_list (T : Txt K mg) : FnG P w K mg base CX0 1 T.a_is_list T.d_is_list ["value"] (spOf K (pureS R_is_list)) := by
  refine fn_pure T.F_is_list sc_is_list (by rintro _ _ ⟨x, rfl, _⟩; rfl) fun cdv A outer s H E room grd ds d hR => ?_
  obtain ⟨x, rfl, rfl⟩ := hR
  exact (
    (ss_one (s_ret (e_conv (e_isi2 (by rfl) T.n_isinstance (pe_bltn (by rfl) T.n_list (by decide +kernel) rfl) (pe_bltn (by rfl) T.n_tuple (by decide +kernel) rfl) kit_list kit_tuple (e_var 0 rfl rfl (.inl rfl))) rfl))))

def R_is_tuple (ds : List PyData) (d : PyData) : Prop := ∃ (x : PyData) (n : Int), ds = [x, .int n] ∧ d = .bool (isTup x n)
theorem ok_is_tuple (T : Txt K mg) : FnG P w K mg base CX0 1 T.a_is_tuple T.d_is_tuple ["value", "many"] (spOf K (pureS R_is_tuple)) := by
  refine fn_pure T.F_is_tuple sc_is_tuple (by rintro _ _ ⟨x, n, rfl, _⟩; rfl) fun cdv A outer s H E room grd ds d hR => ?_
  obtain ⟨x, n, rfl, rfl⟩ := hR
  by_cases h : isName x "tuple" = true
  · obtain ⟨l, rfl⟩ := tuple_of h
    exact (
    (ss_one (s_ret (e_conv (e_and (e_isi1 (by rfl) T.n_isinstance (pe_bltn (by rfl) T.n_tuple (by decide +kernel) rfl) kit_tuple (e_var 0 rfl rfl (.inl rfl))) fun hw => (e_one (e_cm c_eqI (e_bi f_lenT (by rfl) T.n_len PySem.boot_len (a_cons (e_var 0 rfl rfl (.inl rfl)) a_nil)) (e_var 1 rfl rfl (.inl rfl)) (nomark _)))) rfl))))
  · exact (
    (ss_one (s_ret (e_conv (e_and (u := false) (v := true) (e_convB (e_isi1 (by rfl) T.n_isinstance (pe_bltn (by rfl) T.n_tuple (by decide +kernel) rfl) kit_tuple (e_var 0 rfl rfl (.inl rfl))) (by simp [h])) (fun hd => nomatch hd)) (congrArg PyData.bool (isTup_no h).symm)))))

def R_fraction (ds : List PyData) (d : PyData) : Prop := ∃ a b : Int, b ≠ 0 ∧ Bits 3000 b ∧ ds = [.int a, .int b] ∧ d = fr (mk a b)
theorem ok_fraction (T : Txt K mg) : FnG P w K mg base CX0 1 T.a_fraction T.d_fraction ["above", "below"] (spOf K (pureS R_fraction)) := by
  refine fn_pure T.F_fraction sc_fraction (by rintro _ _ ⟨a, b, _, _, rfl, _⟩; rfl) fun cdv A outer s H E room grd ds d hR => ?_
  obtain ⟨a, b, hb, hs, rfl, rfl⟩ := hR
  have g0 := gi_pos (a := a) hb
  have g1 := gi_bits (a := a) hb hs
  exact (
    (ss_cons (s_set 2 (e_bf f_gcd (by rfl) T.n_gcd (a_cons (e_var 0 rfl rfl (.inl rfl)) (a_cons (e_var 1 rfl rfl (.inl rfl)) a_nil))) sc_fraction.nd rfl (.inl rfl))
    (ss_split (t_cm c_lt (e_var 1 rfl rfl (.inl rfl)) e_int (nomark _))
    (fun h0 ch0 => (ss_cons (s_ifT ch0 (
      (ss_one (s_set 2 (e_sub e_int (e_var 2 rfl rfl (.inl rfl))) sc_fraction.nd rfl (.inl rfl)))))
      (ss_one (s_ret (e_conv (e_tup (a_cons (e_fdivX (by first | exact divX (n := 3000) (gi_ne2 (a := a) hb) (gi_bits2 (a := a) hb hs) (by decide) | exact divX (n := 3000) (gi_ne (a := a) hb) g1 (by decide)) (e_var 0 rfl rfl (.inl rfl)) (e_var 2 rfl rfl (.inl rfl))) (a_cons (e_fdivX (by first | exact divX (n := 3000) (gi_ne2 (a := a) hb) (gi_bits2 (a := a) hb hs) (by decide) | exact divX (n := 3000) (gi_ne (a := a) hb) g1 (by decide)) (e_var 1 rfl rfl (.inl rfl)) (e_var 2 rfl rfl (.inl rfl))) a_nil))) (by first | exact (mk_frT (of_decide_eq_true (by assumption))).symm | exact (mk_frF (of_decide_eq_false (by assumption))).symm))))))
    (fun h0 ch0 => (ss_cons (s_ifF ch0 (
      ss_nil))
      (ss_one (s_ret (e_conv (e_tup (a_cons (e_fdivX (by first | exact divX (n := 3000) (gi_ne2 (a := a) hb) (gi_bits2 (a := a) hb hs) (by decide) | exact divX (n := 3000) (gi_ne (a := a) hb) g1 (by decide)) (e_var 0 rfl rfl (.inl rfl)) (e_var 2 rfl rfl (.inl rfl))) (a_cons (e_fdivX (by first | exact divX (n := 3000) (gi_ne2 (a := a) hb) (gi_bits2 (a := a) hb hs) (by decide) | exact divX (n := 3000) (gi_ne (a := a) hb) g1 (by decide)) (e_var 1 rfl rfl (.inl rfl)) (e_var 2 rfl rfl (.inl rfl))) a_nil))) (by first | exact (mk_frT (of_decide_eq_true (by assumption))).symm | exact (mk_frF (of_decide_eq_false (by assumption))).symm)))))))))

def R_added (ds : List PyData) (d : PyData) : Prop := ∃ a b : Fr, Low a ∧ Low b ∧ Bd 1400 a ∧ Bd 1400 b ∧ ds = [fr a, fr b] ∧ d = fr (fPlus a b)
theorem ok_added (T : Txt K mg) : FnG P w K mg base CX0 2 T.a_added T.d_added ["a", "b"] (spOf K (pureS R_added)) := by
  have G_fraction := (ok_fraction (P := P) (w := w) (base := base) T).mono (by decide : 1 ≤ 1)
  refine fn_pure T.F_added sc_added (by rintro _ _ ⟨a, b, _, _, _, _, rfl, _⟩; rfl) fun cdv A outer s H E room grd ds d hR => ?_
  obtain ⟨a, b, la, lb, ba, bb, rfl, rfl⟩ := hR
  exact (
    (ss_one (s_ret (e_conv (e_call G_fraction room grd (by rfl) T.g_fraction T.F_fraction.kp T.b_fraction (a_cons (e_add (e_mul (by first | exact mulW ba.1 bb.2 (by decide) | exact mulW bb.1 ba.2 (by decide) | exact mulW ba.2 bb.2 (by decide) | exact mulW ba.1 bb.1 (by decide) | exact mulW ba.2 bb.1 (by decide)) (e_ixT (e_var 0 rfl rfl (.inl rfl)) e_int rfl) (e_ixT (e_var 1 rfl rfl (.inl rfl)) e_int rfl)) (e_mul (by first | exact mulW ba.1 bb.2 (by decide) | exact mulW bb.1 ba.2 (by decide) | exact mulW ba.2 bb.2 (by decide) | exact mulW ba.1 bb.1 (by decide) | exact mulW ba.2 bb.1 (by decide)) (e_ixT (e_var 1 rfl rfl (.inl rfl)) e_int rfl) (e_ixT (e_var 0 rfl rfl (.inl rfl)) e_int rfl))) (a_cons (e_mul (by first | exact mulW ba.1 bb.2 (by decide) | exact mulW bb.1 ba.2 (by decide) | exact mulW ba.2 bb.2 (by decide) | exact mulW ba.1 bb.1 (by decide) | exact mulW ba.2 bb.1 (by decide)) (e_ixT (e_var 0 rfl rfl (.inl rfl)) e_int rfl) (e_ixT (e_var 1 rfl rfl (.inl rfl)) e_int rfl)) a_nil)) (⟨_, _, mul_ne la.ne lb.ne, bits_up (mul_bits ba.2 bb.2) (by decide), rfl, rfl⟩)) rfl))))

def R_contrary (ds : List PyData) (d : PyData) : Prop := ∃ p : Fr, ds = [fr p] ∧ d = fr (0 - p.1, p.2)
theorem ok_contrary (T : Txt K mg) : FnG P w K mg base CX0 1 T.a_contrary T.d_contrary ["a"] (spOf K (pureS R_contrary)) := by
  refine fn_pure T.F_contrary sc_contrary (by rintro _ _ ⟨_, rfl, _⟩; rfl) fun cdv A outer s H E room grd ds d hR => ?_
  obtain ⟨p, rfl, rfl⟩ := hR
  exact (
    (ss_one (s_ret (e_conv (e_tup (a_cons (e_sub e_int (e_ixT (e_var 0 rfl rfl (.inl rfl)) e_int rfl)) (a_cons (e_ixT (e_var 0 rfl rfl (.inl rfl)) e_int rfl) a_nil))) rfl))))

def R_is_fraction (ds : List PyData) (d : PyData) : Prop := ∃ x, ds = [x] ∧ d = .bool (isFr x)
theorem ok_is_fraction (T : Txt K mg) : FnG P w K mg base CX0 2 T.a_is_fraction T.d_is_fraction ["value"] (spOf K (pureS R_is_fraction)) := by
  have G_is_integer := (ok_is_integer (P := P) (w := w) (base := base) T).mono (by decide : 1 ≤ 1)
  refine fn_pure T.F_is_fraction sc_is_fraction (by rintro _ _ ⟨x, rfl, _⟩; rfl) fun cdv A outer s H E room grd ds d hR => ?_
  obtain ⟨x, rfl, rfl⟩ := hR
  by_cases h : isName x "tuple" = true
  · obtain ⟨l, rfl⟩ := tuple_of h
    by_cases hl : l.length = 2
    · obtain ⟨a, b, rfl⟩ := two_of hl
      by_cases ha : isI a = true
      · obtain ⟨i, rfl⟩ := int_of ha
        by_cases hb : isI b = true
        · obtain ⟨j, rfl⟩ := int_of hb
          exact (
    (ss_cons (s_ifF (t_conv (t_w (w_or (t_not (t_val (e_isi1 (by rfl) T.n_isinstance (pe_bltn (by rfl) T.n_tuple (by decide +kernel) rfl) kit_tuple (e_var 0 rfl rfl (.inl rfl))))) fun hw => (w_or (t_cm c_neI (e_bi f_lenT (by rfl) T.n_len PySem.boot_len (a_cons (e_var 0 rfl rfl (.inl rfl)) a_nil)) e_int (nomark _)) fun hw => (w_or (t_not (t_val (e_call G_is_integer room grd (by rfl) T.g_is_integer T.F_is_integer.kp T.b_is_integer (a_cons (e_ixT (e_var 0 rfl rfl (.inl rfl)) e_int rfl) a_nil) (⟨_, rfl, rfl⟩)))) fun hw => (w_or1 (t_not (t_val (e_call G_is_integer room grd (by rfl) T.g_is_integer T.F_is_integer.kp T.b_is_integer (a_cons (e_ixT (e_var 0 rfl rfl (.inl rfl)) e_int rfl) a_nil) (⟨_, rfl, rfl⟩))))))))) rfl) (
      ss_nil))
    (ss_one (s_ret (e_conv (e_and (e_cm c_ge (e_ixT (e_var 0 rfl rfl (.inl rfl)) e_int rfl) e_int (nomark _)) fun hw => (e_one (e_cm c_eqI (e_bf f_gcd (by rfl) T.n_gcd (a_cons (e_ixT (e_var 0 rfl rfl (.inl rfl)) e_int rfl) (a_cons (e_ixT (e_var 0 rfl rfl (.inl rfl)) e_int rfl) a_nil))) e_int (nomark _)))) rfl)))))
        · exact (
    (ss_stop (s_ifT (t_conv (t_w (w_or (t_not (t_val (e_isi1 (by rfl) T.n_isinstance (pe_bltn (by rfl) T.n_tuple (by decide +kernel) rfl) kit_tuple (e_var 0 rfl rfl (.inl rfl))))) fun hw => (w_or (t_cm c_neI (e_bi f_lenT (by rfl) T.n_len PySem.boot_len (a_cons (e_var 0 rfl rfl (.inl rfl)) a_nil)) e_int (nomark _)) fun hw => (w_or (t_not (t_val (e_call G_is_integer room grd (by rfl) T.g_is_integer T.F_is_integer.kp T.b_is_integer (a_cons (e_ixT (e_var 0 rfl rfl (.inl rfl)) e_int rfl) a_nil) (⟨_, rfl, rfl⟩)))) fun hw => (w_or1 (t_not (t_val (e_call G_is_integer room grd (by rfl) T.g_is_integer T.F_is_integer.kp T.b_is_integer (a_cons (e_ixT (e_var 0 rfl rfl (.inl rfl)) e_int rfl) a_nil) (⟨_, rfl, rfl⟩))))))))) (by first | rfl | (have := Bool.eq_false_iff.mpr hb; unfold isI at this; rw [this]; rfl))) (
      (ss_one (s_ret (e_conv e_bl (congrArg PyData.bool (isFr_b hb).symm))))))))
      · exact (
    (ss_stop (s_ifT (t_conv (t_w (w_or (t_not (t_val (e_isi1 (by rfl) T.n_isinstance (pe_bltn (by rfl) T.n_tuple (by decide +kernel) rfl) kit_tuple (e_var 0 rfl rfl (.inl rfl))))) fun hw => (w_or (t_cm c_neI (e_bi f_lenT (by rfl) T.n_len PySem.boot_len (a_cons (e_var 0 rfl rfl (.inl rfl)) a_nil)) e_int (nomark _)) fun hw => (w_or (u := true) (v := false) (t_conv (t_not (t_val (e_call G_is_integer room grd (by rfl) T.g_is_integer T.F_is_integer.kp T.b_is_integer (a_cons (e_ixT (e_var 0 rfl rfl (.inl rfl)) e_int rfl) a_nil) (⟨_, rfl, rfl⟩)))) (by first | rfl | (have := Bool.eq_false_iff.mpr ha; unfold isI at this; rw [this]; rfl))) (fun hd => nomatch hd))))) (by first | rfl | (have := Bool.eq_false_iff.mpr ha; unfold isI at this; rw [this]; rfl))) (
      (ss_one (s_ret (e_conv e_bl (congrArg PyData.bool (isFr_a ha).symm))))))))
    · exact (
    (ss_stop (s_ifT (t_conv (t_w (w_or (t_not (t_val (e_isi1 (by rfl) T.n_isinstance (pe_bltn (by rfl) T.n_tuple (by decide +kernel) rfl) kit_tuple (e_var 0 rfl rfl (.inl rfl))))) fun hw => (w_or (u := true) (v := false) (t_conv (t_cm c_neI (e_bi f_lenT (by rfl) T.n_len PySem.boot_len (a_cons (e_var 0 rfl rfl (.inl rfl)) a_nil)) e_int (nomark _)) (by first | (simp; done) | (simp; omega))) (fun hd => nomatch hd)))) (by first | (simp; done) | (simp; omega))) (
      (ss_one (s_ret (e_conv e_bl (congrArg PyData.bool (isFr_len hl).symm))))))))
  · exact (
    (ss_stop (s_ifT (t_conv (t_w (w_or (u := true) (v := false) (t_conv (t_not (t_val (e_isi1 (by rfl) T.n_isinstance (pe_bltn (by rfl) T.n_tuple (by decide +kernel) rfl) kit_tuple (e_var 0 rfl rfl (.inl rfl))))) (by simp [h])) (fun hd => nomatch hd))) (by simp [h])) (
      (ss_one (s_ret (e_conv e_bl (congrArg PyData.bool (isFr_no h).symm))))))))

def R_is_short (ds : List PyData) (d : PyData) : Prop := ∃ p : Fr, Short p ∧ ds = [fr p] ∧ d = .bool true
theorem ok_is_short (T : Txt K mg) : FnG P w K mg base CX0 3 T.a_is_short T.d_is_short ["value"] (spOf K (pureS R_is_short)) := by
  have G_is_fraction := (ok_is_fraction (P := P) (w := w) (base := base) T).mono (by decide : 2 ≤ 2)
  refine fn_pure T.F_is_short sc_is_short (by rintro _ _ ⟨p, _, rfl, _⟩; rfl) fun cdv A outer s H E room grd ds d hR => ?_
  obtain ⟨p, hp, rfl, rfl⟩ := hR
  exact (
    (ss_one (s_ret (e_conv (e_and (e_call G_is_fraction room grd (by rfl) T.g_is_fraction T.F_is_fraction.kp T.b_is_fraction (a_cons (e_var 0 rfl rfl (.inl rfl)) a_nil) (⟨_, rfl, rfl⟩)) fun hw => (e_and (e_cm c_lt (e_bi f_abs (by rfl) T.n_abs (by decide +kernel) (a_cons (e_ixT (e_var 0 rfl rfl (.inl rfl)) e_int rfl) a_nil)) (e_const T.c_MOST_SHORT (by rfl)) (nomark _)) fun hw => (e_one (e_cm c_le (e_ixT (e_var 0 rfl rfl (.inl rfl)) e_int rfl) (e_const T.c_MOST_BELOW (by rfl)) (nomark _))))) (short_eq hp)))))

def R_nought (ds : List PyData) (d : PyData) : Prop := ∃ n : Int, 1 ≤ n ∧ n ≤ 3 ∧ ds = [.int n] ∧ d = vec (List.replicate n.toNat (0, 1))
theorem ok_nought (T : Txt K mg) : FnG P w K mg base CX0 1 T.a_nought T.d_nought ["dims"] (spOf K (pureS R_nought)) := by
  refine fn_pure T.F_nought sc_nought (by rintro _ _ ⟨n, _, _, rfl, _⟩; rfl) fun cdv A outer s H E room grd ds d hR => ?_
  obtain ⟨n, h1, h2, rfl, rfl⟩ := hR
  exact (
    (ss_one (s_ret (e_conv (e_repTn (e_tup (a_cons (e_const T.c_NOUGHT (by rfl)) a_nil)) (e_var 0 rfl rfl (.inl rfl)) h1 (by omega) (fun z => nomatch z) (by decide) (rep_vec _)) rfl))))

def R_joined (ds : List PyData) (d : PyData) : Prop := ∃ a b : List Fr, Few a ∧ Few b ∧ ds = [vec a, vec b] ∧ d = vec (vPlus a b)
theorem ok_joined (T : Txt K mg) : FnG P w K mg base CX0 3 T.a_joined T.d_joined ["a", "b"] (spOf K (pureS R_joined)) := by
  have G_added := (ok_added (P := P) (w := w) (base := base) T).mono (by decide : 2 ≤ 2)
  refine fn_pure T.F_joined sc_joined (by rintro _ _ ⟨a, b, _, _, rfl, _⟩; rfl) fun cdv A outer s H E room grd ds d hR => ?_
  obtain ⟨a, b, ⟨ha, pa⟩, ⟨hb, pb⟩, rfl, rfl⟩ := hR
  exact (
    (ss_one (s_ret (e_conv (e_conv (e_bt f_tupL (by rfl) T.n_tuple (by decide +kernel) (a_cons (e_lc (own := [("one", 2), ("other", 3)]) rfl sc_joined.nd (i_zipT (by rfl) T.n_zip (a_cons (e_var 0 rfl rfl (.inl rfl)) (a_cons (e_var 1 rfl rfl (.inl rfl)) a_nil))) (blkOk_by (N := ["a", "b", "one", "other"]) (sc := defScope s_joined) (by decide +kernel)) rfl (lc_pair fr fr (fun p => fr (fPlus p.1 p.2)) a b (fun x hx => ⟨_, _, _, (fun _ _ _ _ _ => (g_tup rfl (gs_cons (g_name 2 sc_joined.nd rfl (.inl rfl)) (gs_cons (g_name 3 sc_joined.nd rfl (.inl rfl)) gs_nil)))), (fun _ _ _ _ _ => ts_nil), (fun _ _ _ _ _ => (e_call G_added room grd (by rfl) T.g_added T.F_added.kp T.b_added (a_cons (e_var 2 rfl rfl (.inl rfl)) (a_cons (e_var 3 rfl rfl (.inl rfl)) a_nil)) (⟨x.1, x.2, (pa _ (mem_zip hx).1).1, (pb _ (mem_zip hx).2).1, (pa _ (mem_zip hx).1).2.up (by decide), (pb _ (mem_zip hx).2).2.up (by decide), rfl, rfl⟩))), rfl⟩)) (len_pair ha)) a_nil)) rfl) (vec_zip (f := fPlus))))))

def R_against (ds : List PyData) (d : PyData) : Prop := ∃ v : List Fr, v.length ≤ 3 ∧ ds = [vec v] ∧ d = vec (vNeg v)
theorem ok_against (T : Txt K mg) : FnG P w K mg base CX0 2 T.a_against T.d_against ["a"] (spOf K (pureS R_against)) := by
  have G_contrary := (ok_contrary (P := P) (w := w) (base := base) T).mono (by decide : 1 ≤ 1)
  refine fn_pure T.F_against sc_against (by rintro _ _ ⟨_, _, rfl, _⟩; rfl) fun cdv A outer s H E room grd ds d hR => ?_
  obtain ⟨v, h, rfl, rfl⟩ := hR
  exact (
    (ss_one (s_ret (e_conv (e_conv (e_bt f_tupL (by rfl) T.n_tuple (by decide +kernel) (a_cons (e_lc (own := [("one", 1)]) rfl sc_against.nd (i_tup (e_var 0 rfl rfl (.inl rfl))) (blkOk_by (N := ["a", "one"]) (sc := defScope s_against) (by decide +kernel)) rfl (lc_map fr (fun p => fr (0 - p.1, p.2)) v (fun x hx => ⟨_, _, _, (fun _ _ _ _ _ => (g_name 1 sc_against.nd rfl (.inl rfl))), (fun _ _ _ _ _ => ts_nil), (fun _ _ _ _ _ => (e_call G_contrary room grd (by rfl) T.g_contrary T.F_contrary.kp T.b_contrary (a_cons (e_var 1 rfl rfl (.inl rfl)) a_nil) (⟨x, rfl, rfl⟩))), rfl⟩)) (len_map (by omega))) a_nil)) rfl) (vec_map (f := fun p : Fr => (0 - p.1, p.2)))))))

def R_gathered (ds : List PyData) (d : PyData) : Prop := ∃ (l : List (List Fr)) (n : Int), 1 ≤ n ∧ n ≤ 3 ∧ l.length ≤ 600 ∧ (∀ v ∈ l, v.length = n.toNat ∧ ∀ x ∈ v, Tw 36 x) ∧ ds = [.list (l.map vec), .int n] ∧ d = vec (l.foldl vPlus (vZero n))
theorem ok_gathered (T : Txt K mg) : FnG P w K mg base CX0 4 T.a_gathered T.d_gathered ["vectors", "dims"] (spOf K (pureS R_gathered)) := by
  have G_nought := (ok_nought (P := P) (w := w) (base := base) T).mono (by decide : 1 ≤ 3)
  have G_joined := (ok_joined (P := P) (w := w) (base := base) T).mono (by decide : 3 ≤ 3)
  refine fn_pure T.F_gathered sc_gathered (by rintro _ _ ⟨_, _, _, _, _, _, rfl, _⟩; rfl) fun cdv A outer s H E room grd ds d hR => ?_
  obtain ⟨l, n, h1, h3, hl, hv, rfl, rfl⟩ := hR
  exact (
    (ss_cons (s_set 2 (e_call G_nought room grd (by rfl) T.g_nought T.F_nought.kp T.b_nought (a_cons (e_var 1 rfl rfl (.inl rfl)) a_nil) (⟨n, h1, h3, rfl, (rfl : vec (vZero n) = _)⟩)) sc_gathered.nd rfl (.inl rfl))
    (ss_cons (s_forF [3] (i_list (e_var 0 rfl rfl (.inl rfl))) (forD_fold [3] vec vPlus (fun s => [some (.dat (.list (l.map vec))), some (.dat (.int n)), some (.dat (vec s)), none]) (fun r s => ∃ k : Int, 0 ≤ k ∧ s.length = n.toNat ∧ (∀ x ∈ s, Tw k x) ∧ (∀ v ∈ r, v.length = n.toNat ∧ ∀ x ∈ v, Tw 36 x) ∧ k + 36 * r.length ≤ 36000) l (vZero n) (fun x r s ⟨k, k0, q1, q2, q3, q4⟩ => have m := q3 x List.mem_cons_self; ⟨_, _, (g_name 3 sc_gathered.nd rfl (.inl rfl)),         (ss_one (s_set 2 (e_call G_joined room grd (by rfl) T.g_joined T.F_joined.kp T.b_joined (a_cons (e_var 2 rfl rfl (.inl rfl)) (a_cons (e_var 3 rfl rfl (.inl rfl)) a_nil)) (⟨s, x, few_tw (by omega) q2 k0 (by omega), few_tw (k := 36) (by rw [m.1]; omega) m.2 (by decide) (by decide), rfl, rfl⟩)) sc_gathered.nd rfl (.inl rfl))), rfl, ⟨k + 36, by omega, vPlus_len q1 m.1, vPlus_tw q2 m.2, fun v hv => q3 v (List.mem_cons_of_mem _ hv), by rw [List.length_cons] at q4; omega⟩⟩) ⟨0, Int.le_refl 0, List.length_replicate .., vZero_tw n, hv, by omega⟩) PassesOwn.never rfl)
    (ss_one (s_ret (e_conv (e_var 2 rfl rfl (.inl rfl)) rfl))))))

def R_is_short_vector (ds : List PyData) (d : PyData) : Prop := ∃ (v : List Fr) (n : Int), (v.length : Int) = n ∧ (∀ p ∈ v, Short p) ∧ v.length ≤ 3 ∧ ds = [vec v, .int n] ∧ d = .bool true
theorem ok_is_short_vector (T : Txt K mg) : FnG P w K mg base CX0 4 T.a_is_short_vector T.d_is_short_vector ["value", "dims"] (spOf K (pureS R_is_short_vector)) := by
  have G_is_short := (ok_is_short (P := P) (w := w) (base := base) T).mono (by decide : 3 ≤ 3)
  refine fn_pure T.F_is_short_vector sc_is_short_vector (by rintro _ _ ⟨v, n, _, _, _, rfl, _⟩; rfl) fun cdv A outer s H E room grd ds d hR => ?_
  obtain ⟨v, n, hn, hp, hl, rfl, rfl⟩ := hR
  exact (
    (ss_one (s_ret (e_conv (e_and (e_isi1 (by rfl) T.n_isinstance (pe_bltn (by rfl) T.n_tuple (by decide +kernel) rfl) kit_tuple (e_var 0 rfl rfl (.inl rfl))) fun hw => (e_and (e_cm c_eqI (e_bi f_lenT (by rfl) T.n_len PySem.boot_len (a_cons (e_var 0 rfl rfl (.inl rfl)) a_nil)) (e_var 1 rfl rfl (.inl rfl)) (nomark _)) fun hw => (e_one (e_bi (f_all rfl (map_true v)) (by rfl) T.n_all (by decide +kernel) (a_cons (e_lc (own := [("one", 2)]) rfl sc_is_short_vector.nd (i_tup (e_var 0 rfl rfl (.inl rfl))) (blkOk_by (N := ["value", "dims", "one"]) (sc := defScope s_is_short_vector) (by decide +kernel)) rfl (lc_map fr (fun _ => .bool true) v (fun x hx => ⟨_, _, _, (fun _ _ _ _ _ => (g_name 2 sc_is_short_vector.nd rfl (.inl rfl))), (fun _ _ _ _ _ => ts_nil), (fun _ _ _ _ _ => (e_call G_is_short room grd (by rfl) T.g_is_short T.F_is_short.kp T.b_is_short (a_cons (e_var 2 rfl rfl (.inl rfl)) a_nil) (⟨x, hp x hx, rfl, rfl⟩))), rfl⟩)) (len_map (by omega))) a_nil))))) (by rw [all_true, List.length_map, decide_eq_true hn]; rfl)))))

def R_is_leg_value (ds : List PyData) (d : PyData) : Prop := ∃ (g : Leg) (dims n : Int), LegOk dims n g ∧ 1 ≤ dims ∧ dims ≤ 3 ∧ ds = [encLeg g, .int dims, .int n] ∧ d = .bool true
theorem ok_is_leg_value (T : Txt K mg) : FnG P w K mg base CX0 5 T.a_is_leg_value T.d_is_leg_value ["value", "dims", "stations"] (spOf K (pureS R_is_leg_value)) := by
  have G_is_short := (ok_is_short (P := P) (w := w) (base := base) T).mono (by decide : 3 ≤ 4)
  have G_is_tuple := (ok_is_tuple (P := P) (w := w) (base := base) T).mono (by decide : 1 ≤ 4)
  have G_is_within := (ok_is_within (P := P) (w := w) (base := base) T).mono (by decide : 2 ≤ 4)
  have G_is_short_vector := (ok_is_short_vector (P := P) (w := w) (base := base) T).mono (by decide : 4 ≤ 4)
  refine fn_pure T.F_is_leg_value sc_is_leg_value (by rintro _ _ ⟨g, dims, n, _, _, _, rfl, _⟩; rfl) fun cdv A outer s H E room grd ds d hR => ?_
  obtain ⟨g, dims, n, G, d1, d3, rfl, rfl⟩ := hR
  have lv := G.lv
  have ls := G.ls
  exact (
    (ss_cons (s_ifF (t_conv (t_w (w_or (t_not (t_val (e_call G_is_tuple room grd (by rfl) T.g_is_tuple T.F_is_tuple.kp T.b_is_tuple (a_cons (e_var 0 rfl rfl (.inl rfl)) (a_cons e_int a_nil)) (⟨encLeg g, 6, rfl, rfl⟩)))) fun hw => (w_or1 (t_not (t_val (e_call G_is_within room grd (by rfl) T.g_is_within T.F_is_within.kp T.b_is_within (a_cons (e_ixT (e_var 0 rfl rfl (.inl rfl)) e_int rfl) (a_cons e_int (a_cons (e_const T.c_MOST_PARTY (by rfl)) a_nil))) (⟨_, 0, 5, rfl, rfl⟩))))))) (by rw [isWin_in G.p0 G.p5]; rfl)) (
      ss_nil))
    (ss_cons (s_ifF (t_conv (t_w (w_or (t_not (t_val (e_bi (f_all rfl (mapB (f := fun i : Int => decide (0 ≤ i) && decide (i ≤ n - 1)) [g.a, g.b])) (by rfl) T.n_all (by decide +kernel) (a_cons (e_lc (own := [("one", 3)]) rfl sc_is_leg_value.nd (i_tup (e_slT (e_var 0 rfl rfl (.inl rfl)) (o_some e_int) (o_some e_int))) (blkOk_by (N := ["value", "dims", "stations", "one"]) (sc := defScope s_is_leg_value) (by decide +kernel)) rfl (lc_map PyData.int (fun i => .bool (decide (0 ≤ i) && decide (i ≤ n - 1))) [g.a, g.b] (fun x hx => ⟨_, _, _, (fun _ _ _ _ _ => (g_name 3 sc_is_leg_value.nd rfl (.inl rfl))), (fun _ _ _ _ _ => ts_nil), (fun _ _ _ _ _ => (e_call G_is_within room grd (by rfl) T.g_is_within T.F_is_within.kp T.b_is_within (a_cons (e_var 3 rfl rfl (.inl rfl)) (a_cons e_int (a_cons (e_sub (e_var 2 rfl rfl (.inr (.inl rfl))) e_int) a_nil))) (⟨_, 0, n - 1, rfl, rfl⟩))), rfl⟩)) (Nat.le_of_ble_eq_true rfl)) a_nil)))) fun hw => (w_or1 (t_cm c_eqI (e_ixT (e_var 0 rfl rfl (.inl rfl)) e_int rfl) (e_ixT (e_var 0 rfl rfl (.inl rfl)) e_int rfl) (nomark _))))) (by rw [decide_eq_false G.ab]; simp [G.a0, G.a1, G.b0, G.b1])) (
      ss_nil))
    (ss_cons (s_ifF (t_conv (t_w (w_or (t_not (t_val (e_call G_is_short_vector room grd (by rfl) T.g_is_short_vector T.F_is_short_vector.kp T.b_is_short_vector (a_cons (e_ixT (e_var 0 rfl rfl (.inl rfl)) e_int rfl) (a_cons (e_var 1 rfl rfl (.inl rfl)) a_nil)) (⟨g.v, dims, (by omega), G.v, (by omega), rfl, rfl⟩)))) fun hw => (w_or1 (t_not (t_val (e_call G_is_short_vector room grd (by rfl) T.g_is_short_vector T.F_is_short_vector.kp T.b_is_short_vector (a_cons (e_ixT (e_var 0 rfl rfl (.inl rfl)) e_int rfl) (a_cons (e_var 1 rfl rfl (.inl rfl)) a_nil)) (⟨g.sl, dims, (by omega), fun p hp => (G.s p hp).1, (by omega), rfl, rfl⟩))))))) rfl) (
      ss_nil))
    (ss_one (s_ret (e_conv (e_and (e_bi (f_all rfl (mapB (f := fun p : Fr => decide (0 ≤ p.1)) g.sl)) (by rfl) T.n_all (by decide +kernel) (a_cons (e_lc (own := [("one", 3)]) rfl sc_is_leg_value.nd (i_tup (e_ixT (e_var 0 rfl rfl (.inl rfl)) e_int rfl)) (blkOk_by (N := ["value", "dims", "stations", "one"]) (sc := defScope s_is_leg_value) (by decide +kernel)) rfl (lc_map fr (fun p => .bool (decide (0 ≤ p.1))) g.sl (fun x hx => ⟨_, _, _, (fun _ _ _ _ _ => (g_name 3 sc_is_leg_value.nd rfl (.inl rfl))), (fun _ _ _ _ _ => ts_nil), (fun _ _ _ _ _ => (e_cm c_ge (e_ixT (e_var 3 rfl rfl (.inl rfl)) e_int rfl) e_int (nomark _))), rfl⟩)) (len_map (by omega))) a_nil)) fun hw => (e_and (e_call G_is_short room grd (by rfl) T.g_is_short T.F_is_short.kp T.b_is_short (a_cons (e_ixT (e_var 0 rfl rfl (.inl rfl)) e_int rfl) a_nil) (⟨g.w, G.w.1, rfl, rfl⟩)) fun hw => (e_one (e_cm c_gt (e_ixT (e_ixT (e_var 0 rfl rfl (.inl rfl)) e_int rfl) e_int (by rfl)) e_int (nomark _))))) (by rw [all_of (fun p hp => decide_eq_true (G.s p hp).2), decide_eq_true G.w.2]; rfl))))))))

def R_is_survey_value (ds : List PyData) (d : PyData) : Prop := ∃ s : Sv, SvOk s ∧ ds = [encS s] ∧ d = .bool true
theorem ok_is_survey_value (T : Txt K mg) : FnG P w K mg base CX0 6 T.a_is_survey_value T.d_is_survey_value ["value"] (spOf K (pureS R_is_survey_value)) := by
  have G_is_tuple := (ok_is_tuple (P := P) (w := w) (base := base) T).mono (by decide : 1 ≤ 5)
  have G_is_within := (ok_is_within (P := P) (w := w) (base := base) T).mono (by decide : 2 ≤ 5)
  have G_is_leg_value := (ok_is_leg_value (P := P) (w := w) (base := base) T).mono (by decide : 5 ≤ 5)
  refine fn_pure T.F_is_survey_value sc_is_survey_value (by rintro _ _ ⟨s, _, rfl, _⟩; rfl) fun cdv A outer s H E room grd ds d hR => ?_
  obtain ⟨s, S, rfl, rfl⟩ := hR
  exact (
    (ss_cons (s_ifF (t_conv (t_w (w_or (t_not (t_val (e_call G_is_tuple room grd (by rfl) T.g_is_tuple T.F_is_tuple.kp T.b_is_tuple (a_cons (e_var 0 rfl rfl (.inr (.inl rfl))) (a_cons e_int a_nil)) (⟨encS s, 4, rfl, rfl⟩)))) fun hw => (w_or (t_not (t_val (e_isi1 (by rfl) T.n_isinstance (pe_bltn (by rfl) T.n_str (by decide +kernel) rfl) kit_str (e_ixT (e_var 0 rfl rfl (.inr (.inl rfl))) e_int rfl)))) fun hw => (w_or1 (t_cm c_neS (e_ixT (e_var 0 rfl rfl (.inr (.inl rfl))) e_int rfl) e_str (nomark _)))))) (by first | rfl | simp)) (
      ss_nil))
    (ss_cons (s_ifF (t_conv (t_w (w_or (t_not (t_val (e_call G_is_within room grd (by rfl) T.g_is_within T.F_is_within.kp T.b_is_within (a_cons (e_ixT (e_var 0 rfl rfl (.inr (.inl rfl))) e_int rfl) (a_cons e_int (a_cons (e_const T.c_MOST_DIMS (by rfl)) a_nil))) (⟨_, 1, 3, rfl, rfl⟩)))) fun hw => (w_or1 (t_not (t_val (e_call G_is_within room grd (by rfl) T.g_is_within T.F_is_within.kp T.b_is_within (a_cons (e_ixT (e_var 0 rfl rfl (.inr (.inl rfl))) e_int rfl) (a_cons e_int (a_cons (e_const T.c_MOST_STATIONS (by rfl)) a_nil))) (⟨_, 1, 24, rfl, rfl⟩))))))) (by rw [isWin_in S.d1 S.d3, isWin_in S.n1 S.n24]; rfl)) (
      ss_nil))
    (ss_cons (s_ifF (t_conv (t_w (w_or (t_not (t_val (e_isi1 (by rfl) T.n_isinstance (pe_bltn (by rfl) T.n_tuple (by decide +kernel) rfl) kit_tuple (e_ixT (e_var 0 rfl rfl (.inr (.inl rfl))) e_int rfl)))) fun hw => (w_or1 (t_cm c_gt (e_bi f_lenT (by rfl) T.n_len PySem.boot_len (a_cons (e_ixT (e_var 0 rfl rfl (.inr (.inl rfl))) e_int rfl) a_nil)) (e_const T.c_MOST_LEGS (by rfl)) (nomark _))))) (by rw [List.length_map, decide_eq_false (by have := S.l60; omega)]; rfl)) (
      ss_nil))
    (ss_one (s_ret (e_conv (e_bi (f_all rfl (map_true s.legs)) (by rfl) T.n_all (by decide +kernel) (a_cons (e_lc (own := [("one", 1)]) rfl sc_is_survey_value.nd (i_tup (e_ixT (e_var 0 rfl rfl (.inr (.inl rfl))) e_int rfl)) (blkOk_by (N := ["value", "one"]) (sc := defScope s_is_survey_value) (by decide +kernel)) rfl (lc_map encLeg (fun _ => .bool true) s.legs (fun x hx => ⟨_, _, _, (fun _ _ _ _ _ => (g_name 1 sc_is_survey_value.nd rfl (.inl rfl))), (fun _ _ _ _ _ => ts_nil), (fun _ _ _ _ _ => (e_call G_is_leg_value room grd (by rfl) T.g_is_leg_value T.F_is_leg_value.kp T.b_is_leg_value (a_cons (e_var 1 rfl rfl (.inl rfl)) (a_cons (e_ixT (e_var 0 rfl rfl (.inr (.inl rfl))) e_int rfl) (a_cons (e_ixT (e_var 0 rfl rfl (.inr (.inl rfl))) e_int rfl) a_nil))) (⟨x, s.dims, s.n, S.legs x hx, S.d1, S.d3, rfl, rfl⟩))), rfl⟩)) (len_map (by have := S.l60; omega))) a_nil)) (by rw [all_true]))))))))

def R_want_survey (ds : List PyData) (d : PyData) : Prop := ∃ s : Sv, SvOk s ∧ ds = [encS s] ∧ d = .none
theorem ok_want_survey (T : Txt K mg) : FnG P w K mg base CX0 7 T.a_want_survey T.d_want_survey ["survey"] (spOf K (pureS R_want_survey)) := by
  have G_is_survey_value := (ok_is_survey_value (P := P) (w := w) (base := base) T).mono (by decide : 6 ≤ 6)
  refine fn_fall T.F_want_survey sc_want_survey (by rintro _ _ ⟨s, _, rfl, _⟩; rfl) fun cdv A outer s H E room grd ds d hR => ?_
  obtain ⟨s, S, rfl, rfl⟩ := hR
  exact ⟨rfl, _, (
    (ss_cons (s_ifF (t_conv (t_not (t_val (e_call G_is_survey_value room grd (by rfl) T.g_is_survey_value T.F_is_survey_value.kp T.b_is_survey_value (a_cons (e_var 0 rfl rfl (.inl rfl)) a_nil) (⟨s, S, rfl, rfl⟩)))) rfl) ss_nil)
    ss_nil))⟩

def R_is_step (ds : List PyData) (d : PyData) : Prop := ∃ (s : Sv) (x : PyData), ds = [encS s, x] ∧ d = .bool (isStep (lenS s) x)
theorem ok_is_step (T : Txt K mg) : FnG P w K mg base CX0 3 T.a_is_step T.d_is_step ["survey", "value"] (spOf K (pureS R_is_step)) := by
  have G_is_within := (ok_is_within (P := P) (w := w) (base := base) T).mono (by decide : 2 ≤ 2)
  have G_is_tuple := (ok_is_tuple (P := P) (w := w) (base := base) T).mono (by decide : 1 ≤ 2)
  refine fn_pure T.F_is_step sc_is_step (by rintro _ _ ⟨_, _, rfl, _⟩; rfl) fun cdv A outer s H E room grd ds d hR => ?_
  obtain ⟨s, x, rfl, rfl⟩ := hR
  by_cases h : isTup x 2 = true
  · obtain ⟨a, b, rfl⟩ := isTup_two h
    by_cases hw : isWin a 0 (lenS s - 1) = true
    · obtain ⟨i, rfl⟩ := isWin_int hw
      by_cases hb : isI b = true
      · obtain ⟨j, rfl⟩ := int_of hb
        exact (
    (ss_cons (s_ifF (t_conv (t_w (w_or (t_not (t_val (e_call G_is_tuple room grd (by rfl) T.g_is_tuple T.F_is_tuple.kp T.b_is_tuple (a_cons (e_var 1 rfl rfl (.inl rfl)) (a_cons e_int a_nil)) (⟨_, 2, rfl, rfl⟩)))) fun hw => (w_or1 (t_not (t_val (e_call G_is_within room grd (by rfl) T.g_is_within T.F_is_within.kp T.b_is_within (a_cons (e_ixT (e_var 1 rfl rfl (.inl rfl)) e_int rfl) (a_cons e_int (a_cons (e_sub (e_bi f_lenT (by rfl) T.n_len PySem.boot_len (a_cons (e_ixT (e_var 0 rfl rfl (.inl rfl)) e_int rfl) a_nil)) e_int) a_nil))) (by first | exact ⟨_, 0, lenS s - 1, rfl, rfl⟩ | exact ⟨_, -1, 1, rfl, rfl⟩))))))) (by first | rfl | (rw [hw]; rfl))) (
      ss_nil))
    (ss_one (s_ret (e_conv (e_and (e_call G_is_within room grd (by rfl) T.g_is_within T.F_is_within.kp T.b_is_within (a_cons (e_ixT (e_var 1 rfl rfl (.inl rfl)) e_int rfl) (a_cons (e_neg e_int) (a_cons e_int a_nil))) (by first | exact ⟨_, 0, lenS s - 1, rfl, rfl⟩ | exact ⟨_, -1, 1, rfl, rfl⟩)) fun hw => (e_one (e_cm c_neI (e_ixT (e_var 1 rfl rfl (.inl rfl)) e_int rfl) e_int (nomark _)))) (congrArg PyData.bool (okStep_prog hw)))))))
      · exact (
    (ss_cons (s_ifF (t_conv (t_w (w_or (t_not (t_val (e_call G_is_tuple room grd (by rfl) T.g_is_tuple T.F_is_tuple.kp T.b_is_tuple (a_cons (e_var 1 rfl rfl (.inl rfl)) (a_cons e_int a_nil)) (⟨_, 2, rfl, rfl⟩)))) fun hw => (w_or1 (t_not (t_val (e_call G_is_within room grd (by rfl) T.g_is_within T.F_is_within.kp T.b_is_within (a_cons (e_ixT (e_var 1 rfl rfl (.inl rfl)) e_int rfl) (a_cons e_int (a_cons (e_sub (e_bi f_lenT (by rfl) T.n_len PySem.boot_len (a_cons (e_ixT (e_var 0 rfl rfl (.inl rfl)) e_int rfl) a_nil)) e_int) a_nil))) (by first | exact ⟨_, 0, lenS s - 1, rfl, rfl⟩ | exact ⟨_, -1, 1, rfl, rfl⟩))))))) (by first | rfl | (rw [hw]; rfl) | exact isWin_no hb)) (
      ss_nil))
    (ss_one (s_ret (e_conv (e_and (u := false) (v := true) (e_convB (e_call G_is_within room grd (by rfl) T.g_is_within T.F_is_within.kp T.b_is_within (a_cons (e_ixT (e_var 1 rfl rfl (.inl rfl)) e_int rfl) (a_cons (e_neg e_int) (a_cons e_int a_nil))) (by first | exact ⟨_, 0, lenS s - 1, rfl, rfl⟩ | exact ⟨_, -1, 1, rfl, rfl⟩)) (by first | rfl | (rw [hw]; rfl) | exact isWin_no hb)) (fun hd => nomatch hd)) (congrArg PyData.bool (isStep_b hb).symm))))))
    · exact (
    (ss_stop (s_ifT (t_conv (t_w (w_or (t_not (t_val (e_call G_is_tuple room grd (by rfl) T.g_is_tuple T.F_is_tuple.kp T.b_is_tuple (a_cons (e_var 1 rfl rfl (.inl rfl)) (a_cons e_int a_nil)) (⟨_, 2, rfl, rfl⟩)))) fun hw => (w_or1 (t_not (t_val (e_call G_is_within room grd (by rfl) T.g_is_within T.F_is_within.kp T.b_is_within (a_cons (e_ixT (e_var 1 rfl rfl (.inl rfl)) e_int rfl) (a_cons e_int (a_cons (e_sub (e_bi f_lenT (by rfl) T.n_len PySem.boot_len (a_cons (e_ixT (e_var 0 rfl rfl (.inl rfl)) e_int rfl) a_nil)) e_int) a_nil))) (⟨_, 0, lenS s - 1, rfl, rfl⟩))))))) (by rw [Bool.eq_false_iff.mpr hw]; exact Bool.or_true _)) (
      (ss_one (s_ret (e_conv e_bl (congrArg PyData.bool (isStep_win hw).symm))))))))
  · exact (
    (ss_stop (s_ifT (t_conv (t_w (w_or (u := true) (v := false) (t_conv (t_not (t_val (e_call G_is_tuple room grd (by rfl) T.g_is_tuple T.F_is_tuple.kp T.b_is_tuple (a_cons (e_var 1 rfl rfl (.inl rfl)) (a_cons e_int a_nil)) (⟨_, _, rfl, rfl⟩)))) (by first | (rw [Bool.eq_false_iff.mpr h]; rfl) | rfl)) (fun hd => nomatch hd))) (by first | (rw [Bool.eq_false_iff.mpr h]; rfl) | rfl)) (
      (ss_one (s_ret (e_conv e_bl (congrArg PyData.bool (isStep_tup h).symm))))))))

def R_step_ends (ds : List PyData) (d : PyData) : Prop := ∃ (s : Sv) (p : Fr), okStep (lenS s) p = true ∧ ds = [encS s, fr p] ∧ d = fr (endsF s p)
theorem ok_step_ends (T : Txt K mg) : FnG P w K mg base CX0 1 T.a_step_ends T.d_step_ends ["survey", "step"] (spOf K (pureS R_step_ends)) := by
  refine fn_pure T.F_step_ends sc_step_ends (by rintro _ _ ⟨_, _, _, rfl, _⟩; rfl) fun cdv A outer s H E room grd ds d hR => ?_
  obtain ⟨s, p, hp, rfl, rfl⟩ := hR
  exact (
    (ss_cons (s_set 2 (e_ixT (e_ixT (e_var 0 rfl rfl (.inl rfl)) e_int rfl) (e_ixT (e_var 1 rfl rfl (.inl rfl)) e_int rfl) (gAt_pick hp)) sc_step_ends.nd rfl (.inl rfl))
    (ss_one (s_ret (e_conv (e_ite (t_cm c_eqI (e_ixT (e_var 1 rfl rfl (.inl rfl)) e_int rfl) e_int (nomark _)) (fun hi => (e_tup (a_cons (e_ixT (e_var 2 rfl rfl (.inl rfl)) e_int rfl) (a_cons (e_ixT (e_var 2 rfl rfl (.inl rfl)) e_int rfl) a_nil)))) (fun hj => (e_tup (a_cons (e_ixT (e_var 2 rfl rfl (.inl rfl)) e_int rfl) (a_cons (e_ixT (e_var 2 rfl rfl (.inl rfl)) e_int rfl) a_nil))))) ends_eq)))))

def R_is_walk_of (ds : List PyData) (d : PyData) : Prop := ∃ (s : Sv) (x : PyData), ds = [encS s, x] ∧ d = .bool (isWalkV s x)
theorem ok_is_walk_of (T : Txt K mg) : FnG P w K mg base CX0 4 T.a_is_walk_of T.d_is_walk_of ["survey", "value"] (spOf K (pureS R_is_walk_of)) := by
  have G_step_ends := (ok_step_ends (P := P) (w := w) (base := base) T).mono (by decide : 1 ≤ 3)
  have G_is_list := (ok_is_list (P := P) (w := w) (base := base) T).mono (by decide : 1 ≤ 3)
  have G_is_step := (ok_is_step (P := P) (w := w) (base := base) T).mono (by decide : 3 ≤ 3)
  refine fn_pure T.F_is_walk_of sc_is_walk_of (by rintro _ _ ⟨_, _, rfl, _⟩; rfl) fun cdv A outer s H E room grd ds d hR => ?_
  obtain ⟨s, x, rfl, rfl⟩ := hR
  by_cases hl : isName x "list" = true
  · obtain ⟨l, rfl⟩ := list_of hl
    by_cases h6 : l.length ≤ 600
    · by_cases ha : (l.map (isStep (lenS s))).all id = true
      · obtain ⟨w, rfl, hw⟩ := steps_of ha
        have W : WalkOk s w := ⟨by rw [List.length_map] at h6; exact h6, hw⟩
        exact (
    (ss_cons (s_ifF (t_conv (t_w (w_or (t_not (t_val (e_call G_is_list room grd (by rfl) T.g_is_list T.F_is_list.kp T.b_is_list (a_cons (e_var 1 rfl rfl (.inl rfl)) a_nil) (⟨_, rfl, rfl⟩)))) fun hw => (w_or (t_cm c_gt (e_bi f_lenL (by rfl) T.n_len PySem.boot_len (a_cons (e_var 1 rfl rfl (.inl rfl)) a_nil)) (e_const T.c_MOST_WALK (by rfl)) (nomark _)) fun hw => (w_or1 (t_not (t_val (e_bi (f_all rfl (mapB (w.map fr))) (by rfl) T.n_all (by decide +kernel) (a_cons (e_lc (own := [("one", 3)]) rfl sc_is_walk_of.nd (i_list (e_var 1 rfl rfl (.inl rfl))) (blkOk_by (N := ["survey", "value", "ends", "one", "near", "far"]) (sc := defScope s_is_walk_of) (by decide +kernel)) rfl (lc_each (fun x => .bool (isStep (lenS s) x)) _ (fun x hx => ⟨_, _, _, (fun _ _ _ _ _ => (g_name 3 sc_is_walk_of.nd rfl (.inl rfl))), (fun _ _ _ _ _ => ts_nil), (fun _ _ _ _ _ => (e_call G_is_step room grd (by rfl) T.g_is_step T.F_is_step.kp T.b_is_step (a_cons (e_var 0 rfl rfl (.inr (.inl rfl))) (a_cons (e_var 3 rfl rfl (.inl rfl)) a_nil)) (⟨s, _, rfl, rfl⟩))), rfl⟩)) (by omega)) a_nil)))))))) (by rw [ha, decide_eq_false (by omega)]; rfl)) (
      ss_nil))
    (ss_cons (s_setLc 2 (own := [("one", 3)]) rfl sc_is_walk_of.nd rfl rfl (sw_true rfl rfl rfl (by decide +kernel)) (i_list (e_var 1 rfl rfl (.inl rfl))) (blkOk_by (N := ["survey", "value", "ends", "one", "near", "far"]) (sc := defScope s_is_walk_of) (by decide +kernel)) rfl (lc_map fr (fun p => fr (endsF s p)) w (fun x hx => ⟨_, _, _, (fun _ _ _ _ _ => (g_name 3 sc_is_walk_of.nd rfl (.inl rfl))), (fun _ _ _ _ _ => ts_nil), (fun _ _ _ _ _ => (e_call G_step_ends room grd (by rfl) T.g_step_ends T.F_step_ends.kp T.b_step_ends (a_cons (e_var 0 rfl rfl (.inr (.inl rfl))) (a_cons (e_var 3 rfl rfl (.inl rfl)) a_nil)) (⟨s, x, hw x hx, rfl, rfl⟩))), rfl⟩)) (len_walk W) (Nat.le_of_ble_eq_true rfl))
    (ss_one (s_ret (e_conv (e_bi (f_all rfl (mapB (f := fun q : Fr × Fr => decide ((endsF s q.1).2 = (endsF s q.2).1)) (w.zip (w.drop 1)))) (by rfl) T.n_all (by decide +kernel) (a_cons (e_lc (own := [("near", 4), ("far", 5)]) rfl sc_is_walk_of.nd (i_zipL (by rfl) T.n_zip (a_cons (e_var 2 rfl rfl (.inl rfl)) (a_cons (e_slLc (e_var 2 rfl rfl (.inl rfl)) (o_some e_int) o_none (cut_map1 _ w)) a_nil))) (blkOk_by (N := ["survey", "value", "ends", "one", "near", "far"]) (sc := defScope s_is_walk_of) (by decide +kernel)) rfl (lc_pair (fun p => fr (endsF s p)) (fun p => fr (endsF s p)) (fun q => .bool (decide ((endsF s q.1).2 = (endsF s q.2).1))) w (w.drop 1) (fun x hx => ⟨_, _, _, (fun _ _ _ _ _ => (g_tup rfl (gs_cons (g_name 4 sc_is_walk_of.nd rfl (.inl rfl)) (gs_cons (g_name 5 sc_is_walk_of.nd rfl (.inl rfl)) gs_nil)))), (fun _ _ _ _ _ => ts_nil), (fun _ _ _ _ _ => (e_cm c_eqI (e_ixT (e_var 4 rfl rfl (.inl rfl)) e_int rfl) (e_ixT (e_var 5 rfl rfl (.inl rfl)) e_int rfl) (nomark _))), rfl⟩)) (len_join W)) a_nil)) (congrArg PyData.bool (walkL_fr W).symm)))))))
      · exact (
    (ss_stop (s_ifT (t_conv (t_w (w_or (t_not (t_val (e_call G_is_list room grd (by rfl) T.g_is_list T.F_is_list.kp T.b_is_list (a_cons (e_var 1 rfl rfl (.inl rfl)) a_nil) (⟨_, rfl, rfl⟩)))) fun hw => (w_or (t_cm c_gt (e_bi f_lenL (by rfl) T.n_len PySem.boot_len (a_cons (e_var 1 rfl rfl (.inl rfl)) a_nil)) (e_const T.c_MOST_WALK (by rfl)) (nomark _)) fun hw => (w_or1 (t_not (t_val (e_bi (f_all rfl (mapB l)) (by rfl) T.n_all (by decide +kernel) (a_cons (e_lc (own := [("one", 3)]) rfl sc_is_walk_of.nd (i_list (e_var 1 rfl rfl (.inl rfl))) (blkOk_by (N := ["survey", "value", "ends", "one", "near", "far"]) (sc := defScope s_is_walk_of) (by decide +kernel)) rfl (lc_each (fun x => .bool (isStep (lenS s) x)) _ (fun x hx => ⟨_, _, _, (fun _ _ _ _ _ => (g_name 3 sc_is_walk_of.nd rfl (.inl rfl))), (fun _ _ _ _ _ => ts_nil), (fun _ _ _ _ _ => (e_call G_is_step room grd (by rfl) T.g_is_step T.F_is_step.kp T.b_is_step (a_cons (e_var 0 rfl rfl (.inr (.inl rfl))) (a_cons (e_var 3 rfl rfl (.inl rfl)) a_nil)) (⟨s, _, rfl, rfl⟩))), rfl⟩)) (by omega)) a_nil)))))))) (by rw [Bool.eq_false_iff.mpr ha]; simp)) (
      (ss_one (s_ret (e_conv e_bl (congrArg PyData.bool (walkL_odd ha).symm))))))))
    · exact (
    (ss_stop (s_ifT (t_conv (t_w (w_or (t_not (t_val (e_call G_is_list room grd (by rfl) T.g_is_list T.F_is_list.kp T.b_is_list (a_cons (e_var 1 rfl rfl (.inl rfl)) a_nil) (⟨_, rfl, rfl⟩)))) fun hw => (w_or (u := true) (v := false) (t_conv (t_cm c_gt (e_bi f_lenL (by rfl) T.n_len PySem.boot_len (a_cons (e_var 1 rfl rfl (.inl rfl)) a_nil)) (e_const T.c_MOST_WALK (by rfl)) (nomark _)) (by first | exact decide_eq_true (by omega) | (rw [decide_eq_true (show 600 < (l.length : Int) by omega)]; rfl) | (simp; done))) (fun hd => nomatch hd)))) (by first | exact decide_eq_true (by omega) | (rw [decide_eq_true (show 600 < (l.length : Int) by omega)]; rfl) | (simp; done))) (
      (ss_one (s_ret (e_conv e_bl (congrArg PyData.bool (walkL_long h6).symm))))))))
  · by_cases ht : isName x "tuple" = true
    · obtain ⟨l, rfl⟩ := tuple_of ht
      by_cases h6 : l.length ≤ 600
      · by_cases ha : (l.map (isStep (lenS s))).all id = true
        · obtain ⟨w, rfl, hw⟩ := steps_of ha
          have W : WalkOk s w := ⟨by rw [List.length_map] at h6; exact h6, hw⟩
          exact (
    (ss_cons (s_ifF (t_conv (t_w (w_or (t_not (t_val (e_call G_is_list room grd (by rfl) T.g_is_list T.F_is_list.kp T.b_is_list (a_cons (e_var 1 rfl rfl (.inl rfl)) a_nil) (⟨_, rfl, rfl⟩)))) fun hw => (w_or (t_cm c_gt (e_bi f_lenT (by rfl) T.n_len PySem.boot_len (a_cons (e_var 1 rfl rfl (.inl rfl)) a_nil)) (e_const T.c_MOST_WALK (by rfl)) (nomark _)) fun hw => (w_or1 (t_not (t_val (e_bi (f_all rfl (mapB (w.map fr))) (by rfl) T.n_all (by decide +kernel) (a_cons (e_lc (own := [("one", 3)]) rfl sc_is_walk_of.nd (i_tup (e_var 1 rfl rfl (.inl rfl))) (blkOk_by (N := ["survey", "value", "ends", "one", "near", "far"]) (sc := defScope s_is_walk_of) (by decide +kernel)) rfl (lc_each (fun x => .bool (isStep (lenS s) x)) _ (fun x hx => ⟨_, _, _, (fun _ _ _ _ _ => (g_name 3 sc_is_walk_of.nd rfl (.inl rfl))), (fun _ _ _ _ _ => ts_nil), (fun _ _ _ _ _ => (e_call G_is_step room grd (by rfl) T.g_is_step T.F_is_step.kp T.b_is_step (a_cons (e_var 0 rfl rfl (.inr (.inl rfl))) (a_cons (e_var 3 rfl rfl (.inl rfl)) a_nil)) (⟨s, _, rfl, rfl⟩))), rfl⟩)) (by omega)) a_nil)))))))) (by rw [ha, decide_eq_false (by omega)]; rfl)) (
      ss_nil))
    (ss_cons (s_setLc 2 (own := [("one", 3)]) rfl sc_is_walk_of.nd rfl rfl (sw_true rfl rfl rfl (by decide +kernel)) (i_tup (e_var 1 rfl rfl (.inl rfl))) (blkOk_by (N := ["survey", "value", "ends", "one", "near", "far"]) (sc := defScope s_is_walk_of) (by decide +kernel)) rfl (lc_map fr (fun p => fr (endsF s p)) w (fun x hx => ⟨_, _, _, (fun _ _ _ _ _ => (g_name 3 sc_is_walk_of.nd rfl (.inl rfl))), (fun _ _ _ _ _ => ts_nil), (fun _ _ _ _ _ => (e_call G_step_ends room grd (by rfl) T.g_step_ends T.F_step_ends.kp T.b_step_ends (a_cons (e_var 0 rfl rfl (.inr (.inl rfl))) (a_cons (e_var 3 rfl rfl (.inl rfl)) a_nil)) (⟨s, x, hw x hx, rfl, rfl⟩))), rfl⟩)) (len_walk W) (Nat.le_of_ble_eq_true rfl))
    (ss_one (s_ret (e_conv (e_bi (f_all rfl (mapB (f := fun q : Fr × Fr => decide ((endsF s q.1).2 = (endsF s q.2).1)) (w.zip (w.drop 1)))) (by rfl) T.n_all (by decide +kernel) (a_cons (e_lc (own := [("near", 4), ("far", 5)]) rfl sc_is_walk_of.nd (i_zipL (by rfl) T.n_zip (a_cons (e_var 2 rfl rfl (.inl rfl)) (a_cons (e_slLc (e_var 2 rfl rfl (.inl rfl)) (o_some e_int) o_none (cut_map1 _ w)) a_nil))) (blkOk_by (N := ["survey", "value", "ends", "one", "near", "far"]) (sc := defScope s_is_walk_of) (by decide +kernel)) rfl (lc_pair (fun p => fr (endsF s p)) (fun p => fr (endsF s p)) (fun q => .bool (decide ((endsF s q.1).2 = (endsF s q.2).1))) w (w.drop 1) (fun x hx => ⟨_, _, _, (fun _ _ _ _ _ => (g_tup rfl (gs_cons (g_name 4 sc_is_walk_of.nd rfl (.inl rfl)) (gs_cons (g_name 5 sc_is_walk_of.nd rfl (.inl rfl)) gs_nil)))), (fun _ _ _ _ _ => ts_nil), (fun _ _ _ _ _ => (e_cm c_eqI (e_ixT (e_var 4 rfl rfl (.inl rfl)) e_int rfl) (e_ixT (e_var 5 rfl rfl (.inl rfl)) e_int rfl) (nomark _))), rfl⟩)) (len_join W)) a_nil)) (congrArg PyData.bool (walkL_fr W).symm)))))))
        · exact (
    (ss_stop (s_ifT (t_conv (t_w (w_or (t_not (t_val (e_call G_is_list room grd (by rfl) T.g_is_list T.F_is_list.kp T.b_is_list (a_cons (e_var 1 rfl rfl (.inl rfl)) a_nil) (⟨_, rfl, rfl⟩)))) fun hw => (w_or (t_cm c_gt (e_bi f_lenT (by rfl) T.n_len PySem.boot_len (a_cons (e_var 1 rfl rfl (.inl rfl)) a_nil)) (e_const T.c_MOST_WALK (by rfl)) (nomark _)) fun hw => (w_or1 (t_not (t_val (e_bi (f_all rfl (mapB l)) (by rfl) T.n_all (by decide +kernel) (a_cons (e_lc (own := [("one", 3)]) rfl sc_is_walk_of.nd (i_tup (e_var 1 rfl rfl (.inl rfl))) (blkOk_by (N := ["survey", "value", "ends", "one", "near", "far"]) (sc := defScope s_is_walk_of) (by decide +kernel)) rfl (lc_each (fun x => .bool (isStep (lenS s) x)) _ (fun x hx => ⟨_, _, _, (fun _ _ _ _ _ => (g_name 3 sc_is_walk_of.nd rfl (.inl rfl))), (fun _ _ _ _ _ => ts_nil), (fun _ _ _ _ _ => (e_call G_is_step room grd (by rfl) T.g_is_step T.F_is_step.kp T.b_is_step (a_cons (e_var 0 rfl rfl (.inr (.inl rfl))) (a_cons (e_var 3 rfl rfl (.inl rfl)) a_nil)) (⟨s, _, rfl, rfl⟩))), rfl⟩)) (by omega)) a_nil)))))))) (by rw [Bool.eq_false_iff.mpr ha]; simp)) (
      (ss_one (s_ret (e_conv e_bl (congrArg PyData.bool (walkL_odd ha).symm))))))))
      · exact (
    (ss_stop (s_ifT (t_conv (t_w (w_or (t_not (t_val (e_call G_is_list room grd (by rfl) T.g_is_list T.F_is_list.kp T.b_is_list (a_cons (e_var 1 rfl rfl (.inl rfl)) a_nil) (⟨_, rfl, rfl⟩)))) fun hw => (w_or (u := true) (v := false) (t_conv (t_cm c_gt (e_bi f_lenT (by rfl) T.n_len PySem.boot_len (a_cons (e_var 1 rfl rfl (.inl rfl)) a_nil)) (e_const T.c_MOST_WALK (by rfl)) (nomark _)) (by first | exact decide_eq_true (by omega) | (rw [decide_eq_true (show 600 < (l.length : Int) by omega)]; rfl) | (simp; done))) (fun hd => nomatch hd)))) (by first | exact decide_eq_true (by omega) | (rw [decide_eq_true (show 600 < (l.length : Int) by omega)]; rfl) | (simp; done))) (
      (ss_one (s_ret (e_conv e_bl (congrArg PyData.bool (walkL_long h6).symm))))))))
    · exact (
    (ss_stop (s_ifT (t_conv (t_w (w_or (u := true) (v := false) (t_conv (t_not (t_val (e_call G_is_list room grd (by rfl) T.g_is_list T.F_is_list.kp T.b_is_list (a_cons (e_var 1 rfl rfl (.inl rfl)) a_nil) (⟨_, rfl, rfl⟩)))) (by first | (rw [Bool.eq_false_iff.mpr hl, Bool.eq_false_iff.mpr ht]; rfl) | rfl)) (fun hd => nomatch hd))) (by first | (rw [Bool.eq_false_iff.mpr hl, Bool.eq_false_iff.mpr ht]; rfl) | rfl)) (
      (ss_one (s_ret (e_conv e_bl (congrArg PyData.bool (isWalkV_no hl ht).symm))))))))

def R_is_loop_of (ds : List PyData) (d : PyData) : Prop := ∃ (s : Sv) (x : PyData), ds = [encS s, x] ∧ d = .bool (isLoopV s x)
theorem ok_is_loop_of (T : Txt K mg) : FnG P w K mg base CX0 5 T.a_is_loop_of T.d_is_loop_of ["survey", "value"] (spOf K (pureS R_is_loop_of)) := by
  have G_step_ends := (ok_step_ends (P := P) (w := w) (base := base) T).mono (by decide : 1 ≤ 4)
  have G_is_walk_of := (ok_is_walk_of (P := P) (w := w) (base := base) T).mono (by decide : 4 ≤ 4)
  refine fn_pure T.F_is_loop_of sc_is_loop_of (by rintro _ _ ⟨_, _, rfl, _⟩; rfl) fun cdv A outer s H E room grd ds d hR => ?_
  obtain ⟨s, x, rfl, rfl⟩ := hR
  by_cases hx : isWalkV s x = true
  · by_cases hl : isName x "list" = true
    · obtain ⟨l, rfl⟩ := list_of hl
      by_cases h2 : 2 ≤ l.length
      · obtain ⟨w, rfl, W, J⟩ := walkL_of hx
        have hw := W.ok
        have W2 : 2 ≤ w.length := by rw [List.length_map] at h2; exact h2
        exact (
    (ss_cons (s_ifF (t_conv (t_w (w_or (t_not (t_val (e_call G_is_walk_of room grd (by rfl) T.g_is_walk_of T.F_is_walk_of.kp T.b_is_walk_of (a_cons (e_var 0 rfl rfl (.inr (.inl rfl))) (a_cons (e_var 1 rfl rfl (.inl rfl)) a_nil)) (⟨s, _, rfl, rfl⟩)))) fun hw => (w_or1 (t_cm c_lt (e_bi f_lenL (by rfl) T.n_len PySem.boot_len (a_cons (e_var 1 rfl rfl (.inl rfl)) a_nil)) e_int (nomark _))))) (by rw [hx, decide_eq_false (by omega)]; rfl)) (
      ss_nil))
    (ss_cons (s_setLc 2 (own := [("one", 3)]) rfl sc_is_loop_of.nd rfl rfl (sw_true rfl rfl rfl (by decide +kernel)) (i_list (e_var 1 rfl rfl (.inl rfl))) (blkOk_by (N := ["survey", "value", "ends", "one"]) (sc := defScope s_is_loop_of) (by decide +kernel)) rfl (lc_map fr (fun p => fr (endsF s p)) w (fun x hx => ⟨_, _, _, (fun _ _ _ _ _ => (g_name 3 sc_is_loop_of.nd rfl (.inl rfl))), (fun _ _ _ _ _ => ts_nil), (fun _ _ _ _ _ => (e_call G_step_ends room grd (by rfl) T.g_step_ends T.F_step_ends.kp T.b_step_ends (a_cons (e_var 0 rfl rfl (.inr (.inl rfl))) (a_cons (e_var 3 rfl rfl (.inl rfl)) a_nil)) (⟨s, x, hw x hx, rfl, rfl⟩))), rfl⟩)) (len_walk W) (Nat.le_of_ble_eq_true rfl))
    (ss_split (t_cm c_neI (e_ixT (e_ixL (e_var 2 rfl rfl (.inl rfl)) e_int (pick_map (0, 0) (by decide) (by omega))) e_int (by rfl)) (e_ixT (e_ixL (e_var 2 rfl rfl (.inl rfl)) (e_neg e_int) (atI_last _ (0, 0) (by omega))) e_int (by rfl)) (nomark _))
    (fun h6 ch6 => (ss_stop (s_ifT ch6 (
      (ss_one (s_ret (e_conv e_bl (by first | exact (congrArg PyData.bool (loopL_odd W J W2 (by assumption)).symm) | exact (congrArg PyData.bool (onceB_len.trans (loopL_round W J W2 (by assumption)).symm))))))))))
    (fun h6 ch6 => (ss_cons (s_ifF ch6 (
      ss_nil))
      (ss_one (s_ret (e_conv (e_and (e_cm c_eqI (e_lenSet (by rfl) T.n_len (by rfl) T.n_set rfl (e_lc (own := [("one", 3)]) rfl sc_is_loop_of.nd (i_list (e_var 2 rfl rfl (.inl rfl))) (blkOk_by (N := ["survey", "value", "ends", "one"]) (sc := defScope s_is_loop_of) (by decide +kernel)) rfl (lc_map (fun p => fr (endsF s p)) (fun p => .int (endsF s p).1) w (fun x hx => ⟨_, _, _, (fun _ _ _ _ _ => (g_name 3 sc_is_loop_of.nd rfl (.inl rfl))), (fun _ _ _ _ _ => ts_nil), (fun _ _ _ _ _ => (e_ixT (e_var 3 rfl rfl (.inl rfl)) e_int rfl)), rfl⟩)) (len_walk W)) (map_ints (fun p => (endsF s p).1) w) (by rw [List.length_map]; have := W.len; omega)) (e_bi f_lenL (by rfl) T.n_len PySem.boot_len (a_cons (e_var 2 rfl rfl (.inl rfl)) a_nil)) (nomark _)) fun hw => (e_one (e_cm c_eqI (e_lenSet (by rfl) T.n_len (by rfl) T.n_set rfl (e_lc (own := [("one", 3)]) rfl sc_is_loop_of.nd (i_list (e_var 1 rfl rfl (.inl rfl))) (blkOk_by (N := ["survey", "value", "ends", "one"]) (sc := defScope s_is_loop_of) (by decide +kernel)) rfl (lc_map fr (fun p => .int p.1) w (fun x hx => ⟨_, _, _, (fun _ _ _ _ _ => (g_name 3 sc_is_loop_of.nd rfl (.inl rfl))), (fun _ _ _ _ _ => ts_nil), (fun _ _ _ _ _ => (e_ixT (e_var 3 rfl rfl (.inl rfl)) e_int rfl)), rfl⟩)) (len_walk W)) (map_ints (fun p : Fr => p.1) w) (by rw [List.length_map]; have := W.len; omega)) (e_bi f_lenL (by rfl) T.n_len PySem.boot_len (a_cons (e_var 1 rfl rfl (.inl rfl)) a_nil)) (nomark _)))) (by first | exact (congrArg PyData.bool (loopL_odd W J W2 (by assumption)).symm) | exact (congrArg PyData.bool (onceB_len.trans (loopL_round W J W2 (by assumption)).symm))))))))))))
      · exact (
    (ss_stop (s_ifT (t_conv (t_w (w_or (t_not (t_val (e_call G_is_walk_of room grd (by rfl) T.g_is_walk_of T.F_is_walk_of.kp T.b_is_walk_of (a_cons (e_var 0 rfl rfl (.inr (.inl rfl))) (a_cons (e_var 1 rfl rfl (.inl rfl)) a_nil)) (⟨s, _, rfl, rfl⟩)))) fun hw => (w_or1 (t_cm c_lt (e_bi f_lenL (by rfl) T.n_len PySem.boot_len (a_cons (e_var 1 rfl rfl (.inl rfl)) a_nil)) e_int (nomark _))))) (by rw [hx, decide_eq_true (by omega)]; rfl)) (
      (ss_one (s_ret (e_conv e_bl (congrArg PyData.bool (loopL_few h2).symm))))))))
    · by_cases ht : isName x "tuple" = true
      · obtain ⟨l, rfl⟩ := tuple_of ht
        by_cases h2 : 2 ≤ l.length
        · obtain ⟨w, rfl, W, J⟩ := walkL_of hx
          have hw := W.ok
          have W2 : 2 ≤ w.length := by rw [List.length_map] at h2; exact h2
          exact (
    (ss_cons (s_ifF (t_conv (t_w (w_or (t_not (t_val (e_call G_is_walk_of room grd (by rfl) T.g_is_walk_of T.F_is_walk_of.kp T.b_is_walk_of (a_cons (e_var 0 rfl rfl (.inr (.inl rfl))) (a_cons (e_var 1 rfl rfl (.inl rfl)) a_nil)) (⟨s, _, rfl, rfl⟩)))) fun hw => (w_or1 (t_cm c_lt (e_bi f_lenT (by rfl) T.n_len PySem.boot_len (a_cons (e_var 1 rfl rfl (.inl rfl)) a_nil)) e_int (nomark _))))) (by rw [hx, decide_eq_false (by omega)]; rfl)) (
      ss_nil))
    (ss_cons (s_setLc 2 (own := [("one", 3)]) rfl sc_is_loop_of.nd rfl rfl (sw_true rfl rfl rfl (by decide +kernel)) (i_tup (e_var 1 rfl rfl (.inl rfl))) (blkOk_by (N := ["survey", "value", "ends", "one"]) (sc := defScope s_is_loop_of) (by decide +kernel)) rfl (lc_map fr (fun p => fr (endsF s p)) w (fun x hx => ⟨_, _, _, (fun _ _ _ _ _ => (g_name 3 sc_is_loop_of.nd rfl (.inl rfl))), (fun _ _ _ _ _ => ts_nil), (fun _ _ _ _ _ => (e_call G_step_ends room grd (by rfl) T.g_step_ends T.F_step_ends.kp T.b_step_ends (a_cons (e_var 0 rfl rfl (.inr (.inl rfl))) (a_cons (e_var 3 rfl rfl (.inl rfl)) a_nil)) (⟨s, x, hw x hx, rfl, rfl⟩))), rfl⟩)) (len_walk W) (Nat.le_of_ble_eq_true rfl))
    (ss_split (t_cm c_neI (e_ixT (e_ixL (e_var 2 rfl rfl (.inl rfl)) e_int (pick_map (0, 0) (by decide) (by omega))) e_int (by rfl)) (e_ixT (e_ixL (e_var 2 rfl rfl (.inl rfl)) (e_neg e_int) (atI_last _ (0, 0) (by omega))) e_int (by rfl)) (nomark _))
    (fun h6 ch6 => (ss_stop (s_ifT ch6 (
      (ss_one (s_ret (e_conv e_bl (by first | exact (congrArg PyData.bool (loopL_odd W J W2 (by assumption)).symm) | exact (congrArg PyData.bool (onceB_len.trans (loopL_round W J W2 (by assumption)).symm))))))))))
    (fun h6 ch6 => (ss_cons (s_ifF ch6 (
      ss_nil))
      (ss_one (s_ret (e_conv (e_and (e_cm c_eqI (e_lenSet (by rfl) T.n_len (by rfl) T.n_set rfl (e_lc (own := [("one", 3)]) rfl sc_is_loop_of.nd (i_list (e_var 2 rfl rfl (.inl rfl))) (blkOk_by (N := ["survey", "value", "ends", "one"]) (sc := defScope s_is_loop_of) (by decide +kernel)) rfl (lc_map (fun p => fr (endsF s p)) (fun p => .int (endsF s p).1) w (fun x hx => ⟨_, _, _, (fun _ _ _ _ _ => (g_name 3 sc_is_loop_of.nd rfl (.inl rfl))), (fun _ _ _ _ _ => ts_nil), (fun _ _ _ _ _ => (e_ixT (e_var 3 rfl rfl (.inl rfl)) e_int rfl)), rfl⟩)) (len_walk W)) (map_ints (fun p => (endsF s p).1) w) (by rw [List.length_map]; have := W.len; omega)) (e_bi f_lenL (by rfl) T.n_len PySem.boot_len (a_cons (e_var 2 rfl rfl (.inl rfl)) a_nil)) (nomark _)) fun hw => (e_one (e_cm c_eqI (e_lenSet (by rfl) T.n_len (by rfl) T.n_set rfl (e_lc (own := [("one", 3)]) rfl sc_is_loop_of.nd (i_tup (e_var 1 rfl rfl (.inl rfl))) (blkOk_by (N := ["survey", "value", "ends", "one"]) (sc := defScope s_is_loop_of) (by decide +kernel)) rfl (lc_map fr (fun p => .int p.1) w (fun x hx => ⟨_, _, _, (fun _ _ _ _ _ => (g_name 3 sc_is_loop_of.nd rfl (.inl rfl))), (fun _ _ _ _ _ => ts_nil), (fun _ _ _ _ _ => (e_ixT (e_var 3 rfl rfl (.inl rfl)) e_int rfl)), rfl⟩)) (len_walk W)) (map_ints (fun p : Fr => p.1) w) (by rw [List.length_map]; have := W.len; omega)) (e_bi f_lenT (by rfl) T.n_len PySem.boot_len (a_cons (e_var 1 rfl rfl (.inl rfl)) a_nil)) (nomark _)))) (by first | exact (congrArg PyData.bool (loopL_odd W J W2 (by assumption)).symm) | exact (congrArg PyData.bool (onceB_len.trans (loopL_round W J W2 (by assumption)).symm))))))))))))
        · exact (
    (ss_stop (s_ifT (t_conv (t_w (w_or (t_not (t_val (e_call G_is_walk_of room grd (by rfl) T.g_is_walk_of T.F_is_walk_of.kp T.b_is_walk_of (a_cons (e_var 0 rfl rfl (.inr (.inl rfl))) (a_cons (e_var 1 rfl rfl (.inl rfl)) a_nil)) (⟨s, _, rfl, rfl⟩)))) fun hw => (w_or1 (t_cm c_lt (e_bi f_lenT (by rfl) T.n_len PySem.boot_len (a_cons (e_var 1 rfl rfl (.inl rfl)) a_nil)) e_int (nomark _))))) (by rw [hx, decide_eq_true (by omega)]; rfl)) (
      (ss_one (s_ret (e_conv e_bl (congrArg PyData.bool (loopL_few h2).symm))))))))
      · rw [isWalkV_no hl ht] at hx
        cases hx
  · exact (
    (ss_stop (s_ifT (t_conv (t_w (w_or (u := true) (v := false) (t_conv (t_not (t_val (e_call G_is_walk_of room grd (by rfl) T.g_is_walk_of T.F_is_walk_of.kp T.b_is_walk_of (a_cons (e_var 0 rfl rfl (.inr (.inl rfl))) (a_cons (e_var 1 rfl rfl (.inl rfl)) a_nil)) (⟨s, _, rfl, rfl⟩)))) (by first | (rw [Bool.eq_false_iff.mpr hx]; rfl) | rfl)) (fun hd => nomatch hd))) (by first | (rw [Bool.eq_false_iff.mpr hx]; rfl) | rfl)) (
      (ss_one (s_ret (e_conv e_bl (congrArg PyData.bool (isLoopV_no (Bool.eq_false_iff.mpr hx)).symm))))))))

def R_want_walk (ds : List PyData) (d : PyData) : Prop := ∃ (s : Sv) (w : List Fr) (x : PyData), WalkOk s w ∧ joinsB s w = true ∧ (x = .list (w.map fr) ∨ x = .tuple (w.map fr)) ∧ ds = [encS s, x] ∧ d = .none
theorem ok_want_walk (T : Txt K mg) : FnG P w K mg base CX0 5 T.a_want_walk T.d_want_walk ["survey", "walk"] (spOf K (pureS R_want_walk)) := by
  have G_is_walk_of := (ok_is_walk_of (P := P) (w := w) (base := base) T).mono (by decide : 4 ≤ 4)
  refine fn_fall T.F_want_walk sc_want_walk (by rintro _ _ ⟨_, _, _, _, _, _, rfl, _⟩; rfl) fun cdv A outer s H E room grd ds d hR => ?_
  obtain ⟨s, w, x, W, J, hx, rfl, rfl⟩ := hR
  have hv : isWalkV s x = true := by
    rcases hx with rfl | rfl
    · exact (walkL_fr W).trans J
    · exact (walkL_fr W).trans J
  exact ⟨rfl, _, (
    (ss_cons (s_ifF (t_conv (t_not (t_val (e_call G_is_walk_of room grd (by rfl) T.g_is_walk_of T.F_is_walk_of.kp T.b_is_walk_of (a_cons (e_var 0 rfl rfl (.inl rfl)) (a_cons (e_var 1 rfl rfl (.inl rfl)) a_nil)) (⟨s, _, rfl, rfl⟩)))) (by rw [hv]; rfl)) ss_nil)
    ss_nil))⟩

def R_sum_along (ds : List PyData) (d : PyData) : Prop := ∃ (s : Sv) (w : List Fr), SvTw s ∧ WalkOk s w ∧ (ds = [encS s, .list (w.map fr)] ∨ ds = [encS s, .tuple (w.map fr)]) ∧ d = vec (sumF s w)
theorem ok_sum_along (T : Txt K mg) : FnG P w K mg base CX0 5 T.a_sum_along T.d_sum_along ["survey", "walk"] (spOf K (pureS R_sum_along)) := by
  have G_gathered := (ok_gathered (P := P) (w := w) (base := base) T).mono (by decide : 4 ≤ 4)
  have G_against := (ok_against (P := P) (w := w) (base := base) T).mono (by decide : 2 ≤ 4)
  refine fn_pure T.F_sum_along sc_sum_along (by rintro _ _ ⟨_, _, _, _, (rfl | rfl), _⟩ <;> rfl) fun cdv A outer s H E room grd ds d hR => ?_
  obtain ⟨s, w, S, W, (rfl | rfl), rfl⟩ := hR
  · have hw := W.ok
    exact (
    (ss_cons (s_setLc 2 (own := [("leg", 3), ("sense", 4)]) rfl sc_sum_along.nd rfl rfl (sw_true rfl rfl rfl (by decide +kernel)) (i_list (e_var 1 rfl rfl (.inl rfl))) (blkOk_by (N := ["survey", "walk", "some", "leg", "sense"]) (sc := defScope s_sum_along) (by decide +kernel)) rfl (lc_map fr (fun p => if decide (p.2 = 1) = true then vec (gAt s p.1).v else vec (vNeg (gAt s p.1).v)) w (fun x hx => ⟨_, _, _, (fun _ _ _ _ _ => (g_tup rfl (gs_cons (g_name 3 sc_sum_along.nd rfl (.inl rfl)) (gs_cons (g_name 4 sc_sum_along.nd rfl (.inl rfl)) gs_nil)))), (fun _ _ _ _ _ => ts_nil), (fun _ _ _ _ _ => (e_ite (t_cm c_eqI (e_var 4 rfl rfl (.inl rfl)) e_int (nomark _)) (fun hi => (e_ixT (e_ixT (e_ixT (e_var 0 rfl rfl (.inr (.inl rfl))) e_int rfl) (e_var 3 rfl rfl (.inl rfl)) (gAt_pick (hw x hx))) e_int (by rfl))) (fun hj => (e_call G_against room grd (by rfl) T.g_against T.F_against.kp T.b_against (a_cons (e_ixT (e_ixT (e_ixT (e_var 0 rfl rfl (.inr (.inl rfl))) e_int rfl) (e_var 3 rfl rfl (.inl rfl)) (gAt_pick (hw x hx))) e_int (by rfl)) a_nil) (⟨(gAt s x.1).v, leg_few S.ok (hw x hx), rfl, rfl⟩))))), rfl⟩)) (len_walk W) (Nat.le_of_ble_eq_true rfl))
    (ss_one (s_ret (e_conv (e_call G_gathered room grd (by rfl) T.g_gathered T.F_gathered.kp T.b_gathered (a_cons (e_var 2 rfl rfl (.inl rfl)) (a_cons (e_ixT (e_var 0 rfl rfl (.inr (.inl rfl))) e_int rfl) a_nil)) (⟨w.map (stepV s), s.dims, S.ok.d1, S.ok.d3, (by rw [List.length_map]; exact W.len), (fun v hv => by obtain ⟨p, hp, rfl⟩ := List.mem_map.mp hv; exact stepV_tw S (hw p hp)), (by rw [← steps_vec]), rfl⟩)) rfl)))))
  · have hw := W.ok
    exact (
    (ss_cons (s_setLc 2 (own := [("leg", 3), ("sense", 4)]) rfl sc_sum_along.nd rfl rfl (sw_true rfl rfl rfl (by decide +kernel)) (i_tup (e_var 1 rfl rfl (.inl rfl))) (blkOk_by (N := ["survey", "walk", "some", "leg", "sense"]) (sc := defScope s_sum_along) (by decide +kernel)) rfl (lc_map fr (fun p => if decide (p.2 = 1) = true then vec (gAt s p.1).v else vec (vNeg (gAt s p.1).v)) w (fun x hx => ⟨_, _, _, (fun _ _ _ _ _ => (g_tup rfl (gs_cons (g_name 3 sc_sum_along.nd rfl (.inl rfl)) (gs_cons (g_name 4 sc_sum_along.nd rfl (.inl rfl)) gs_nil)))), (fun _ _ _ _ _ => ts_nil), (fun _ _ _ _ _ => (e_ite (t_cm c_eqI (e_var 4 rfl rfl (.inl rfl)) e_int (nomark _)) (fun hi => (e_ixT (e_ixT (e_ixT (e_var 0 rfl rfl (.inr (.inl rfl))) e_int rfl) (e_var 3 rfl rfl (.inl rfl)) (gAt_pick (hw x hx))) e_int (by rfl))) (fun hj => (e_call G_against room grd (by rfl) T.g_against T.F_against.kp T.b_against (a_cons (e_ixT (e_ixT (e_ixT (e_var 0 rfl rfl (.inr (.inl rfl))) e_int rfl) (e_var 3 rfl rfl (.inl rfl)) (gAt_pick (hw x hx))) e_int (by rfl)) a_nil) (⟨(gAt s x.1).v, leg_few S.ok (hw x hx), rfl, rfl⟩))))), rfl⟩)) (len_walk W) (Nat.le_of_ble_eq_true rfl))
    (ss_one (s_ret (e_conv (e_call G_gathered room grd (by rfl) T.g_gathered T.F_gathered.kp T.b_gathered (a_cons (e_var 2 rfl rfl (.inl rfl)) (a_cons (e_ixT (e_var 0 rfl rfl (.inr (.inl rfl))) e_int rfl) a_nil)) (⟨w.map (stepV s), s.dims, S.ok.d1, S.ok.d3, (by rw [List.length_map]; exact W.len), (fun v hv => by obtain ⟨p, hp, rfl⟩ := List.mem_map.mp hv; exact stepV_tw S (hw p hp)), (by rw [← steps_vec]), rfl⟩)) rfl)))))

def R_about (ds : List PyData) (l : List PyData) : Prop := ∃ w : List Fr, w.length ≤ 1000 ∧ (ds = [.list (w.map fr)] ∨ ds = [.tuple (w.map fr)]) ∧ l = (aboutF w).map fr
theorem ok_about (T : Txt K mg) : FnG P w K mg base CX0 1 T.a_about T.d_about ["walk"] (spOf K (newS R_about)) := by
  refine fn_new T.F_about sc_about (by rintro _ _ ⟨_, _, (rfl | rfl), _⟩ <;> rfl) fun cdv A outer s H E room grd ds l hR => ?_
  obtain ⟨w, hl, (rfl | rfl), rfl⟩ := hR
  · exact (
    (ss_one (s_retO (o_lc (own := [("leg", 1), ("sense", 2)]) rfl sc_about.nd (i_list (e_revL (e_bt f_listL (by rfl) T.n_list (by decide +kernel) (a_cons (e_var 0 rfl rfl (.inl rfl)) a_nil)))) (blkOk_by (N := ["walk", "leg", "sense"]) (sc := defScope s_about) (by decide +kernel)) rfl (by rw [← List.map_reverse, about_map]; exact (lc_map fr (fun p => fr (p.1, 0 - p.2)) w.reverse (fun x hx => ⟨_, _, _, (fun _ _ _ _ _ => (g_tup rfl (gs_cons (g_name 1 sc_about.nd rfl (.inl rfl)) (gs_cons (g_name 2 sc_about.nd rfl (.inl rfl)) gs_nil)))), (fun _ _ _ _ _ => ts_nil), (fun _ _ _ _ _ => (e_tup (a_cons (e_var 1 rfl rfl (.inl rfl)) (a_cons (e_sub e_int (e_var 2 rfl rfl (.inl rfl))) a_nil)))), rfl⟩))) (by rw [List.length_reverse, List.length_map]; omega)))))
  · exact (
    (ss_one (s_retO (o_lc (own := [("leg", 1), ("sense", 2)]) rfl sc_about.nd (i_list (e_revL (e_bt f_listT (by rfl) T.n_list (by decide +kernel) (a_cons (e_var 0 rfl rfl (.inl rfl)) a_nil)))) (blkOk_by (N := ["walk", "leg", "sense"]) (sc := defScope s_about) (by decide +kernel)) rfl (by rw [← List.map_reverse, about_map]; exact (lc_map fr (fun p => fr (p.1, 0 - p.2)) w.reverse (fun x hx => ⟨_, _, _, (fun _ _ _ _ _ => (g_tup rfl (gs_cons (g_name 1 sc_about.nd rfl (.inl rfl)) (gs_cons (g_name 2 sc_about.nd rfl (.inl rfl)) gs_nil)))), (fun _ _ _ _ _ => ts_nil), (fun _ _ _ _ _ => (e_tup (a_cons (e_var 1 rfl rfl (.inl rfl)) (a_cons (e_sub e_int (e_var 2 rfl rfl (.inl rfl))) a_nil)))), rfl⟩))) (by rw [List.length_reverse, List.length_map]; omega)))))

def R_is_walk (ds : List PyData) (d : PyData) : Prop := ∃ (s : Sv) (x : PyData), SvOk s ∧ ds = [encS s, x] ∧ d = .bool (isWalkV s x)
theorem ok_is_walk (T : Txt K mg) : FnG P w K mg base CX0 8 T.a_is_walk T.d_is_walk ["survey", "value"] (spOf K (pureS R_is_walk)) := by
  have G_want_survey := (ok_want_survey (P := P) (w := w) (base := base) T).mono (by decide : 7 ≤ 7)
  have G_is_walk_of := (ok_is_walk_of (P := P) (w := w) (base := base) T).mono (by decide : 4 ≤ 7)
  refine fn_pure T.F_is_walk sc_is_walk (by rintro _ _ ⟨_, _, _, rfl, _⟩; rfl) fun cdv A outer s H E room grd ds d hR => ?_
  obtain ⟨s, x, S, rfl, rfl⟩ := hR
  exact (
    (ss_cons (s_expr (e_call G_want_survey room grd (by rfl) T.g_want_survey T.F_want_survey.kp T.b_want_survey (a_cons (e_var 0 rfl rfl (.inl rfl)) a_nil) (⟨s, S, rfl, rfl⟩)))
    (ss_one (s_ret (e_conv (e_call G_is_walk_of room grd (by rfl) T.g_is_walk_of T.F_is_walk_of.kp T.b_is_walk_of (a_cons (e_var 0 rfl rfl (.inl rfl)) (a_cons (e_var 1 rfl rfl (.inl rfl)) a_nil)) (⟨s, _, rfl, rfl⟩)) rfl)))))

def R_is_loop (ds : List PyData) (d : PyData) : Prop := ∃ (s : Sv) (x : PyData), SvOk s ∧ ds = [encS s, x] ∧ d = .bool (isLoopV s x)
theorem ok_is_loop (T : Txt K mg) : FnG P w K mg base CX0 8 T.a_is_loop T.d_is_loop ["survey", "value"] (spOf K (pureS R_is_loop)) := by
  have G_want_survey := (ok_want_survey (P := P) (w := w) (base := base) T).mono (by decide : 7 ≤ 7)
  have G_is_loop_of := (ok_is_loop_of (P := P) (w := w) (base := base) T).mono (by decide : 5 ≤ 7)
  refine fn_pure T.F_is_loop sc_is_loop (by rintro _ _ ⟨_, _, _, rfl, _⟩; rfl) fun cdv A outer s H E room grd ds d hR => ?_
  obtain ⟨s, x, S, rfl, rfl⟩ := hR
  exact (
    (ss_cons (s_expr (e_call G_want_survey room grd (by rfl) T.g_want_survey T.F_want_survey.kp T.b_want_survey (a_cons (e_var 0 rfl rfl (.inl rfl)) a_nil) (⟨s, S, rfl, rfl⟩)))
    (ss_one (s_ret (e_conv (e_call G_is_loop_of room grd (by rfl) T.g_is_loop_of T.F_is_loop_of.kp T.b_is_loop_of (a_cons (e_var 0 rfl rfl (.inl rfl)) (a_cons (e_var 1 rfl rfl (.inl rfl)) a_nil)) (⟨s, _, rfl, rfl⟩)) rfl)))))

def R_walk_sum (ds : List PyData) (d : PyData) : Prop := ∃ (s : Sv) (w : List Fr) (x : PyData), SvTw s ∧ WalkOk s w ∧ joinsB s w = true ∧ (x = .list (w.map fr) ∨ x = .tuple (w.map fr)) ∧ ds = [encS s, x] ∧ d = vec (sumF s w)
theorem ok_walk_sum (T : Txt K mg) : FnG P w K mg base CX0 8 T.a_walk_sum T.d_walk_sum ["survey", "walk"] (spOf K (pureS R_walk_sum)) := by
  have G_want_survey := (ok_want_survey (P := P) (w := w) (base := base) T).mono (by decide : 7 ≤ 7)
  have G_want_walk := (ok_want_walk (P := P) (w := w) (base := base) T).mono (by decide : 5 ≤ 7)
  have G_sum_along := (ok_sum_along (P := P) (w := w) (base := base) T).mono (by decide : 5 ≤ 7)
  refine fn_pure T.F_walk_sum sc_walk_sum (by rintro _ _ ⟨_, _, _, _, _, _, _, rfl, _⟩; rfl) fun cdv A outer s H E room grd ds d hR => ?_
  obtain ⟨s, w, x, S, W, J, hx, rfl, rfl⟩ := hR
  exact (
    (ss_cons (s_expr (e_call G_want_survey room grd (by rfl) T.g_want_survey T.F_want_survey.kp T.b_want_survey (a_cons (e_var 0 rfl rfl (.inl rfl)) a_nil) (⟨s, S.ok, rfl, rfl⟩)))
    (ss_cons (s_expr (e_call G_want_walk room grd (by rfl) T.g_want_walk T.F_want_walk.kp T.b_want_walk (a_cons (e_var 0 rfl rfl (.inl rfl)) (a_cons (e_var 1 rfl rfl (.inl rfl)) a_nil)) (⟨s, w, x, W, J, hx, rfl, rfl⟩)))
    (ss_one (s_ret (e_conv (e_call G_sum_along room grd (by rfl) T.g_sum_along T.F_sum_along.kp T.b_sum_along (a_cons (e_var 0 rfl rfl (.inl rfl)) (a_cons (e_var 1 rfl rfl (.inl rfl)) a_nil)) (⟨s, w, S, W, hx.imp (fun h => by rw [h]) (fun h => by rw [h]), rfl⟩)) rfl))))))

def R_turned_about (ds : List PyData) (l : List PyData) : Prop := ∃ (s : Sv) (w : List Fr) (x : PyData), SvOk s ∧ WalkOk s w ∧ joinsB s w = true ∧ (x = .list (w.map fr) ∨ x = .tuple (w.map fr)) ∧ ds = [encS s, x] ∧ l = (aboutF w).map fr
theorem ok_turned_about (T : Txt K mg) : FnG P w K mg base CX0 8 T.a_turned_about T.d_turned_about ["survey", "walk"] (spOf K (newS R_turned_about)) := by
  have G_want_survey := (ok_want_survey (P := P) (w := w) (base := base) T).mono (by decide : 7 ≤ 7)
  have G_want_walk := (ok_want_walk (P := P) (w := w) (base := base) T).mono (by decide : 5 ≤ 7)
  have G_about := (ok_about (P := P) (w := w) (base := base) T).mono (by decide : 1 ≤ 7)
  refine fn_new T.F_turned_about sc_turned_about (by rintro _ _ ⟨_, _, _, _, _, _, _, rfl, _⟩; rfl) fun cdv A outer s H E room grd ds l hR => ?_
  obtain ⟨s, w, x, S, W, J, hx, rfl, rfl⟩ := hR
  exact (
    (ss_cons (s_expr (e_call G_want_survey room grd (by rfl) T.g_want_survey T.F_want_survey.kp T.b_want_survey (a_cons (e_var 0 rfl rfl (.inl rfl)) a_nil) (⟨s, S, rfl, rfl⟩)))
    (ss_cons (s_expr (e_call G_want_walk room grd (by rfl) T.g_want_walk T.F_want_walk.kp T.b_want_walk (a_cons (e_var 0 rfl rfl (.inl rfl)) (a_cons (e_var 1 rfl rfl (.inl rfl)) a_nil)) (⟨s, w, x, W, J, hx, rfl, rfl⟩)))
    (ss_one (s_retO (o_call G_about room grd (by rfl) T.g_about T.F_about.kp T.b_about (a_cons (e_var 1 rfl rfl (.inl rfl)) a_nil) (⟨w, (by have := W.len; omega), hx.imp (fun h => by rw [h]) (fun h => by rw [h]), rfl⟩)))))))

def R__law_pot (ns : List Int) (ds : List PyData) (r : Cell) : Prop := ∃ k : Int, 0 ≤ k ∧ k < 64 ∧ ds = [.int k] ∧ r = .own (.lst (potD (pot0 ns k)))
theorem ok__law_pot (T : Txt K mg) : FnG P w K mg base CX0 1 T.a__law_pot T.d__law_pot ["script", "k"] (spOf K (scrS R__law_pot)) := by
  refine fn_scr T.F__law_pot sc__law_pot (by rintro _ _ _ ⟨k, _, _, rfl, _⟩; rfl) fun cdv A outer s H E room grd ns ds r hR => ?_
  obtain ⟨k, h0, h1, rfl, rfl⟩ := hR
  exact (
    (ss_cons (s_set 2 (e_iteI (t_cm c_lt (e_var 1 rfl rfl (.inl rfl)) (e_lenS 0 (by rfl) T.n_len rfl rfl (.inl rfl)) (nomark _)) (fun hi => (e_bi f_abs (by rfl) T.n_abs (by decide +kernel) (a_cons (e_ixS 0 rfl rfl (.inl rfl) (e_var 1 rfl rfl (.inl rfl)) (pick_int h0 (of_decide_eq_true hi))) a_nil))) (fun hj => (e_add (e_mul (by first | exact mulS (fmB (by decide) (by decide)) (by decide) | exact mulS (by decide) (by omega)) e_int (e_var 1 rfl rfl (.inl rfl))) e_int))) sc__law_pot.nd rfl (.inl rfl))
    (ss_one (s_retO (o_lst (a_cons (e_bi (f_max rfl) (by rfl) T.n_max (by decide +kernel) (a_cons e_int (a_cons (e_sub (e_var 2 rfl rfl (.inl rfl)) (e_pow (by unfold CPow; decide) e_int e_int)) a_nil))) (a_cons (e_add (e_mod (by decide) (e_bt f_int (by rfl) T.n_int (by decide +kernel) (a_cons (e_add (e_add (e_mul (by first | exact mulS (fmB (by decide) (by decide)) (by decide) | exact mulS (by decide) (by omega)) (e_mod (by decide) (e_bt f_int (by rfl) T.n_int (by decide +kernel) (a_cons (e_var 2 rfl rfl (.inl rfl)) a_nil)) e_int) e_int) (e_mul (by first | exact mulS (fmB (by decide) (by decide)) (by decide) | exact mulS (by decide) (by omega)) e_int (e_var 1 rfl rfl (.inl rfl)))) e_int) a_nil)) e_int) e_int) a_nil)))))))

def R__law_draw (m ds m' : List PyData) (d : PyData) : Prop := ∃ (p : Pot) (n : Int), PotOk p ∧ 0 < n ∧ Bits 8000 n ∧ m = potD p ∧ ds = [.int n] ∧ m' = potD (draw dc p n).1 ∧ d = .int (draw dc p n).2
theorem ok__law_draw (T : Txt K mg) : FnG P w K mg base CX0 1 T.a__law_draw T.d__law_draw ["pot", "many"] (spOf K (potS R__law_draw)) := by
  refine fn_pot T.F__law_draw sc__law_draw (by rintro _ _ _ _ ⟨p, n, _, _, _, _, rfl, _⟩; rfl) fun cdv A outer s H E room grd q m ds m' d hR => ?_
  obtain ⟨p, n, hp, hn, hb, rfl, rfl, rfl, rfl⟩ := hR
  by_cases h : 0 < p.1
  · rw [draw_pos h]
    exact (
    (ss_stop (s_ifT (t_conv (t_cm c_gt (e_ixO 0 rfl rfl rfl (.inl rfl) e_int rfl) e_int (nomark _)) (decide_eq_true h)) (
      (ss_cons (s_asg (e_bi (f_divmod hn (bits_log hb (by decide))) (by rfl) T.n_divmod (by decide +kernel) (a_cons (e_ixO 0 rfl rfl rfl (.inl rfl) e_int rfl) (a_cons (e_var 1 rfl rfl (.inl rfl)) a_nil))) (g_tup rfl (gs_cons (g_sub 0 rfl rfl rfl (.inl rfl) e_int rfl) (gs_cons (g_name 2 sc__law_draw.nd rfl (.inl rfl)) gs_nil))))
      (ss_one (s_ret (e_conv (e_var 2 rfl rfl (.inl rfl)) rfl) (one_bor 0 rfl))))))))
  · rw [draw_neg h]
    exact (
    (ss_cons (s_ifF (t_conv (t_cm c_gt (e_ixO 0 rfl rfl rfl (.inl rfl) e_int rfl) e_int (nomark _)) (decide_eq_false h)) (
      ss_nil))
    (ss_cons (s_asg (e_mod (by first | decide | omega) (e_bt f_int (by rfl) T.n_int (by decide +kernel) (a_cons (e_add (e_mul (by first | exact mulS (fmB (by decide) (by decide)) (fmB (by decide) (by decide)) | exact mulS (by have := hp.h1; have := hp.h2; show -(2 ^ 64) < p.2 ∧ p.2 < 2 ^ 64; omega) (by decide)) (e_ixO 0 rfl rfl rfl (.inl rfl) e_int rfl) e_int) e_int) a_nil)) e_int) (g_sub 0 rfl rfl rfl (.inl rfl) e_int rfl))
    (ss_one (s_ret (e_conv (e_mod (by first | decide | omega) (e_bt f_int (by rfl) T.n_int (by decide +kernel) (a_cons (e_fdivX (⟨by decide, by decide⟩) (e_mod (by first | decide | omega) (e_bt f_int (by rfl) T.n_int (by decide +kernel) (a_cons (e_mul (by first | exact mulS (fmB (by decide) (by decide)) (fmB (by decide) (by decide)) | exact mulS (by have := hp.h1; have := hp.h2; show -(2 ^ 64) < p.2 ∧ p.2 < 2 ^ 64; omega) (by decide)) (e_ixO 0 rfl rfl rfl (.inl rfl) e_int rfl) (e_ixO 0 rfl rfl rfl (.inl rfl) e_int rfl)) a_nil)) e_int) e_int) a_nil)) (e_var 1 rfl rfl (.inl rfl))) rfl) (one_bor 0 rfl))))))

def R__law_pick (m ds m' : List PyData) (d : PyData) : Prop := ∃ (p : Pot) (xs : List PyData), PotOk p ∧ 0 < xs.length ∧ xs.length ≤ 1000000 ∧ m = potD p ∧ ds = [.list xs] ∧ m' = potD (draw dc p xs.length).1 ∧ atI xs (draw dc p xs.length).2 = some d
theorem ok__law_pick (T : Txt K mg) : FnG P w K mg base CX0 2 T.a__law_pick T.d__law_pick ["pot", "some"] (spOf K (potS R__law_pick)) := by
  have G__law_draw := (ok__law_draw (P := P) (w := w) (base := base) T).mono (by decide : 1 ≤ 1)
  refine fn_pot T.F__law_pick sc__law_pick (by rintro _ _ _ _ ⟨p, n, _, _, _, _, rfl, _⟩; rfl) fun cdv A outer s H E room grd q m ds m' d hR => ?_
  obtain ⟨p, xs, hp, h0, h1, rfl, rfl, rfl, hd⟩ := hR
  exact (
    (ss_one (s_ret (e_conv (e_ixL (e_var 1 rfl rfl (.inl rfl)) (e_callP 0 G__law_draw room grd (by rfl) T.g__law_draw T.F__law_draw.kp T.b__law_draw rfl rfl (a_cons (e_bi f_lenL (by rfl) T.n_len PySem.boot_len (a_cons (e_var 1 rfl rfl (.inl rfl)) a_nil)) a_nil) rfl rfl (⟨p, (xs.length : Int), hp, (by omega), bits_len h1, rfl, rfl, rfl, rfl⟩) rfl (.inl rfl)) hd) rfl) (one_bor 0 rfl))))

def R__law_frac (ds : List PyData) (d : PyData) : Prop := ∃ a b : Int, b ≠ 0 ∧ Bits 3000 b ∧ ds = [.int a, .int b] ∧ d = fr (mk a b)
theorem ok__law_frac (T : Txt K mg) : FnG P w K mg base CX0 1 T.a__law_frac T.d__law_frac ["above", "below"] (spOf K (pureS R__law_frac)) := by
  refine fn_pure T.F__law_frac sc__law_frac (by rintro _ _ ⟨a, b, _, _, rfl, _⟩; rfl) fun cdv A outer s H E room grd ds d hR => ?_
  obtain ⟨a, b, hb, hs, rfl, rfl⟩ := hR
  exact (
    (ss_cons (s_par 2 3 rfl (e_bi f_abs (by rfl) T.n_abs (by decide +kernel) (a_cons (e_var 0 rfl rfl (.inl rfl)) a_nil)) (e_bi f_abs (by rfl) T.n_abs (by decide +kernel) (a_cons (e_var 1 rfl rfl (.inl rfl)) a_nil)) sc__law_frac.nd rfl rfl (by decide) rfl rfl (by rfl))
    (ss_cons (s_while (wh_euclid (fun x y => [some (.dat (.int a)), some (.dat (.int b)), some (.dat (.int (x : Nat))), some (.dat (.int (y : Nat)))]) (fun x y => (t_cm c_neI (e_var 3 rfl rfl (.inl rfl)) e_int (nomark _))) (fun x y hy => o_conv         (ss_one (s_par 2 3 rfl (e_var 3 rfl rfl (.inl rfl)) (e_bt f_int (by rfl) T.n_int (by decide +kernel) (a_cons (e_mod (by omega) (e_var 2 rfl rfl (.inl rfl)) (e_var 3 rfl rfl (.inl rfl))) a_nil)) sc__law_frac.nd rfl rfl (by decide) rfl rfl (by rfl))) (euclid_env x y)) b.natAbs a.natAbs b.natAbs (Nat.le_refl _)) PassesOwn.never)
    (ss_one (s_ret (e_conv (e_ite (t_cm c_gt (e_var 1 rfl rfl (.inl rfl)) e_int (nomark _)) (fun hi => (e_tup (a_cons (e_fdivX (by exact divX (n := 3000) (gi_ne (a := a) hb) (gi_bits (a := a) hb hs) (by decide)) (e_var 0 rfl rfl (.inl rfl)) (e_var 2 rfl rfl (.inl rfl))) (a_cons (e_fdivX (by exact divX (n := 3000) (gi_ne (a := a) hb) (gi_bits (a := a) hb hs) (by decide)) (e_var 1 rfl rfl (.inl rfl)) (e_var 2 rfl rfl (.inl rfl))) a_nil)))) (fun hj => (e_tup (a_cons (e_fdivX (by exact divX (n := 3000) (gi_ne (a := a) hb) (gi_bits (a := a) hb hs) (by decide)) (e_sub e_int (e_var 0 rfl rfl (.inl rfl))) (e_var 2 rfl rfl (.inl rfl))) (a_cons (e_fdivX (by exact divX (n := 3000) (gi_ne (a := a) hb) (gi_bits (a := a) hb hs) (by decide)) (e_sub e_int (e_var 1 rfl rfl (.inl rfl))) (e_var 2 rfl rfl (.inl rfl))) a_nil))))) (frac_eq hb)))))))

def R__law_plus (ds : List PyData) (d : PyData) : Prop := ∃ a b : Fr, Low a ∧ Low b ∧ Bd 1400 a ∧ Bd 1400 b ∧ ds = [fr a, fr b] ∧ d = fr (fPlus a b)
theorem ok__law_plus (T : Txt K mg) : FnG P w K mg base CX0 2 T.a__law_plus T.d__law_plus ["a", "b"] (spOf K (pureS R__law_plus)) := by
  have G__law_frac := (ok__law_frac (P := P) (w := w) (base := base) T).mono (by decide : 1 ≤ 1)
  refine fn_pure T.F__law_plus sc__law_plus (by rintro _ _ ⟨a, b, _, _, _, _, rfl, _⟩; rfl) fun cdv A outer s H E room grd ds d hR => ?_
  obtain ⟨a, b, la, lb, ba, bb, rfl, rfl⟩ := hR
  exact (
    (ss_one (s_ret (e_conv (e_call G__law_frac room grd (by rfl) T.g__law_frac T.F__law_frac.kp T.b__law_frac (a_cons (e_add (e_mul (by first | exact mulW ba.1 bb.2 (by decide) | exact mulW bb.1 ba.2 (by decide) | exact mulW ba.2 bb.2 (by decide) | exact mulW ba.1 bb.1 (by decide) | exact mulW ba.2 bb.1 (by decide)) (e_ixT (e_var 0 rfl rfl (.inl rfl)) e_int rfl) (e_ixT (e_var 1 rfl rfl (.inl rfl)) e_int rfl)) (e_mul (by first | exact mulW ba.1 bb.2 (by decide) | exact mulW bb.1 ba.2 (by decide) | exact mulW ba.2 bb.2 (by decide) | exact mulW ba.1 bb.1 (by decide) | exact mulW ba.2 bb.1 (by decide)) (e_ixT (e_var 1 rfl rfl (.inl rfl)) e_int rfl) (e_ixT (e_var 0 rfl rfl (.inl rfl)) e_int rfl))) (a_cons (e_mul (by first | exact mulW ba.1 bb.2 (by decide) | exact mulW bb.1 ba.2 (by decide) | exact mulW ba.2 bb.2 (by decide) | exact mulW ba.1 bb.1 (by decide) | exact mulW ba.2 bb.1 (by decide)) (e_ixT (e_var 0 rfl rfl (.inl rfl)) e_int rfl) (e_ixT (e_var 1 rfl rfl (.inl rfl)) e_int rfl)) a_nil)) (⟨_, _, mul_ne la.ne lb.ne, bits_up (mul_bits ba.2 bb.2) (by decide), rfl, rfl⟩)) rfl))))

def R__law_minus (ds : List PyData) (d : PyData) : Prop := ∃ a b : Fr, Low a ∧ Low b ∧ Bd 1400 a ∧ Bd 1400 b ∧ ds = [fr a, fr b] ∧ d = fr (fMinus a b)
theorem ok__law_minus (T : Txt K mg) : FnG P w K mg base CX0 2 T.a__law_minus T.d__law_minus ["a", "b"] (spOf K (pureS R__law_minus)) := by
  have G__law_frac := (ok__law_frac (P := P) (w := w) (base := base) T).mono (by decide : 1 ≤ 1)
  refine fn_pure T.F__law_minus sc__law_minus (by rintro _ _ ⟨a, b, _, _, _, _, rfl, _⟩; rfl) fun cdv A outer s H E room grd ds d hR => ?_
  obtain ⟨a, b, la, lb, ba, bb, rfl, rfl⟩ := hR
  exact (
    (ss_one (s_ret (e_conv (e_call G__law_frac room grd (by rfl) T.g__law_frac T.F__law_frac.kp T.b__law_frac (a_cons (e_sub (e_mul (by first | exact mulW ba.1 bb.2 (by decide) | exact mulW bb.1 ba.2 (by decide) | exact mulW ba.2 bb.2 (by decide) | exact mulW ba.1 bb.1 (by decide) | exact mulW ba.2 bb.1 (by decide)) (e_ixT (e_var 0 rfl rfl (.inl rfl)) e_int rfl) (e_ixT (e_var 1 rfl rfl (.inl rfl)) e_int rfl)) (e_mul (by first | exact mulW ba.1 bb.2 (by decide) | exact mulW bb.1 ba.2 (by decide) | exact mulW ba.2 bb.2 (by decide) | exact mulW ba.1 bb.1 (by decide) | exact mulW ba.2 bb.1 (by decide)) (e_ixT (e_var 1 rfl rfl (.inl rfl)) e_int rfl) (e_ixT (e_var 0 rfl rfl (.inl rfl)) e_int rfl))) (a_cons (e_mul (by first | exact mulW ba.1 bb.2 (by decide) | exact mulW bb.1 ba.2 (by decide) | exact mulW ba.2 bb.2 (by decide) | exact mulW ba.1 bb.1 (by decide) | exact mulW ba.2 bb.1 (by decide)) (e_ixT (e_var 0 rfl rfl (.inl rfl)) e_int rfl) (e_ixT (e_var 1 rfl rfl (.inl rfl)) e_int rfl)) a_nil)) (⟨_, _, mul_ne la.ne lb.ne, bits_up (mul_bits ba.2 bb.2) (by decide), rfl, rfl⟩)) rfl))))

def R__law_some (m ds m' : List PyData) (d : PyData) : Prop := ∃ p : Pot, PotOk p ∧ m = potD p ∧ ds = [] ∧ m' = potD (someC dc p).1 ∧ d = fr (someC dc p).2
theorem ok__law_some (T : Txt K mg) : FnG P w K mg base CX0 3 T.a__law_some T.d__law_some ["pot"] (spOf K (potS R__law_some)) := by
  have G__law_frac := (ok__law_frac (P := P) (w := w) (base := base) T).mono (by decide : 1 ≤ 2)
  have G__law_pick := (ok__law_pick (P := P) (w := w) (base := base) T).mono (by decide : 2 ≤ 2)
  have G__law_draw := (ok__law_draw (P := P) (w := w) (base := base) T).mono (by decide : 1 ≤ 2)
  refine fn_pot T.F__law_some sc__law_some (by rintro _ _ _ _ ⟨p, _, _, rfl, _⟩; rfl) fun cdv A outer s H E room grd q m ds m' d hR => ?_
  obtain ⟨p, hp, rfl, rfl, rfl, rfl⟩ := hR
  obtain ⟨a1, a2, a3⟩ := draw_ok dc_ok hp (n := 25) (by decide)
  obtain ⟨b1, b2, b3⟩ := draw_ok dc_ok a1 (n := 7) (by decide)
  obtain ⟨c1, c2⟩ := small_den b2 b3
  have d1 : ([1, 1, 1, 2, 3, 4, 6] : List Int).getD (draw dc (draw dc p 25).1 7).2.toNat 1 ≠ 0 := by omega
  have d2 : Bits 3000 (([1, 1, 1, 2, 3, 4, 6] : List Int).getD (draw dc (draw dc p 25).1 7).2.toNat 1) := bitsS (by omega)
  exact (
    (ss_one (s_ret (e_conv (e_call G__law_frac room grd (by rfl) T.g__law_frac T.F__law_frac.kp T.b__law_frac (a_cons (e_sub (e_callP 0 G__law_draw room grd (by rfl) T.g__law_draw T.F__law_draw.kp T.b__law_draw rfl rfl (a_cons e_int a_nil) rfl rfl (⟨p, 25, hp, by decide, bitsS (by decide), rfl, rfl, rfl, rfl⟩) rfl (.inl rfl)) e_int) (a_cons (e_callP 0 G__law_pick room grd (by rfl) T.g__law_pick T.F__law_pick.kp T.b__law_pick rfl rfl (a_cons (e_lst (a_cons e_int (a_cons e_int (a_cons e_int (a_cons e_int (a_cons e_int (a_cons e_int (a_cons e_int a_nil)))))))) a_nil) rfl rfl (⟨(draw dc p 25).1, ([1, 1, 1, 2, 3, 4, 6] : List Int).map .int, a1, by decide, by decide, rfl, rfl, rfl, pick_map 1 b2 b3⟩) rfl (.inl rfl)) a_nil)) (⟨_, _, d1, d2, rfl, rfl⟩)) rfl) (one_bor 0 rfl))))

def R__law_vsum (ds : List PyData) (d : PyData) : Prop := ∃ a b : List Fr, Few a ∧ Few b ∧ ds = [vec a, vec b] ∧ d = vec (vPlus a b)
theorem ok__law_vsum (T : Txt K mg) : FnG P w K mg base CX0 3 T.a__law_vsum T.d__law_vsum ["a", "b"] (spOf K (pureS R__law_vsum)) := by
  have G__law_plus := (ok__law_plus (P := P) (w := w) (base := base) T).mono (by decide : 2 ≤ 2)
  refine fn_pure T.F__law_vsum sc__law_vsum (by rintro _ _ ⟨a, b, _, _, rfl, _⟩; rfl) fun cdv A outer s H E room grd ds d hR => ?_
  obtain ⟨a, b, ⟨ha, pa⟩, ⟨hb, pb⟩, rfl, rfl⟩ := hR
  exact (
    (ss_one (s_ret (e_conv (e_conv (e_bt f_tupL (by rfl) T.n_tuple (by decide +kernel) (a_cons (e_lc (own := [("one", 2), ("other", 3)]) rfl sc__law_vsum.nd (i_zipT (by rfl) T.n_zip (a_cons (e_var 0 rfl rfl (.inl rfl)) (a_cons (e_var 1 rfl rfl (.inl rfl)) a_nil))) (blkOk_by (N := ["a", "b", "one", "other"]) (sc := defScope s__law_vsum) (by decide +kernel)) rfl (lc_pair fr fr (fun p => fr (fPlus p.1 p.2)) a b (fun x hx => ⟨_, _, _, (fun _ _ _ _ _ => (g_tup rfl (gs_cons (g_name 2 sc__law_vsum.nd rfl (.inl rfl)) (gs_cons (g_name 3 sc__law_vsum.nd rfl (.inl rfl)) gs_nil)))), (fun _ _ _ _ _ => ts_nil), (fun _ _ _ _ _ => (e_call G__law_plus room grd (by rfl) T.g__law_plus T.F__law_plus.kp T.b__law_plus (a_cons (e_var 2 rfl rfl (.inl rfl)) (a_cons (e_var 3 rfl rfl (.inl rfl)) a_nil)) (⟨x.1, x.2, (pa _ (mem_zip hx).1).1, (pb _ (mem_zip hx).2).1, (pa _ (mem_zip hx).1).2.up (by decide), (pb _ (mem_zip hx).2).2.up (by decide), rfl, rfl⟩))), rfl⟩)) (len_pair ha)) a_nil)) rfl) (vec_zip (f := fPlus))))))

def R__law_vless (ds : List PyData) (d : PyData) : Prop := ∃ a b : List Fr, Few a ∧ Few b ∧ ds = [vec a, vec b] ∧ d = vec (vMinus a b)
theorem ok__law_vless (T : Txt K mg) : FnG P w K mg base CX0 3 T.a__law_vless T.d__law_vless ["a", "b"] (spOf K (pureS R__law_vless)) := by
  have G__law_minus := (ok__law_minus (P := P) (w := w) (base := base) T).mono (by decide : 2 ≤ 2)
  refine fn_pure T.F__law_vless sc__law_vless (by rintro _ _ ⟨a, b, _, _, rfl, _⟩; rfl) fun cdv A outer s H E room grd ds d hR => ?_
  obtain ⟨a, b, ⟨ha, pa⟩, ⟨hb, pb⟩, rfl, rfl⟩ := hR
  exact (
    (ss_one (s_ret (e_conv (e_conv (e_bt f_tupL (by rfl) T.n_tuple (by decide +kernel) (a_cons (e_lc (own := [("one", 2), ("other", 3)]) rfl sc__law_vless.nd (i_zipT (by rfl) T.n_zip (a_cons (e_var 0 rfl rfl (.inl rfl)) (a_cons (e_var 1 rfl rfl (.inl rfl)) a_nil))) (blkOk_by (N := ["a", "b", "one", "other"]) (sc := defScope s__law_vless) (by decide +kernel)) rfl (lc_pair fr fr (fun p => fr (fMinus p.1 p.2)) a b (fun x hx => ⟨_, _, _, (fun _ _ _ _ _ => (g_tup rfl (gs_cons (g_name 2 sc__law_vless.nd rfl (.inl rfl)) (gs_cons (g_name 3 sc__law_vless.nd rfl (.inl rfl)) gs_nil)))), (fun _ _ _ _ _ => ts_nil), (fun _ _ _ _ _ => (e_call G__law_minus room grd (by rfl) T.g__law_minus T.F__law_minus.kp T.b__law_minus (a_cons (e_var 2 rfl rfl (.inl rfl)) (a_cons (e_var 3 rfl rfl (.inl rfl)) a_nil)) (⟨x.1, x.2, (pa _ (mem_zip hx).1).1, (pb _ (mem_zip hx).2).1, (pa _ (mem_zip hx).1).2.up (by decide), (pb _ (mem_zip hx).2).2.up (by decide), rfl, rfl⟩))), rfl⟩)) (len_pair ha)) a_nil)) rfl) (vec_zip (f := fMinus))))))

def R__law_back (ds : List PyData) (d : PyData) : Prop := ∃ v : List Fr, v.length ≤ 3 ∧ ds = [vec v] ∧ d = vec (vNeg v)
theorem ok__law_back (T : Txt K mg) : FnG P w K mg base CX0 1 T.a__law_back T.d__law_back ["a"] (spOf K (pureS R__law_back)) := by
  refine fn_pure T.F__law_back sc__law_back (by rintro _ _ ⟨_, _, rfl, _⟩; rfl) fun cdv A outer s H E room grd ds d hR => ?_
  obtain ⟨v, h, rfl, rfl⟩ := hR
  exact (
    (ss_one (s_ret (e_conv (e_conv (e_bt f_tupL (by rfl) T.n_tuple (by decide +kernel) (a_cons (e_lc (own := [("one", 1)]) rfl sc__law_back.nd (i_tup (e_var 0 rfl rfl (.inl rfl))) (blkOk_by (N := ["a", "one"]) (sc := defScope s__law_back) (by decide +kernel)) rfl (lc_map fr (fun p => fr (0 - p.1, p.2)) v (fun x hx => ⟨_, _, _, (fun _ _ _ _ _ => (g_name 1 sc__law_back.nd rfl (.inl rfl))), (fun _ _ _ _ _ => ts_nil), (fun _ _ _ _ _ => (e_tup (a_cons (e_sub e_int (e_ixT (e_var 1 rfl rfl (.inl rfl)) e_int rfl)) (a_cons (e_ixT (e_var 1 rfl rfl (.inl rfl)) e_int rfl) a_nil)))), rfl⟩)) (len_map (by omega))) a_nil)) rfl) (vec_map (f := fun p : Fr => (0 - p.1, p.2)))))))

def R__law_vector (m ds m' : List PyData) (d : PyData) : Prop := ∃ (p : Pot) (n : Int), PotOk p ∧ 1 ≤ n ∧ n ≤ 3 ∧ m = potD p ∧ ds = [.int n] ∧ m' = potD (vecC dc p n).1 ∧ d = vec (vecC dc p n).2
theorem ok__law_vector (T : Txt K mg) : FnG P w K mg base CX0 4 T.a__law_vector T.d__law_vector ["pot", "dims"] (spOf K (potS R__law_vector)) := by
  have G__law_some := (ok__law_some (P := P) (w := w) (base := base) T).mono (by decide : 3 ≤ 3)
  refine fn_pot T.F__law_vector sc__law_vector (by rintro _ _ _ _ ⟨_, _, _, _, _, _, rfl, _⟩; rfl) fun cdv A outer s H E room grd q m ds m' d hR => ?_
  obtain ⟨p, n, hp, h1, h2, rfl, rfl, rfl, rfl⟩ := hR
  exact (
    (ss_one (s_ret (e_conv (e_conv (e_bt f_tupL (by rfl) T.n_tuple (by decide +kernel) (a_cons (e_lc (own := [("at", 2)]) rfl sc__law_vector.nd (i_range1 (by rfl) T.n_range (a_cons (e_var 1 rfl rfl (.inl rfl)) a_nil) (by omega)) (blkOk_by (N := ["pot", "dims", "at"]) (sc := defScope s__law_vector) (by decide +kernel)) rfl (lc_stateT (fun i : Nat => PyData.int (0 + (i : Int))) fr (someCF dc) (fun b => [some (.bor q (.lst (potD b))), some (.dat (.int n)), none]) (fun _ b => PotOk b) (List.range n.toNat) p (fun x r b hb => ⟨_, _, _, (fun _ _ _ _ _ => (g_name 2 sc__law_vector.nd rfl (.inl rfl))), (fun _ _ _ _ _ => ts_nil), (fun _ _ _ _ _ => (e_callP 0 G__law_some room grd (by rfl) T.g__law_some T.F__law_some.kp T.b__law_some rfl rfl a_nil rfl rfl (⟨b, hb, rfl, rfl, rfl, rfl⟩) rfl (.inr (.inl rfl)))), rfl, (someC_tw dc_ok hb).1⟩) hp) (len_map (by rw [List.length_range]; omega))) a_nil)) rfl) rfl) (one_bor 0 rfl))))

def R__law_survey (m ds m' : List PyData) (d : PyData) : Prop := ∃ (p : Pot) (dims n legs wrong : Int), PotOk p ∧ 1 ≤ dims ∧ dims ≤ 3 ∧ 1 ≤ n ∧ n ≤ 24 ∧ 0 ≤ legs ∧ legs ≤ 60 ∧ m = potD p ∧ ds = [.int dims, .int n, .int legs, .int wrong] ∧ m' = potD (svC dc p dims n legs wrong).1 ∧ d = encS (svC dc p dims n legs wrong).2
theorem ok__law_survey (T : Txt K mg) : FnG P w K mg base CX0 5 T.a__law_survey T.d__law_survey ["pot", "dims", "stations", "legs", "wrong"] (spOf K (potS R__law_survey)) := by
  have G__law_vector := (ok__law_vector (P := P) (w := w) (base := base) T).mono (by decide : 4 ≤ 4)
  have G__law_draw := (ok__law_draw (P := P) (w := w) (base := base) T).mono (by decide : 1 ≤ 4)
  have G__law_vless := (ok__law_vless (P := P) (w := w) (base := base) T).mono (by decide : 3 ≤ 4)
  have G__law_vsum := (ok__law_vsum (P := P) (w := w) (base := base) T).mono (by decide : 3 ≤ 4)
  have G__law_pick := (ok__law_pick (P := P) (w := w) (base := base) T).mono (by decide : 2 ≤ 4)
  refine fn_pot T.F__law_survey sc__law_survey (by rintro _ _ _ _ ⟨_, _, _, _, _, _, _, _, _, _, _, _, _, rfl, _⟩; rfl) fun cdv A outer s H E room grd q m ds m' d hR => ?_
  obtain ⟨p, dims, n, legs, wrong, hp, d1, d3, n1, n24, l0, l60, rfl, rfl, rfl, rfl⟩ := hR
  obtain ⟨c1, c2, c3⟩ := placesC_ok dc_ok hp dims n
  have some0 : List.range (if decide (1 < n) = true then legs else 0).toNat ≠ [] → 2 ≤ n := fun h => by
    by_cases z : 1 < n
    · omega
    · rw [if_neg (by simpa using z)] at h
      exact absurd rfl h
  have len0 : (List.range (if decide (1 < n) = true then legs else 0).toNat).length ≤ 60 := by
    rw [List.length_range]
    split <;> omega
  exact (
    (ss_cons (s_setLc 5 (own := [("station", 12)]) rfl sc__law_survey.nd rfl rfl (sw_true rfl rfl rfl (by decide +kernel)) (i_range1 (by rfl) T.n_range (a_cons (e_var 2 rfl rfl (.inl rfl)) a_nil) (by omega)) (blkOk_by (N := ["pot", "dims", "stations", "legs", "wrong", "places", "found", "turn", "start", "end", "vector", "slack", "station", "at"]) (sc := defScope s__law_survey) (by decide +kernel)) rfl (lc_stateT (fun i : Nat => PyData.int (0 + (i : Int))) vec (vecCF dc dims) (fun b => [some (.bor q (.lst (potD b))), some (.dat (.int dims)), some (.dat (.int n)), some (.dat (.int legs)), some (.dat (.int wrong)), none, none, none, none, none, none, none, none, none]) (fun _ b => PotOk b) (List.range n.toNat) p (fun x r b hb => ⟨_, _, _, (fun _ _ _ _ _ => (g_name 12 sc__law_survey.nd rfl (.inl rfl))), (fun _ _ _ _ _ => ts_nil), (fun _ _ _ _ _ => (e_callP 0 G__law_vector room grd (by rfl) T.g__law_vector T.F__law_vector.kp T.b__law_vector rfl rfl (a_cons (e_var 1 rfl rfl (.inr (.inl rfl))) a_nil) rfl rfl (⟨b, dims, hb, d1, d3, rfl, rfl, rfl, rfl⟩) rfl (.inr (.inl rfl)))), rfl, (vecC_tw dc_ok hb dims).1⟩) hp) (len_map (by rw [List.length_range]; omega)) (Nat.le_of_ble_eq_true rfl))
    (ss_cons (s_setO 6 (o_lst a_nil) sc__law_survey.nd rfl (.inl rfl))
    (ss_cons (s_forF [7, 8, 9, 10, 11, 13] (i_range1 (by rfl) T.n_range (a_cons (e_iteI (t_cm c_gt (e_var 2 rfl rfl (.inl rfl)) e_int (nomark _)) (fun hi => (e_var 3 rfl rfl (.inl rfl))) (fun hj => e_int)) a_nil) (by split <;> omega)) (forD_run [7, 8, 9, 10, 11, 13] (fun i : Nat => PyData.int (0 + (i : Int))) (legF dc (placesC dc p dims n).2 dims n wrong) (fun b acc => [some (.bor q (.lst (potD b))), some (.dat (.int dims)), some (.dat (.int n)), some (.dat (.int legs)), some (.dat (.int wrong)), some (.dat (.list ((placesC dc p dims n).2.map vec))), some (.own (.lst (acc.map encLeg))), none, none, none, none, none, none, none]) (fun r b acc => PotOk b ∧ acc.length + r.length ≤ 60 ∧ (r ≠ [] → 2 ≤ n)) (List.range (if decide (1 < n) = true then legs else 0).toNat) (placesC dc p dims n).1 [] (fun x r b0 a ⟨hb0, ha, h2⟩ => have n2 := h2 (List.cons_ne_nil _ _); have L := leg_st (dims := dims) dc_ok hb0 n2 d3 c2 c3; have K := (legC_ok (wrong := wrong) dc_ok hb0 n2 c2 c3).1; ⟨_, (fun b acc => [some (.bor q (.lst (potD b))), some (.dat (.int dims)), some (.dat (.int n)), some (.dat (.int legs)), some (.dat (.int wrong)), some (.dat (.list ((placesC dc p dims n).2.map vec))), some (.own (.lst (acc.map encLeg))), none, none, none, none, none, none, none]) (legF dc (placesC dc p dims n).2 dims n wrong b0 x).1 (a ++ [(legF dc (placesC dc p dims n).2 dims n wrong b0 x).2]), (g_name 7 sc__law_survey.nd rfl (.inl rfl)),         (ss_cons (s_set 8 (e_callP 0 G__law_draw room grd (by rfl) T.g__law_draw T.F__law_draw.kp T.b__law_draw rfl rfl (a_cons (e_var 2 rfl rfl (.inl rfl)) a_nil) rfl rfl (⟨b0, n, hb0, (by omega), bitsS (by omega), rfl, rfl, rfl, rfl⟩) rfl (.inr (.inl rfl))) sc__law_survey.nd rfl (.inl rfl))
        (ss_cons (s_set 9 (e_bt f_int (by rfl) T.n_int (by decide +kernel) (a_cons (e_mod (by omega) (e_add (e_add (e_var 8 rfl rfl (.inl rfl)) e_int) (e_callP 0 G__law_draw room grd (by rfl) T.g__law_draw T.F__law_draw.kp T.b__law_draw rfl rfl (a_cons (e_sub (e_var 2 rfl rfl (.inl rfl)) e_int) a_nil) rfl rfl (⟨(draw dc b0 n).1, n - 1, L.a, (by omega), bitsS (by omega), rfl, rfl, rfl, rfl⟩) rfl (.inr (.inl rfl)))) (e_var 2 rfl rfl (.inl rfl))) a_nil)) sc__law_survey.nd rfl (.inl rfl))
        (ss_cons (s_set 10 (e_call G__law_vless room grd (by rfl) T.g__law_vless T.F__law_vless.kp T.b__law_vless (a_cons (e_ixL (e_var 5 rfl rfl (.inl rfl)) (e_var 9 rfl rfl (.inl rfl)) (pick_map [] L.e0 L.e1)) (a_cons (e_ixL (e_var 5 rfl rfl (.inl rfl)) (e_var 8 rfl rfl (.inl rfl)) (pick_map [] L.a0 L.a1)) a_nil)) (⟨_, _, L.pe, L.ps, rfl, rfl⟩)) sc__law_survey.nd rfl (.inl rfl))
        (ss_split (t_cm c_lt (e_callP 0 G__law_draw room grd (by rfl) T.g__law_draw T.F__law_draw.kp T.b__law_draw rfl rfl (a_cons e_int a_nil) rfl rfl (⟨(draw dc (draw dc b0 n).1 (n - 1)).1, 10, L.e, by decide, bitsS (by decide), rfl, rfl, rfl, rfl⟩) rfl (.inr (.inl rfl))) (e_var 4 rfl rfl (.inl rfl)) (nomark _))
        (fun h11 ch11 => (o_conv (ss_forget [7, 8, 9, 10, 11, 13] (ss_cons (s_ifT ch11 (
          (ss_one (s_set 10 (e_call G__law_vsum room grd (by rfl) T.g__law_vsum T.F__law_vsum.kp T.b__law_vsum (a_cons (e_var 10 rfl rfl (.inl rfl)) (a_cons (e_callP 0 G__law_vector room grd (by rfl) T.g__law_vector T.F__law_vector.kp T.b__law_vector rfl rfl (a_cons (e_var 1 rfl rfl (.inr (.inl rfl))) a_nil) rfl rfl (⟨(legQ dc n b0).1, dims, L.q, d1, d3, rfl, rfl, rfl, rfl⟩) rfl (.inr (.inl rfl))) a_nil)) (⟨legV0 dc (placesC dc p dims n).2 n b0, (vecC dc (legQ dc n b0).1 dims).2, L.v0, L.vf, rfl, rfl⟩)) sc__law_survey.nd rfl (.inl rfl)))))
          (ss_cons (s_set 11 (e_conv (e_bt f_tupL (by rfl) T.n_tuple (by decide +kernel) (a_cons (e_lc (own := [("at", 13)]) rfl sc__law_survey.nd (i_range1 (by rfl) T.n_range (a_cons (e_var 1 rfl rfl (.inr (.inl rfl))) a_nil) (by omega)) (blkOk_by (N := ["pot", "dims", "stations", "legs", "wrong", "places", "found", "turn", "start", "end", "vector", "slack", "station", "at"]) (sc := defScope s__law_survey) (by decide +kernel)) rfl (lc_stateT (fun i : Nat => PyData.int (0 + (i : Int))) fr (slackF dc) (fun b => [some (.bor q (.lst (potD b))), some (.dat (.int dims)), some (.dat (.int n)), some (.dat (.int legs)), some (.dat (.int wrong)), some (.dat (.list ((placesC dc p dims n).2.map vec))), some (.own (.lst (a.map encLeg))), some (.dat (.int (0 + (x : Int)))), some (.dat (.int (draw dc b0 n).2)), some (.dat (.int (legE dc n b0))), some (.dat (vec (vPlus (legV0 dc (placesC dc p dims n).2 n b0) (vecC dc (legQ dc n b0).1 dims).2))), none, none, none]) (fun _ b => PotOk b) (List.range dims.toNat) (vecC dc (legQ dc n b0).1 dims).1 (fun y r b hb => have D := draw_ok dc_ok hb (n := 4) (by decide); ⟨_, _, _, (fun _ _ _ _ _ => (g_name 13 sc__law_survey.nd rfl (.inl rfl))), (fun _ _ _ _ _ => ts_nil), (fun _ _ _ _ _ => (e_callP 0 G__law_pick room grd (by rfl) T.g__law_pick T.F__law_pick.kp T.b__law_pick rfl rfl (a_cons (e_lst (a_cons (e_tup (a_cons e_int (a_cons e_int a_nil))) (a_cons (e_tup (a_cons e_int (a_cons e_int a_nil))) (a_cons (e_tup (a_cons e_int (a_cons e_int a_nil))) (a_cons (e_tup (a_cons e_int (a_cons e_int a_nil))) a_nil))))) a_nil) rfl rfl (⟨b, slacks.map fr, hb, (show 0 < 4 by decide), (show 4 ≤ 1000000 by decide), rfl, rfl, (rfl : potD (draw dc b 4).1 = _), pick_map (0, 1) D.2.1 (by exact D.2.2)⟩) rfl (.inr (.inl rfl)))), rfl, D.1⟩) L.v) (len_map (by rw [List.length_range]; omega))) a_nil)) rfl) sc__law_survey.nd rfl (.inl rfl))
          (ss_one (s_expr (e_append 6 rfl rfl rfl (.inl rfl) (e_tup (a_cons (e_callP 0 G__law_draw room grd (by rfl) T.g__law_draw T.F__law_draw.kp T.b__law_draw rfl rfl (a_cons e_int a_nil) rfl rfl (⟨(slackC dc (vecC dc (legQ dc n b0).1 dims).1 dims).1, 6, (slackC_ok dc_ok L.v dims).1, by decide, bitsS (by decide), rfl, rfl, rfl, rfl⟩) rfl (.inr (.inl rfl))) (a_cons (e_var 8 rfl rfl (.inl rfl)) (a_cons (e_var 9 rfl rfl (.inl rfl)) (a_cons (e_var 10 rfl rfl (.inl rfl)) (a_cons (e_var 11 rfl rfl (.inl rfl)) (a_cons (e_callP 0 G__law_pick room grd (by rfl) T.g__law_pick T.F__law_pick.kp T.b__law_pick rfl rfl (a_cons (e_lst (a_cons (e_tup (a_cons e_int (a_cons e_int a_nil))) (a_cons (e_tup (a_cons e_int (a_cons e_int a_nil))) (a_cons (e_tup (a_cons e_int (a_cons e_int a_nil))) (a_cons (e_tup (a_cons e_int (a_cons e_int a_nil))) (a_cons (e_tup (a_cons e_int (a_cons e_int a_nil))) a_nil)))))) a_nil) rfl rfl (⟨(draw dc (slackC dc (vecC dc (legQ dc n b0).1 dims).1 dims).1 6).1, weights.map fr, (draw_ok dc_ok (slackC_ok dc_ok L.v dims).1 (by decide)).1, (show 0 < 5 by decide), (show 5 ≤ 1000000 by decide), rfl, rfl, (rfl : potD (draw dc (draw dc (slackC dc (vecC dc (legQ dc n b0).1 dims).1 dims).1 6).1 5).1 = _), pick_map (1, 1) (draw_ok dc_ok (draw_ok dc_ok (slackC_ok dc_ok L.v dims).1 (by decide)).1 (n := 5) (by decide)).2.1 (by exact (draw_ok dc_ok (draw_ok dc_ok (slackC_ok dc_ok L.v dims).1 (by decide)).1 (n := 5) (by decide)).2.2)⟩) rfl (.inr (.inl rfl))) a_nil))))))) rfl rfl (len_map_lt (by rw [List.length_cons] at ha; omega)))))))) (by rw [legF_pos (by assumption)]; simp only [List.map_append]; rfl)))
        (fun h11 ch11 => (o_conv (ss_forget [7, 8, 9, 10, 11, 13] (ss_cons (s_ifF ch11 (
          ss_nil))
          (ss_cons (s_set 11 (e_conv (e_bt f_tupL (by rfl) T.n_tuple (by decide +kernel) (a_cons (e_lc (own := [("at", 13)]) rfl sc__law_survey.nd (i_range1 (by rfl) T.n_range (a_cons (e_var 1 rfl rfl (.inr (.inl rfl))) a_nil) (by omega)) (blkOk_by (N := ["pot", "dims", "stations", "legs", "wrong", "places", "found", "turn", "start", "end", "vector", "slack", "station", "at"]) (sc := defScope s__law_survey) (by decide +kernel)) rfl (lc_stateT (fun i : Nat => PyData.int (0 + (i : Int))) fr (slackF dc) (fun b => [some (.bor q (.lst (potD b))), some (.dat (.int dims)), some (.dat (.int n)), some (.dat (.int legs)), some (.dat (.int wrong)), some (.dat (.list ((placesC dc p dims n).2.map vec))), some (.own (.lst (a.map encLeg))), some (.dat (.int (0 + (x : Int)))), some (.dat (.int (draw dc b0 n).2)), some (.dat (.int (legE dc n b0))), some (.dat (vec (legV0 dc (placesC dc p dims n).2 n b0))), none, none, none]) (fun _ b => PotOk b) (List.range dims.toNat) (legQ dc n b0).1 (fun y r b hb => have D := draw_ok dc_ok hb (n := 4) (by decide); ⟨_, _, _, (fun _ _ _ _ _ => (g_name 13 sc__law_survey.nd rfl (.inl rfl))), (fun _ _ _ _ _ => ts_nil), (fun _ _ _ _ _ => (e_callP 0 G__law_pick room grd (by rfl) T.g__law_pick T.F__law_pick.kp T.b__law_pick rfl rfl (a_cons (e_lst (a_cons (e_tup (a_cons e_int (a_cons e_int a_nil))) (a_cons (e_tup (a_cons e_int (a_cons e_int a_nil))) (a_cons (e_tup (a_cons e_int (a_cons e_int a_nil))) (a_cons (e_tup (a_cons e_int (a_cons e_int a_nil))) a_nil))))) a_nil) rfl rfl (⟨b, slacks.map fr, hb, (show 0 < 4 by decide), (show 4 ≤ 1000000 by decide), rfl, rfl, (rfl : potD (draw dc b 4).1 = _), pick_map (0, 1) D.2.1 (by exact D.2.2)⟩) rfl (.inr (.inl rfl)))), rfl, D.1⟩) L.q) (len_map (by rw [List.length_range]; omega))) a_nil)) rfl) sc__law_survey.nd rfl (.inl rfl))
          (ss_one (s_expr (e_append 6 rfl rfl rfl (.inl rfl) (e_tup (a_cons (e_callP 0 G__law_draw room grd (by rfl) T.g__law_draw T.F__law_draw.kp T.b__law_draw rfl rfl (a_cons e_int a_nil) rfl rfl (⟨(slackC dc (legQ dc n b0).1 dims).1, 6, (slackC_ok dc_ok L.q dims).1, by decide, bitsS (by decide), rfl, rfl, rfl, rfl⟩) rfl (.inr (.inl rfl))) (a_cons (e_var 8 rfl rfl (.inl rfl)) (a_cons (e_var 9 rfl rfl (.inl rfl)) (a_cons (e_var 10 rfl rfl (.inl rfl)) (a_cons (e_var 11 rfl rfl (.inl rfl)) (a_cons (e_callP 0 G__law_pick room grd (by rfl) T.g__law_pick T.F__law_pick.kp T.b__law_pick rfl rfl (a_cons (e_lst (a_cons (e_tup (a_cons e_int (a_cons e_int a_nil))) (a_cons (e_tup (a_cons e_int (a_cons e_int a_nil))) (a_cons (e_tup (a_cons e_int (a_cons e_int a_nil))) (a_cons (e_tup (a_cons e_int (a_cons e_int a_nil))) (a_cons (e_tup (a_cons e_int (a_cons e_int a_nil))) a_nil)))))) a_nil) rfl rfl (⟨(draw dc (slackC dc (legQ dc n b0).1 dims).1 6).1, weights.map fr, (draw_ok dc_ok (slackC_ok dc_ok L.q dims).1 (by decide)).1, (show 0 < 5 by decide), (show 5 ≤ 1000000 by decide), rfl, rfl, (rfl : potD (draw dc (draw dc (slackC dc (legQ dc n b0).1 dims).1 6).1 5).1 = _), pick_map (1, 1) (draw_ok dc_ok (draw_ok dc_ok (slackC_ok dc_ok L.q dims).1 (by decide)).1 (n := 5) (by decide)).2.1 (by exact (draw_ok dc_ok (draw_ok dc_ok (slackC_ok dc_ok L.q dims).1 (by decide)).1 (n := 5) (by decide)).2.2)⟩) rfl (.inr (.inl rfl))) a_nil))))))) rfl rfl (len_map_lt (by rw [List.length_cons] at ha; omega)))))))) (by rw [legF_neg (by assumption)]; simp only [List.map_append]; rfl))))))), rfl, ⟨K, (by rw [List.length_append, List.length_singleton]; rw [List.length_cons] at ha; omega), fun _ => n2⟩⟩) ⟨c1, (by show 0 + _ ≤ 60; omega), some0⟩) PassesOwn.never rfl)
(ss_fix 6 rfl
    (ss_one (s_ret (e_conv (e_tup (a_cons e_str (a_cons (e_var 1 rfl rfl (.inr (.inl rfl))) (a_cons (e_var 2 rfl rfl (.inl rfl)) (a_cons (e_conv (e_bt f_tupL (by rfl) T.n_tuple (by decide +kernel) (a_cons (e_var 6 rfl rfl (.inl rfl)) a_nil)) rfl) a_nil))))) rfl) (one_bor 0 rfl))))))))

def R__law_ends (ds : List PyData) (d : PyData) : Prop := ∃ (s : Sv) (p : Fr), okStep (lenS s) p = true ∧ ds = [encS s, fr p] ∧ d = fr (endsF s p)
theorem ok__law_ends (T : Txt K mg) : FnG P w K mg base CX0 1 T.a__law_ends T.d__law_ends ["survey", "step"] (spOf K (pureS R__law_ends)) := by
  refine fn_pure T.F__law_ends sc__law_ends (by rintro _ _ ⟨_, _, _, rfl, _⟩; rfl) fun cdv A outer s H E room grd ds d hR => ?_
  obtain ⟨s, p, hp, rfl, rfl⟩ := hR
  exact (
    (ss_cons (s_set 2 (e_ixT (e_ixT (e_var 0 rfl rfl (.inl rfl)) e_int rfl) (e_ixT (e_var 1 rfl rfl (.inl rfl)) e_int rfl) (gAt_pick hp)) sc__law_ends.nd rfl (.inl rfl))
    (ss_one (s_ret (e_conv (e_ite (t_cm c_eqI (e_ixT (e_var 1 rfl rfl (.inl rfl)) e_int rfl) e_int (nomark _)) (fun hi => (e_tup (a_cons (e_ixT (e_var 2 rfl rfl (.inl rfl)) e_int rfl) (a_cons (e_ixT (e_var 2 rfl rfl (.inl rfl)) e_int rfl) a_nil)))) (fun hj => (e_tup (a_cons (e_ixT (e_var 2 rfl rfl (.inl rfl)) e_int rfl) (a_cons (e_ixT (e_var 2 rfl rfl (.inl rfl)) e_int rfl) a_nil))))) ends_eq)))))

def R__law_total (ds : List PyData) (d : PyData) : Prop := ∃ (s : Sv) (w : List Fr), SvTw s ∧ WalkOk s w ∧ (ds = [encS s, .list (w.map fr)] ∨ ds = [encS s, .tuple (w.map fr)]) ∧ d = vec (sumF s w)
theorem ok__law_total (T : Txt K mg) : FnG P w K mg base CX0 4 T.a__law_total T.d__law_total ["survey", "walk"] (spOf K (pureS R__law_total)) := by
  have G__law_vsum := (ok__law_vsum (P := P) (w := w) (base := base) T).mono (by decide : 3 ≤ 3)
  have G__law_back := (ok__law_back (P := P) (w := w) (base := base) T).mono (by decide : 1 ≤ 3)
  refine fn_pure T.F__law_total sc__law_total (by rintro _ _ ⟨_, _, _, _, (rfl | rfl), _⟩ <;> rfl) fun cdv A outer s H E room grd ds d hR => ?_
  obtain ⟨s, w, S, W, (rfl | rfl), rfl⟩ := hR
  · have d1 := S.ok.d1
    have d3 := S.ok.d3
    rw [← sum_fold]
    exact (
    (ss_cons (s_set 2 (e_repTn (e_tup (a_cons (e_tup (a_cons e_int (a_cons e_int a_nil))) a_nil)) (e_ixT (e_var 0 rfl rfl (.inl rfl)) e_int rfl) d1 (by omega) (fun z => nomatch z) (by decide) (rep_vec (p := (0, 1)) _)) sc__law_total.nd rfl (.inl rfl))
    (ss_cons (s_forF [3, 4, 5] (i_list (e_var 1 rfl rfl (.inl rfl))) (forD_fold [3, 4, 5] fr (fun f p => vPlus f (stepV s p)) (fun f => [some (.dat (encS s)), some (.dat (.list (w.map fr))), some (.dat (vec f)), none, none, none]) (fun r f => ∃ k : Int, 0 ≤ k ∧ f.length = s.dims.toNat ∧ (∀ x ∈ f, Tw k x) ∧ (∀ p ∈ r, okStep (lenS s) p = true) ∧ k + 36 * r.length ≤ 36000) w (vZero s.dims) (fun x r f ⟨k, k0, q1, q2, q3, q4⟩ => have hx := q3 x List.mem_cons_self; have m := stepV_tw S hx; ⟨_, _, (g_tup rfl (gs_cons (g_name 3 sc__law_total.nd rfl (.inl rfl)) (gs_cons (g_name 4 sc__law_total.nd rfl (.inl rfl)) gs_nil))),         (ss_cons (s_set 5 (e_ixT (e_ixT (e_ixT (e_var 0 rfl rfl (.inl rfl)) e_int rfl) (e_var 3 rfl rfl (.inl rfl)) (gAt_pick hx)) e_int (by rfl)) sc__law_total.nd rfl (.inl rfl))
        (ss_one (s_set 2 (e_call G__law_vsum room grd (by rfl) T.g__law_vsum T.F__law_vsum.kp T.b__law_vsum (a_cons (e_var 2 rfl rfl (.inl rfl)) (a_cons (e_ite (t_cm c_eqI (e_var 4 rfl rfl (.inl rfl)) e_int (nomark _)) (fun hi => (e_var 5 rfl rfl (.inl rfl))) (fun hj => (e_call G__law_back room grd (by rfl) T.g__law_back T.F__law_back.kp T.b__law_back (a_cons (e_var 5 rfl rfl (.inl rfl)) a_nil) (⟨(gAt s x.1).v, leg_few S.ok hx, rfl, rfl⟩)))) a_nil)) (⟨f, stepV s x, few_tw (by omega) q2 k0 (by omega), few_tw (k := 36) (by rw [m.1]; omega) m.2 (by decide) (by decide), (by rw [← step_vec]), rfl⟩)) sc__law_total.nd rfl (.inl rfl)))), rfl, ⟨k + 36, by omega, vPlus_len q1 m.1, vPlus_tw q2 m.2, fun v hv => q3 v (List.mem_cons_of_mem _ hv), by rw [List.length_cons] at q4; omega⟩⟩) ⟨0, Int.le_refl 0, List.length_replicate .., vZero_tw _, W.ok, by have := W.len; omega⟩) PassesOwn.never rfl)
    (ss_one (s_ret (e_conv (e_var 2 rfl rfl (.inl rfl)) rfl))))))
  · have d1 := S.ok.d1
    have d3 := S.ok.d3
    rw [← sum_fold]
    exact (
    (ss_cons (s_set 2 (e_repTn (e_tup (a_cons (e_tup (a_cons e_int (a_cons e_int a_nil))) a_nil)) (e_ixT (e_var 0 rfl rfl (.inl rfl)) e_int rfl) d1 (by omega) (fun z => nomatch z) (by decide) (rep_vec (p := (0, 1)) _)) sc__law_total.nd rfl (.inl rfl))
    (ss_cons (s_forF [3, 4, 5] (i_tup (e_var 1 rfl rfl (.inl rfl))) (forD_fold [3, 4, 5] fr (fun f p => vPlus f (stepV s p)) (fun f => [some (.dat (encS s)), some (.dat (.tuple (w.map fr))), some (.dat (vec f)), none, none, none]) (fun r f => ∃ k : Int, 0 ≤ k ∧ f.length = s.dims.toNat ∧ (∀ x ∈ f, Tw k x) ∧ (∀ p ∈ r, okStep (lenS s) p = true) ∧ k + 36 * r.length ≤ 36000) w (vZero s.dims) (fun x r f ⟨k, k0, q1, q2, q3, q4⟩ => have hx := q3 x List.mem_cons_self; have m := stepV_tw S hx; ⟨_, _, (g_tup rfl (gs_cons (g_name 3 sc__law_total.nd rfl (.inl rfl)) (gs_cons (g_name 4 sc__law_total.nd rfl (.inl rfl)) gs_nil))),         (ss_cons (s_set 5 (e_ixT (e_ixT (e_ixT (e_var 0 rfl rfl (.inl rfl)) e_int rfl) (e_var 3 rfl rfl (.inl rfl)) (gAt_pick hx)) e_int (by rfl)) sc__law_total.nd rfl (.inl rfl))
        (ss_one (s_set 2 (e_call G__law_vsum room grd (by rfl) T.g__law_vsum T.F__law_vsum.kp T.b__law_vsum (a_cons (e_var 2 rfl rfl (.inl rfl)) (a_cons (e_ite (t_cm c_eqI (e_var 4 rfl rfl (.inl rfl)) e_int (nomark _)) (fun hi => (e_var 5 rfl rfl (.inl rfl))) (fun hj => (e_call G__law_back room grd (by rfl) T.g__law_back T.F__law_back.kp T.b__law_back (a_cons (e_var 5 rfl rfl (.inl rfl)) a_nil) (⟨(gAt s x.1).v, leg_few S.ok hx, rfl, rfl⟩)))) a_nil)) (⟨f, stepV s x, few_tw (by omega) q2 k0 (by omega), few_tw (k := 36) (by rw [m.1]; omega) m.2 (by decide) (by decide), (by rw [← step_vec]), rfl⟩)) sc__law_total.nd rfl (.inl rfl)))), rfl, ⟨k + 36, by omega, vPlus_len q1 m.1, vPlus_tw q2 m.2, fun v hv => q3 v (List.mem_cons_of_mem _ hv), by rw [List.length_cons] at q4; omega⟩⟩) ⟨0, Int.le_refl 0, List.length_replicate .., vZero_tw _, W.ok, by have := W.len; omega⟩) PassesOwn.never rfl)
    (ss_one (s_ret (e_conv (e_var 2 rfl rfl (.inl rfl)) rfl))))))

def R__law_is_step (ds : List PyData) (d : PyData) : Prop := ∃ (s : Sv) (x : PyData), ds = [encS s, x] ∧ d = .bool (isStep (lenS s) x)
theorem ok__law_is_step (T : Txt K mg) : FnG P w K mg base CX0 1 T.a__law_is_step T.d__law_is_step ["survey", "value"] (spOf K (pureS R__law_is_step)) := by
  refine fn_pure T.F__law_is_step sc__law_is_step (by rintro _ _ ⟨_, _, rfl, _⟩; rfl) fun cdv A outer s H E room grd ds d hR => ?_
  obtain ⟨s, x, rfl, rfl⟩ := hR
  by_cases h : isName x "tuple" = true
  · obtain ⟨l, rfl⟩ := tuple_of h
    by_cases hl : l.length = 2
    · obtain ⟨a, b, rfl⟩ := two_of hl
      by_cases ha : isI a = true
      · obtain ⟨i, rfl⟩ := int_of ha
        by_cases hb : isI b = true
        · obtain ⟨j, rfl⟩ := int_of hb
          exact (
    (ss_cons (s_ifF (t_conv (t_w (w_or (t_not (t_val (e_isi1 (by rfl) T.n_isinstance (pe_bltn (by rfl) T.n_tuple (by decide +kernel) rfl) kit_tuple (e_var 1 rfl rfl (.inl rfl))))) fun hw => (w_or1 (t_cm c_neI (e_bi f_lenT (by rfl) T.n_len PySem.boot_len (a_cons (e_var 1 rfl rfl (.inl rfl)) a_nil)) e_int (nomark _))))) (by first | rfl | (rw [ho]; rfl))) (
      ss_nil))
    (ss_cons (s_ifF (t_conv (t_not (t_val (e_bi (f_all rfl (isI_map _)) (by rfl) T.n_all (by decide +kernel) (a_cons (e_lc (own := [("one", 2)]) rfl sc__law_is_step.nd (i_tup (e_var 1 rfl rfl (.inl rfl))) (blkOk_by (N := ["survey", "value", "one"]) (sc := defScope s__law_is_step) (by decide +kernel)) rfl (lc_each (fun x => .bool (isI x)) _ (fun x hx => ⟨_, _, _, (fun _ _ _ _ _ => (g_name 2 sc__law_is_step.nd rfl (.inl rfl))), (fun _ _ _ _ _ => ts_nil), (fun _ _ _ _ _ => (e_and (e_isi1 (by rfl) T.n_isinstance (pe_bltn (by rfl) T.n_int (by decide +kernel) rfl) kit_int (e_var 2 rfl rfl (.inl rfl))) fun hw => (e_one (e_not (e_isi1 (by rfl) T.n_isinstance (pe_bltn (by rfl) T.n_bool (by decide +kernel) rfl) kit_bool (e_var 2 rfl rfl (.inl rfl))))))), rfl⟩)) (Nat.le_of_ble_eq_true rfl)) a_nil)))) (by first | rfl | (rw [ho]; rfl))) (
      ss_nil))
    (ss_one (s_ret (e_conv (e_and (e_chain c_le c_lt e_int (e_ixT (e_var 1 rfl rfl (.inl rfl)) e_int rfl) (e_bi f_lenT (by rfl) T.n_len PySem.boot_len (a_cons (e_ixT (e_var 0 rfl rfl (.inl rfl)) e_int rfl) a_nil))) fun hw => (e_one (e_cm (c_inT (show [PyData.int 1, .int (-1)] = ([1, -1] : List Int).map .int from rfl)) (e_ixT (e_var 1 rfl rfl (.inl rfl)) e_int rfl) (e_tup (a_cons e_int (a_cons (e_neg e_int) a_nil))) (by with_unfolding_all rfl)))) (congrArg PyData.bool okStep_law)))))))
        · have ho : ([.int i, b].map isI).all id = false := by simp [hb]
          have he := isStep_b (m := lenS s) (a := .int i) hb
          exact (
    (ss_cons (s_ifF (t_conv (t_w (w_or (t_not (t_val (e_isi1 (by rfl) T.n_isinstance (pe_bltn (by rfl) T.n_tuple (by decide +kernel) rfl) kit_tuple (e_var 1 rfl rfl (.inl rfl))))) fun hw => (w_or1 (t_cm c_neI (e_bi f_lenT (by rfl) T.n_len PySem.boot_len (a_cons (e_var 1 rfl rfl (.inl rfl)) a_nil)) e_int (nomark _))))) (by first | rfl | (rw [ho]; rfl))) (
      ss_nil))
    (ss_stop (s_ifT (t_conv (t_not (t_val (e_bi (f_all rfl (isI_map _)) (by rfl) T.n_all (by decide +kernel) (a_cons (e_lc (own := [("one", 2)]) rfl sc__law_is_step.nd (i_tup (e_var 1 rfl rfl (.inl rfl))) (blkOk_by (N := ["survey", "value", "one"]) (sc := defScope s__law_is_step) (by decide +kernel)) rfl (lc_each (fun x => .bool (isI x)) _ (fun x hx => ⟨_, _, _, (fun _ _ _ _ _ => (g_name 2 sc__law_is_step.nd rfl (.inl rfl))), (fun _ _ _ _ _ => ts_nil), (fun _ _ _ _ _ => (e_and (e_isi1 (by rfl) T.n_isinstance (pe_bltn (by rfl) T.n_int (by decide +kernel) rfl) kit_int (e_var 2 rfl rfl (.inl rfl))) fun hw => (e_one (e_not (e_isi1 (by rfl) T.n_isinstance (pe_bltn (by rfl) T.n_bool (by decide +kernel) rfl) kit_bool (e_var 2 rfl rfl (.inl rfl))))))), rfl⟩)) (Nat.le_of_ble_eq_true rfl)) a_nil)))) (by first | rfl | (rw [ho]; rfl))) (
      (ss_one (s_ret (e_conv e_bl (congrArg PyData.bool he.symm)))))))))
      · have ho : ([a, b].map isI).all id = false := by simp [ha]
        have he := isStep_a (m := lenS s) (b := b) ha
        exact (
    (ss_cons (s_ifF (t_conv (t_w (w_or (t_not (t_val (e_isi1 (by rfl) T.n_isinstance (pe_bltn (by rfl) T.n_tuple (by decide +kernel) rfl) kit_tuple (e_var 1 rfl rfl (.inl rfl))))) fun hw => (w_or1 (t_cm c_neI (e_bi f_lenT (by rfl) T.n_len PySem.boot_len (a_cons (e_var 1 rfl rfl (.inl rfl)) a_nil)) e_int (nomark _))))) (by first | rfl | (rw [ho]; rfl))) (
      ss_nil))
    (ss_stop (s_ifT (t_conv (t_not (t_val (e_bi (f_all rfl (isI_map _)) (by rfl) T.n_all (by decide +kernel) (a_cons (e_lc (own := [("one", 2)]) rfl sc__law_is_step.nd (i_tup (e_var 1 rfl rfl (.inl rfl))) (blkOk_by (N := ["survey", "value", "one"]) (sc := defScope s__law_is_step) (by decide +kernel)) rfl (lc_each (fun x => .bool (isI x)) _ (fun x hx => ⟨_, _, _, (fun _ _ _ _ _ => (g_name 2 sc__law_is_step.nd rfl (.inl rfl))), (fun _ _ _ _ _ => ts_nil), (fun _ _ _ _ _ => (e_and (e_isi1 (by rfl) T.n_isinstance (pe_bltn (by rfl) T.n_int (by decide +kernel) rfl) kit_int (e_var 2 rfl rfl (.inl rfl))) fun hw => (e_one (e_not (e_isi1 (by rfl) T.n_isinstance (pe_bltn (by rfl) T.n_bool (by decide +kernel) rfl) kit_bool (e_var 2 rfl rfl (.inl rfl))))))), rfl⟩)) (Nat.le_of_ble_eq_true rfl)) a_nil)))) (by first | rfl | (rw [ho]; rfl))) (
      (ss_one (s_ret (e_conv e_bl (congrArg PyData.bool he.symm)))))))))
    · exact (
    (ss_stop (s_ifT (t_conv (t_w (w_or (t_not (t_val (e_isi1 (by rfl) T.n_isinstance (pe_bltn (by rfl) T.n_tuple (by decide +kernel) rfl) kit_tuple (e_var 1 rfl rfl (.inl rfl))))) fun hw => (w_or1 (t_cm c_neI (e_bi f_lenT (by rfl) T.n_len PySem.boot_len (a_cons (e_var 1 rfl rfl (.inl rfl)) a_nil)) e_int (nomark _))))) (by first | rfl | (simp; done) | (simp; omega))) (
      (ss_one (s_ret (e_conv e_bl (congrArg PyData.bool (isStep_len hl).symm))))))))
  · exact (
    (ss_stop (s_ifT (t_conv (t_w (w_or (u := true) (v := false) (t_conv (t_not (t_val (e_isi1 (by rfl) T.n_isinstance (pe_bltn (by rfl) T.n_tuple (by decide +kernel) rfl) kit_tuple (e_var 1 rfl rfl (.inl rfl))))) (by first | rfl | (simp [h]; done))) (fun hd => nomatch hd))) (by first | rfl | (simp [h]; done))) (
      (ss_one (s_ret (e_conv e_bl (congrArg PyData.bool (isStep_no h).symm))))))))

def R__law_is_walk (ds : List PyData) (d : PyData) : Prop := ∃ (s : Sv) (x : PyData), ds = [encS s, x] ∧ d = .bool (isWalkV s x)
theorem ok__law_is_walk (T : Txt K mg) : FnG P w K mg base CX0 2 T.a__law_is_walk T.d__law_is_walk ["survey", "value"] (spOf K (pureS R__law_is_walk)) := by
  have G__law_is_step := (ok__law_is_step (P := P) (w := w) (base := base) T).mono (by decide : 1 ≤ 1)
  have G__law_ends := (ok__law_ends (P := P) (w := w) (base := base) T).mono (by decide : 1 ≤ 1)
  refine fn_pure T.F__law_is_walk sc__law_is_walk (by rintro _ _ ⟨_, _, rfl, _⟩; rfl) fun cdv A outer s H E room grd ds d hR => ?_
  obtain ⟨s, x, rfl, rfl⟩ := hR
  by_cases hl : isName x "list" = true
  · obtain ⟨l, rfl⟩ := list_of hl
    by_cases h6 : l.length ≤ 600
    · by_cases ha : (l.map (isStep (lenS s))).all id = true
      · obtain ⟨w, rfl, hw⟩ := steps_of ha
        have W : WalkOk s w := ⟨by rw [List.length_map] at h6; exact h6, hw⟩
        exact (
    (ss_cons (s_ifF (t_conv (t_w (w_or (t_not (t_val (e_isi2 (by rfl) T.n_isinstance (pe_bltn (by rfl) T.n_list (by decide +kernel) rfl) (pe_bltn (by rfl) T.n_tuple (by decide +kernel) rfl) kit_list kit_tuple (e_var 1 rfl rfl (.inl rfl))))) fun hw => (w_or (t_cm c_gt (e_bi f_lenL (by rfl) T.n_len PySem.boot_len (a_cons (e_var 1 rfl rfl (.inl rfl)) a_nil)) e_int (nomark _)) fun hw => (w_or1 (t_not (t_val (e_bi (f_all rfl (mapB (w.map fr))) (by rfl) T.n_all (by decide +kernel) (a_cons (e_lc (own := [("one", 2)]) rfl sc__law_is_walk.nd (i_list (e_var 1 rfl rfl (.inl rfl))) (blkOk_by (N := ["survey", "value", "one", "near", "far"]) (sc := defScope s__law_is_walk) (by decide +kernel)) rfl (lc_each (fun x => .bool (isStep (lenS s) x)) _ (fun x hx => ⟨_, _, _, (fun _ _ _ _ _ => (g_name 2 sc__law_is_walk.nd rfl (.inl rfl))), (fun _ _ _ _ _ => ts_nil), (fun _ _ _ _ _ => (e_call G__law_is_step room grd (by rfl) T.g__law_is_step T.F__law_is_step.kp T.b__law_is_step (a_cons (e_var 0 rfl rfl (.inr (.inl rfl))) (a_cons (e_var 2 rfl rfl (.inl rfl)) a_nil)) (⟨s, _, rfl, rfl⟩))), rfl⟩)) (by omega)) a_nil)))))))) (by rw [ha, decide_eq_false (by omega)]; rfl)) (
      ss_nil))
    (ss_one (s_ret (e_conv (e_bi (f_all rfl (mapB (f := fun q : Fr × Fr => decide ((endsF s q.1).2 = (endsF s q.2).1)) (w.zip (w.drop 1)))) (by rfl) T.n_all (by decide +kernel) (a_cons (e_lc (own := [("near", 3), ("far", 4)]) rfl sc__law_is_walk.nd (i_zipL (by rfl) T.n_zip (a_cons (e_var 1 rfl rfl (.inl rfl)) (a_cons (e_slLc (e_var 1 rfl rfl (.inl rfl)) (o_some e_int) o_none (cut_map1 _ w)) a_nil))) (blkOk_by (N := ["survey", "value", "one", "near", "far"]) (sc := defScope s__law_is_walk) (by decide +kernel)) rfl (by first | exact (lc_pair fr fr (fun q => .bool (decide ((endsF s q.1).2 = (endsF s q.2).1))) w (w.drop 1) (fun x hx => ⟨_, _, _, (fun _ _ _ _ _ => (g_tup rfl (gs_cons (g_name 3 sc__law_is_walk.nd rfl (.inl rfl)) (gs_cons (g_name 4 sc__law_is_walk.nd rfl (.inl rfl)) gs_nil)))), (fun _ _ _ _ _ => ts_nil), (fun _ _ _ _ _ => (e_cm c_eqI (e_ixT (e_call G__law_ends room grd (by rfl) T.g__law_ends T.F__law_ends.kp T.b__law_ends (a_cons (e_var 0 rfl rfl (.inr (.inl rfl))) (a_cons (e_var 3 rfl rfl (.inl rfl)) a_nil)) (by first | exact ⟨s, x.1, hw _ (mem_zip hx).1, rfl, rfl⟩ | exact ⟨s, x.2, hw _ (List.mem_of_mem_drop (mem_zip hx).2), rfl, rfl⟩)) e_int rfl) (e_ixT (e_call G__law_ends room grd (by rfl) T.g__law_ends T.F__law_ends.kp T.b__law_ends (a_cons (e_var 0 rfl rfl (.inr (.inl rfl))) (a_cons (e_var 4 rfl rfl (.inl rfl)) a_nil)) (by first | exact ⟨s, x.1, hw _ (mem_zip hx).1, rfl, rfl⟩ | exact ⟨s, x.2, hw _ (List.mem_of_mem_drop (mem_zip hx).2), rfl, rfl⟩)) e_int rfl) (nomark _))), rfl⟩)) | (rw [cut_map1]; exact (lc_pair fr fr (fun q => .bool (decide ((endsF s q.1).2 = (endsF s q.2).1))) w (w.drop 1) (fun x hx => ⟨_, _, _, (fun _ _ _ _ _ => (g_tup rfl (gs_cons (g_name 3 sc__law_is_walk.nd rfl (.inl rfl)) (gs_cons (g_name 4 sc__law_is_walk.nd rfl (.inl rfl)) gs_nil)))), (fun _ _ _ _ _ => ts_nil), (fun _ _ _ _ _ => (e_cm c_eqI (e_ixT (e_call G__law_ends room grd (by rfl) T.g__law_ends T.F__law_ends.kp T.b__law_ends (a_cons (e_var 0 rfl rfl (.inr (.inl rfl))) (a_cons (e_var 3 rfl rfl (.inl rfl)) a_nil)) (by first | exact ⟨s, x.1, hw _ (mem_zip hx).1, rfl, rfl⟩ | exact ⟨s, x.2, hw _ (List.mem_of_mem_drop (mem_zip hx).2), rfl, rfl⟩)) e_int rfl) (e_ixT (e_call G__law_ends room grd (by rfl) T.g__law_ends T.F__law_ends.kp T.b__law_ends (a_cons (e_var 0 rfl rfl (.inr (.inl rfl))) (a_cons (e_var 4 rfl rfl (.inl rfl)) a_nil)) (by first | exact ⟨s, x.1, hw _ (mem_zip hx).1, rfl, rfl⟩ | exact ⟨s, x.2, hw _ (List.mem_of_mem_drop (mem_zip hx).2), rfl, rfl⟩)) e_int rfl) (nomark _))), rfl⟩)))) (by first | exact len_join W | (rw [cut_map1]; exact len_join W))) a_nil)) (congrArg PyData.bool (walkL_fr W).symm))))))
      · exact (
    (ss_stop (s_ifT (t_conv (t_w (w_or (t_not (t_val (e_isi2 (by rfl) T.n_isinstance (pe_bltn (by rfl) T.n_list (by decide +kernel) rfl) (pe_bltn (by rfl) T.n_tuple (by decide +kernel) rfl) kit_list kit_tuple (e_var 1 rfl rfl (.inl rfl))))) fun hw => (w_or (t_cm c_gt (e_bi f_lenL (by rfl) T.n_len PySem.boot_len (a_cons (e_var 1 rfl rfl (.inl rfl)) a_nil)) e_int (nomark _)) fun hw => (w_or1 (t_not (t_val (e_bi (f_all rfl (mapB l)) (by rfl) T.n_all (by decide +kernel) (a_cons (e_lc (own := [("one", 2)]) rfl sc__law_is_walk.nd (i_list (e_var 1 rfl rfl (.inl rfl))) (blkOk_by (N := ["survey", "value", "one", "near", "far"]) (sc := defScope s__law_is_walk) (by decide +kernel)) rfl (lc_each (fun x => .bool (isStep (lenS s) x)) _ (fun x hx => ⟨_, _, _, (fun _ _ _ _ _ => (g_name 2 sc__law_is_walk.nd rfl (.inl rfl))), (fun _ _ _ _ _ => ts_nil), (fun _ _ _ _ _ => (e_call G__law_is_step room grd (by rfl) T.g__law_is_step T.F__law_is_step.kp T.b__law_is_step (a_cons (e_var 0 rfl rfl (.inr (.inl rfl))) (a_cons (e_var 2 rfl rfl (.inl rfl)) a_nil)) (⟨s, _, rfl, rfl⟩))), rfl⟩)) (by omega)) a_nil)))))))) (by rw [Bool.eq_false_iff.mpr ha]; simp)) (
      (ss_one (s_ret (e_conv e_bl (congrArg PyData.bool (walkL_odd ha).symm))))))))
    · exact (
    (ss_stop (s_ifT (t_conv (t_w (w_or (t_not (t_val (e_isi2 (by rfl) T.n_isinstance (pe_bltn (by rfl) T.n_list (by decide +kernel) rfl) (pe_bltn (by rfl) T.n_tuple (by decide +kernel) rfl) kit_list kit_tuple (e_var 1 rfl rfl (.inl rfl))))) fun hw => (w_or (u := true) (v := false) (t_conv (t_cm c_gt (e_bi f_lenL (by rfl) T.n_len PySem.boot_len (a_cons (e_var 1 rfl rfl (.inl rfl)) a_nil)) e_int (nomark _)) (by first | exact decide_eq_true (by omega) | (rw [decide_eq_true (show 600 < (l.length : Int) by omega)]; rfl) | (simp; done))) (fun hd => nomatch hd)))) (by first | exact decide_eq_true (by omega) | (rw [decide_eq_true (show 600 < (l.length : Int) by omega)]; rfl) | (simp; done))) (
      (ss_one (s_ret (e_conv e_bl (congrArg PyData.bool (walkL_long h6).symm))))))))
  · by_cases ht : isName x "tuple" = true
    · obtain ⟨l, rfl⟩ := tuple_of ht
      by_cases h6 : l.length ≤ 600
      · by_cases ha : (l.map (isStep (lenS s))).all id = true
        · obtain ⟨w, rfl, hw⟩ := steps_of ha
          have W : WalkOk s w := ⟨by rw [List.length_map] at h6; exact h6, hw⟩
          exact (
    (ss_cons (s_ifF (t_conv (t_w (w_or (t_not (t_val (e_isi2 (by rfl) T.n_isinstance (pe_bltn (by rfl) T.n_list (by decide +kernel) rfl) (pe_bltn (by rfl) T.n_tuple (by decide +kernel) rfl) kit_list kit_tuple (e_var 1 rfl rfl (.inl rfl))))) fun hw => (w_or (t_cm c_gt (e_bi f_lenT (by rfl) T.n_len PySem.boot_len (a_cons (e_var 1 rfl rfl (.inl rfl)) a_nil)) e_int (nomark _)) fun hw => (w_or1 (t_not (t_val (e_bi (f_all rfl (mapB (w.map fr))) (by rfl) T.n_all (by decide +kernel) (a_cons (e_lc (own := [("one", 2)]) rfl sc__law_is_walk.nd (i_tup (e_var 1 rfl rfl (.inl rfl))) (blkOk_by (N := ["survey", "value", "one", "near", "far"]) (sc := defScope s__law_is_walk) (by decide +kernel)) rfl (lc_each (fun x => .bool (isStep (lenS s) x)) _ (fun x hx => ⟨_, _, _, (fun _ _ _ _ _ => (g_name 2 sc__law_is_walk.nd rfl (.inl rfl))), (fun _ _ _ _ _ => ts_nil), (fun _ _ _ _ _ => (e_call G__law_is_step room grd (by rfl) T.g__law_is_step T.F__law_is_step.kp T.b__law_is_step (a_cons (e_var 0 rfl rfl (.inr (.inl rfl))) (a_cons (e_var 2 rfl rfl (.inl rfl)) a_nil)) (⟨s, _, rfl, rfl⟩))), rfl⟩)) (by omega)) a_nil)))))))) (by rw [ha, decide_eq_false (by omega)]; rfl)) (
      ss_nil))
    (ss_one (s_ret (e_conv (e_bi (f_all rfl (mapB (f := fun q : Fr × Fr => decide ((endsF s q.1).2 = (endsF s q.2).1)) (w.zip (w.drop 1)))) (by rfl) T.n_all (by decide +kernel) (a_cons (e_lc (own := [("near", 3), ("far", 4)]) rfl sc__law_is_walk.nd (i_zipT (by rfl) T.n_zip (a_cons (e_var 1 rfl rfl (.inl rfl)) (a_cons (e_slT (e_var 1 rfl rfl (.inl rfl)) (o_some e_int) o_none) a_nil))) (blkOk_by (N := ["survey", "value", "one", "near", "far"]) (sc := defScope s__law_is_walk) (by decide +kernel)) rfl (by first | exact (lc_pair fr fr (fun q => .bool (decide ((endsF s q.1).2 = (endsF s q.2).1))) w (w.drop 1) (fun x hx => ⟨_, _, _, (fun _ _ _ _ _ => (g_tup rfl (gs_cons (g_name 3 sc__law_is_walk.nd rfl (.inl rfl)) (gs_cons (g_name 4 sc__law_is_walk.nd rfl (.inl rfl)) gs_nil)))), (fun _ _ _ _ _ => ts_nil), (fun _ _ _ _ _ => (e_cm c_eqI (e_ixT (e_call G__law_ends room grd (by rfl) T.g__law_ends T.F__law_ends.kp T.b__law_ends (a_cons (e_var 0 rfl rfl (.inr (.inl rfl))) (a_cons (e_var 3 rfl rfl (.inl rfl)) a_nil)) (by first | exact ⟨s, x.1, hw _ (mem_zip hx).1, rfl, rfl⟩ | exact ⟨s, x.2, hw _ (List.mem_of_mem_drop (mem_zip hx).2), rfl, rfl⟩)) e_int rfl) (e_ixT (e_call G__law_ends room grd (by rfl) T.g__law_ends T.F__law_ends.kp T.b__law_ends (a_cons (e_var 0 rfl rfl (.inr (.inl rfl))) (a_cons (e_var 4 rfl rfl (.inl rfl)) a_nil)) (by first | exact ⟨s, x.1, hw _ (mem_zip hx).1, rfl, rfl⟩ | exact ⟨s, x.2, hw _ (List.mem_of_mem_drop (mem_zip hx).2), rfl, rfl⟩)) e_int rfl) (nomark _))), rfl⟩)) | (rw [cut_map1]; exact (lc_pair fr fr (fun q => .bool (decide ((endsF s q.1).2 = (endsF s q.2).1))) w (w.drop 1) (fun x hx => ⟨_, _, _, (fun _ _ _ _ _ => (g_tup rfl (gs_cons (g_name 3 sc__law_is_walk.nd rfl (.inl rfl)) (gs_cons (g_name 4 sc__law_is_walk.nd rfl (.inl rfl)) gs_nil)))), (fun _ _ _ _ _ => ts_nil), (fun _ _ _ _ _ => (e_cm c_eqI (e_ixT (e_call G__law_ends room grd (by rfl) T.g__law_ends T.F__law_ends.kp T.b__law_ends (a_cons (e_var 0 rfl rfl (.inr (.inl rfl))) (a_cons (e_var 3 rfl rfl (.inl rfl)) a_nil)) (by first | exact ⟨s, x.1, hw _ (mem_zip hx).1, rfl, rfl⟩ | exact ⟨s, x.2, hw _ (List.mem_of_mem_drop (mem_zip hx).2), rfl, rfl⟩)) e_int rfl) (e_ixT (e_call G__law_ends room grd (by rfl) T.g__law_ends T.F__law_ends.kp T.b__law_ends (a_cons (e_var 0 rfl rfl (.inr (.inl rfl))) (a_cons (e_var 4 rfl rfl (.inl rfl)) a_nil)) (by first | exact ⟨s, x.1, hw _ (mem_zip hx).1, rfl, rfl⟩ | exact ⟨s, x.2, hw _ (List.mem_of_mem_drop (mem_zip hx).2), rfl, rfl⟩)) e_int rfl) (nomark _))), rfl⟩)))) (by first | exact len_join W | (rw [cut_map1]; exact len_join W))) a_nil)) (congrArg PyData.bool (walkL_fr W).symm))))))
        · exact (
    (ss_stop (s_ifT (t_conv (t_w (w_or (t_not (t_val (e_isi2 (by rfl) T.n_isinstance (pe_bltn (by rfl) T.n_list (by decide +kernel) rfl) (pe_bltn (by rfl) T.n_tuple (by decide +kernel) rfl) kit_list kit_tuple (e_var 1 rfl rfl (.inl rfl))))) fun hw => (w_or (t_cm c_gt (e_bi f_lenT (by rfl) T.n_len PySem.boot_len (a_cons (e_var 1 rfl rfl (.inl rfl)) a_nil)) e_int (nomark _)) fun hw => (w_or1 (t_not (t_val (e_bi (f_all rfl (mapB l)) (by rfl) T.n_all (by decide +kernel) (a_cons (e_lc (own := [("one", 2)]) rfl sc__law_is_walk.nd (i_tup (e_var 1 rfl rfl (.inl rfl))) (blkOk_by (N := ["survey", "value", "one", "near", "far"]) (sc := defScope s__law_is_walk) (by decide +kernel)) rfl (lc_each (fun x => .bool (isStep (lenS s) x)) _ (fun x hx => ⟨_, _, _, (fun _ _ _ _ _ => (g_name 2 sc__law_is_walk.nd rfl (.inl rfl))), (fun _ _ _ _ _ => ts_nil), (fun _ _ _ _ _ => (e_call G__law_is_step room grd (by rfl) T.g__law_is_step T.F__law_is_step.kp T.b__law_is_step (a_cons (e_var 0 rfl rfl (.inr (.inl rfl))) (a_cons (e_var 2 rfl rfl (.inl rfl)) a_nil)) (⟨s, _, rfl, rfl⟩))), rfl⟩)) (by omega)) a_nil)))))))) (by rw [Bool.eq_false_iff.mpr ha]; simp)) (
      (ss_one (s_ret (e_conv e_bl (congrArg PyData.bool (walkL_odd ha).symm))))))))
      · exact (
    (ss_stop (s_ifT (t_conv (t_w (w_or (t_not (t_val (e_isi2 (by rfl) T.n_isinstance (pe_bltn (by rfl) T.n_list (by decide +kernel) rfl) (pe_bltn (by rfl) T.n_tuple (by decide +kernel) rfl) kit_list kit_tuple (e_var 1 rfl rfl (.inl rfl))))) fun hw => (w_or (u := true) (v := false) (t_conv (t_cm c_gt (e_bi f_lenT (by rfl) T.n_len PySem.boot_len (a_cons (e_var 1 rfl rfl (.inl rfl)) a_nil)) e_int (nomark _)) (by first | exact decide_eq_true (by omega) | (rw [decide_eq_true (show 600 < (l.length : Int) by omega)]; rfl) | (simp; done))) (fun hd => nomatch hd)))) (by first | exact decide_eq_true (by omega) | (rw [decide_eq_true (show 600 < (l.length : Int) by omega)]; rfl) | (simp; done))) (
      (ss_one (s_ret (e_conv e_bl (congrArg PyData.bool (walkL_long h6).symm))))))))
    · exact (
    (ss_stop (s_ifT (t_conv (t_w (w_or (u := true) (v := false) (t_conv (t_not (t_val (e_isi2 (by rfl) T.n_isinstance (pe_bltn (by rfl) T.n_list (by decide +kernel) rfl) (pe_bltn (by rfl) T.n_tuple (by decide +kernel) rfl) kit_list kit_tuple (e_var 1 rfl rfl (.inl rfl))))) (by first | (rw [Bool.eq_false_iff.mpr hl, Bool.eq_false_iff.mpr ht]; rfl) | rfl)) (fun hd => nomatch hd))) (by first | (rw [Bool.eq_false_iff.mpr hl, Bool.eq_false_iff.mpr ht]; rfl) | rfl)) (
      (ss_one (s_ret (e_conv e_bl (congrArg PyData.bool (isWalkV_no hl ht).symm))))))))

def R__law_is_loop (ds : List PyData) (d : PyData) : Prop := ∃ (s : Sv) (x : PyData), ds = [encS s, x] ∧ d = .bool (isLoopV s x)
theorem ok__law_is_loop (T : Txt K mg) : FnG P w K mg base CX0 3 T.a__law_is_loop T.d__law_is_loop ["survey", "value"] (spOf K (pureS R__law_is_loop)) := by
  have G__law_is_walk := (ok__law_is_walk (P := P) (w := w) (base := base) T).mono (by decide : 2 ≤ 2)
  have G__law_ends := (ok__law_ends (P := P) (w := w) (base := base) T).mono (by decide : 1 ≤ 2)
  refine fn_pure T.F__law_is_loop sc__law_is_loop (by rintro _ _ ⟨_, _, rfl, _⟩; rfl) fun cdv A outer s H E room grd ds d hR => ?_
  obtain ⟨s, x, rfl, rfl⟩ := hR
  by_cases hx : isWalkV s x = true
  · by_cases hl : isName x "list" = true
    · obtain ⟨l, rfl⟩ := list_of hl
      by_cases h2 : 2 ≤ l.length
      · obtain ⟨w, rfl, W, J⟩ := walkL_of hx
        have hw := W.ok
        have W2 : 2 ≤ w.length := by rw [List.length_map] at h2; exact h2
        exact (
    (ss_cons (s_ifF (t_conv (t_w (w_or (t_not (t_val (e_call G__law_is_walk room grd (by rfl) T.g__law_is_walk T.F__law_is_walk.kp T.b__law_is_walk (a_cons (e_var 0 rfl rfl (.inr (.inl rfl))) (a_cons (e_var 1 rfl rfl (.inl rfl)) a_nil)) (⟨s, _, rfl, rfl⟩)))) fun hw => (w_or1 (t_cm c_lt (e_bi f_lenL (by rfl) T.n_len PySem.boot_len (a_cons (e_var 1 rfl rfl (.inl rfl)) a_nil)) e_int (nomark _))))) (by rw [hx, decide_eq_false (by omega)]; rfl)) (
      ss_nil))
    (ss_cons (s_setLc 2 (own := [("step", 4)]) rfl sc__law_is_loop.nd rfl rfl (sw_true rfl rfl rfl (by decide +kernel)) (i_list (e_var 1 rfl rfl (.inl rfl))) (blkOk_by (N := ["survey", "value", "starts", "legs", "step"]) (sc := defScope s__law_is_loop) (by decide +kernel)) rfl (lc_map fr (fun p => .int (endsF s p).1) w (fun x hx => ⟨_, _, _, (fun _ _ _ _ _ => (g_name 4 sc__law_is_loop.nd rfl (.inl rfl))), (fun _ _ _ _ _ => ts_nil), (fun _ _ _ _ _ => (e_ixT (e_call G__law_ends room grd (by rfl) T.g__law_ends T.F__law_ends.kp T.b__law_ends (a_cons (e_var 0 rfl rfl (.inr (.inl rfl))) (a_cons (e_var 4 rfl rfl (.inl rfl)) a_nil)) (⟨s, x, hw x hx, rfl, rfl⟩)) e_int rfl)), rfl⟩)) (len_walk W) (Nat.le_of_ble_eq_true rfl))
    (ss_split (t_cm c_neI (e_ixL (e_var 2 rfl rfl (.inl rfl)) e_int (pick_map (0, 0) (by decide) (by omega))) (e_ixT (e_call G__law_ends room grd (by rfl) T.g__law_ends T.F__law_ends.kp T.b__law_ends (a_cons (e_var 0 rfl rfl (.inr (.inl rfl))) (a_cons (e_ixL (e_var 1 rfl rfl (.inl rfl)) (e_neg e_int) (atI_last _ (0, 0) (by omega))) a_nil)) (⟨s, _, hw _ (last_mem (by omega)), rfl, rfl⟩)) e_int rfl) (nomark _))
    (fun h6 ch6 => (ss_stop (s_ifT ch6 (
      (ss_one (s_ret (e_conv e_bl (by first | exact (congrArg PyData.bool (loopL_odd W J W2 (by assumption)).symm) | exact (congrArg PyData.bool (onceB_len.trans (loopL_round W J W2 (by assumption)).symm))))))))))
    (fun h6 ch6 => (ss_cons (s_ifF ch6 (
      ss_nil))
      (ss_cons (s_setLc 3 (own := [("step", 4)]) rfl sc__law_is_loop.nd rfl rfl (sw_true rfl rfl rfl (by decide +kernel)) (i_list (e_var 1 rfl rfl (.inl rfl))) (blkOk_by (N := ["survey", "value", "starts", "legs", "step"]) (sc := defScope s__law_is_loop) (by decide +kernel)) rfl (lc_map fr (fun p => .int p.1) w (fun x hx => ⟨_, _, _, (fun _ _ _ _ _ => (g_name 4 sc__law_is_loop.nd rfl (.inl rfl))), (fun _ _ _ _ _ => ts_nil), (fun _ _ _ _ _ => (e_ixT (e_var 4 rfl rfl (.inl rfl)) e_int rfl)), rfl⟩)) (len_walk W) (Nat.le_of_ble_eq_true rfl))
      (ss_one (s_ret (e_conv (e_and (e_cm c_eqI (e_lenSet (by rfl) T.n_len (by rfl) T.n_set rfl (e_var 2 rfl rfl (.inl rfl)) (map_ints (fun p => (endsF s p).1) w) (by rw [List.length_map]; have := W.len; omega)) (e_bi f_lenL (by rfl) T.n_len PySem.boot_len (a_cons (e_var 2 rfl rfl (.inl rfl)) a_nil)) (nomark _)) fun hw => (e_one (e_cm c_eqI (e_lenSet (by rfl) T.n_len (by rfl) T.n_set rfl (e_var 3 rfl rfl (.inl rfl)) (map_ints (fun p : Fr => p.1) w) (by rw [List.length_map]; have := W.len; omega)) (e_bi f_lenL (by rfl) T.n_len PySem.boot_len (a_cons (e_var 3 rfl rfl (.inl rfl)) a_nil)) (nomark _)))) (by first | exact (congrArg PyData.bool (loopL_odd W J W2 (by assumption)).symm) | exact (congrArg PyData.bool (onceB_len.trans (loopL_round W J W2 (by assumption)).symm)))))))))))))
      · exact (
    (ss_stop (s_ifT (t_conv (t_w (w_or (t_not (t_val (e_call G__law_is_walk room grd (by rfl) T.g__law_is_walk T.F__law_is_walk.kp T.b__law_is_walk (a_cons (e_var 0 rfl rfl (.inr (.inl rfl))) (a_cons (e_var 1 rfl rfl (.inl rfl)) a_nil)) (⟨s, _, rfl, rfl⟩)))) fun hw => (w_or1 (t_cm c_lt (e_bi f_lenL (by rfl) T.n_len PySem.boot_len (a_cons (e_var 1 rfl rfl (.inl rfl)) a_nil)) e_int (nomark _))))) (by rw [hx, decide_eq_true (by omega)]; rfl)) (
      (ss_one (s_ret (e_conv e_bl (congrArg PyData.bool (loopL_few h2).symm))))))))
    · by_cases ht : isName x "tuple" = true
      · obtain ⟨l, rfl⟩ := tuple_of ht
        by_cases h2 : 2 ≤ l.length
        · obtain ⟨w, rfl, W, J⟩ := walkL_of hx
          have hw := W.ok
          have W2 : 2 ≤ w.length := by rw [List.length_map] at h2; exact h2
          exact (
    (ss_cons (s_ifF (t_conv (t_w (w_or (t_not (t_val (e_call G__law_is_walk room grd (by rfl) T.g__law_is_walk T.F__law_is_walk.kp T.b__law_is_walk (a_cons (e_var 0 rfl rfl (.inr (.inl rfl))) (a_cons (e_var 1 rfl rfl (.inl rfl)) a_nil)) (⟨s, _, rfl, rfl⟩)))) fun hw => (w_or1 (t_cm c_lt (e_bi f_lenT (by rfl) T.n_len PySem.boot_len (a_cons (e_var 1 rfl rfl (.inl rfl)) a_nil)) e_int (nomark _))))) (by rw [hx, decide_eq_false (by omega)]; rfl)) (
      ss_nil))
    (ss_cons (s_setLc 2 (own := [("step", 4)]) rfl sc__law_is_loop.nd rfl rfl (sw_true rfl rfl rfl (by decide +kernel)) (i_tup (e_var 1 rfl rfl (.inl rfl))) (blkOk_by (N := ["survey", "value", "starts", "legs", "step"]) (sc := defScope s__law_is_loop) (by decide +kernel)) rfl (lc_map fr (fun p => .int (endsF s p).1) w (fun x hx => ⟨_, _, _, (fun _ _ _ _ _ => (g_name 4 sc__law_is_loop.nd rfl (.inl rfl))), (fun _ _ _ _ _ => ts_nil), (fun _ _ _ _ _ => (e_ixT (e_call G__law_ends room grd (by rfl) T.g__law_ends T.F__law_ends.kp T.b__law_ends (a_cons (e_var 0 rfl rfl (.inr (.inl rfl))) (a_cons (e_var 4 rfl rfl (.inl rfl)) a_nil)) (⟨s, x, hw x hx, rfl, rfl⟩)) e_int rfl)), rfl⟩)) (len_walk W) (Nat.le_of_ble_eq_true rfl))
    (ss_split (t_cm c_neI (e_ixL (e_var 2 rfl rfl (.inl rfl)) e_int (pick_map (0, 0) (by decide) (by omega))) (e_ixT (e_call G__law_ends room grd (by rfl) T.g__law_ends T.F__law_ends.kp T.b__law_ends (a_cons (e_var 0 rfl rfl (.inr (.inl rfl))) (a_cons (e_ixT (e_var 1 rfl rfl (.inl rfl)) (e_neg e_int) (atI_last _ (0, 0) (by omega))) a_nil)) (⟨s, _, hw _ (last_mem (by omega)), rfl, rfl⟩)) e_int rfl) (nomark _))
    (fun h6 ch6 => (ss_stop (s_ifT ch6 (
      (ss_one (s_ret (e_conv e_bl (by first | exact (congrArg PyData.bool (loopL_odd W J W2 (by assumption)).symm) | exact (congrArg PyData.bool (onceB_len.trans (loopL_round W J W2 (by assumption)).symm))))))))))
    (fun h6 ch6 => (ss_cons (s_ifF ch6 (
      ss_nil))
      (ss_cons (s_setLc 3 (own := [("step", 4)]) rfl sc__law_is_loop.nd rfl rfl (sw_true rfl rfl rfl (by decide +kernel)) (i_tup (e_var 1 rfl rfl (.inl rfl))) (blkOk_by (N := ["survey", "value", "starts", "legs", "step"]) (sc := defScope s__law_is_loop) (by decide +kernel)) rfl (lc_map fr (fun p => .int p.1) w (fun x hx => ⟨_, _, _, (fun _ _ _ _ _ => (g_name 4 sc__law_is_loop.nd rfl (.inl rfl))), (fun _ _ _ _ _ => ts_nil), (fun _ _ _ _ _ => (e_ixT (e_var 4 rfl rfl (.inl rfl)) e_int rfl)), rfl⟩)) (len_walk W) (Nat.le_of_ble_eq_true rfl))
      (ss_one (s_ret (e_conv (e_and (e_cm c_eqI (e_lenSet (by rfl) T.n_len (by rfl) T.n_set rfl (e_var 2 rfl rfl (.inl rfl)) (map_ints (fun p => (endsF s p).1) w) (by rw [List.length_map]; have := W.len; omega)) (e_bi f_lenL (by rfl) T.n_len PySem.boot_len (a_cons (e_var 2 rfl rfl (.inl rfl)) a_nil)) (nomark _)) fun hw => (e_one (e_cm c_eqI (e_lenSet (by rfl) T.n_len (by rfl) T.n_set rfl (e_var 3 rfl rfl (.inl rfl)) (map_ints (fun p : Fr => p.1) w) (by rw [List.length_map]; have := W.len; omega)) (e_bi f_lenL (by rfl) T.n_len PySem.boot_len (a_cons (e_var 3 rfl rfl (.inl rfl)) a_nil)) (nomark _)))) (by first | exact (congrArg PyData.bool (loopL_odd W J W2 (by assumption)).symm) | exact (congrArg PyData.bool (onceB_len.trans (loopL_round W J W2 (by assumption)).symm)))))))))))))
        · exact (
    (ss_stop (s_ifT (t_conv (t_w (w_or (t_not (t_val (e_call G__law_is_walk room grd (by rfl) T.g__law_is_walk T.F__law_is_walk.kp T.b__law_is_walk (a_cons (e_var 0 rfl rfl (.inr (.inl rfl))) (a_cons (e_var 1 rfl rfl (.inl rfl)) a_nil)) (⟨s, _, rfl, rfl⟩)))) fun hw => (w_or1 (t_cm c_lt (e_bi f_lenT (by rfl) T.n_len PySem.boot_len (a_cons (e_var 1 rfl rfl (.inl rfl)) a_nil)) e_int (nomark _))))) (by rw [hx, decide_eq_true (by omega)]; rfl)) (
      (ss_one (s_ret (e_conv e_bl (congrArg PyData.bool (loopL_few h2).symm))))))))
      · rw [isWalkV_no hl ht] at hx
        cases hx
  · exact (
    (ss_stop (s_ifT (t_conv (t_w (w_or (u := true) (v := false) (t_conv (t_not (t_val (e_call G__law_is_walk room grd (by rfl) T.g__law_is_walk T.F__law_is_walk.kp T.b__law_is_walk (a_cons (e_var 0 rfl rfl (.inr (.inl rfl))) (a_cons (e_var 1 rfl rfl (.inl rfl)) a_nil)) (⟨s, _, rfl, rfl⟩)))) (by first | (rw [Bool.eq_false_iff.mpr hx]; rfl) | rfl)) (fun hd => nomatch hd))) (by first | (rw [Bool.eq_false_iff.mpr hx]; rfl) | rfl)) (
      (ss_one (s_ret (e_conv e_bl (congrArg PyData.bool (isLoopV_no (Bool.eq_false_iff.mpr hx)).symm))))))))

def R__law_drawn_walk (m ds m' : List PyData) (d : PyData) : Prop := ∃ (p : Pot) (s : Sv) (many : Int), PotOk p ∧ SvOk s ∧ 0 ≤ many ∧ many ≤ 40 ∧ m = potD p ∧ ds = [encS s, .int many] ∧ m' = potD (walkE dc p s many).1 ∧ d = .list ((walkE dc p s many).2.1.map fr)
theorem ok__law_drawn_walk (T : Txt K mg) : FnG P w K mg base CX0 3 T.a__law_drawn_walk T.d__law_drawn_walk ["pot", "survey", "many"] (spOf K (potS R__law_drawn_walk)) := by
  have G__law_draw := (ok__law_draw (P := P) (w := w) (base := base) T).mono (by decide : 1 ≤ 2)
  have G__law_pick := (ok__law_pick (P := P) (w := w) (base := base) T).mono (by decide : 2 ≤ 2)
  have G__law_ends := (ok__law_ends (P := P) (w := w) (base := base) T).mono (by decide : 1 ≤ 2)
  refine fn_pot T.F__law_drawn_walk sc__law_drawn_walk (by rintro _ _ _ _ ⟨_, _, _, _, _, _, _, _, rfl, _⟩; rfl) fun cdv A outer s H E room grd q m ds m' d hR => ?_
  obtain ⟨p, s, many, hp, S, m0, m40, rfl, rfl, rfl, rfl⟩ := hR
  have n1 := S.n1
  have n24 := S.n24
  obtain ⟨a1, a2, a3⟩ := draw_ok dc_ok hp (n := s.n) (by omega)
  exact (
    (ss_cons (s_parCO 3 4 rfl (o_lst a_nil) (e_callP 0 G__law_draw room grd (by rfl) T.g__law_draw T.F__law_draw.kp T.b__law_draw rfl rfl (a_cons (e_ixT (e_var 1 rfl rfl (.inl rfl)) e_int rfl) a_nil) rfl rfl (⟨p, s.n, hp, (by omega), bitsS (by omega), rfl, rfl, rfl, rfl⟩) rfl (.inl rfl)) sc__law_drawn_walk.nd rfl rfl (by decide) (.inl rfl) (.inr rfl) (by rfl))
    (ss_cons (s_forF [5, 6, 7, 8, 9] (i_range1 (by rfl) T.n_range (a_cons (e_var 2 rfl rfl (.inl rfl)) a_nil) (by omega)) (forD_fold [5, 6, 7, 8, 9] (fun i : Nat => PyData.int (0 + (i : Int))) (walkG dc s) (fun b => [some (.bor q (.lst (potD b.1))), some (.dat (encS s)), some (.dat (.int many)), some (.own (.lst (b.2.1.map fr))), some (.dat (.int b.2.2)), none, none, none, none, none]) (fun r b => ∃ k, DrawnOk s k b ∧ k + r.length ≤ 40) (List.range many.toNat) ((draw dc p s.n).1, [], (draw dc p s.n).2) (fun x r b ⟨k, hb, hk⟩ => ⟨_, (fun b => [some (.bor q (.lst (potD b.1))), some (.dat (encS s)), some (.dat (.int many)), some (.own (.lst (b.2.1.map fr))), some (.dat (.int b.2.2)), none, none, none, none, none]) (walkG dc s b x), (g_name 5 sc__law_drawn_walk.nd rfl (.inl rfl)),         (ss_cons (s_setLc 6 (own := [("at", 7), ("leg", 9)]) rfl sc__law_drawn_walk.nd rfl rfl (sw_true rfl rfl rfl (by decide +kernel)) (i_enumT (by rfl) T.n_enumerate (a_cons (e_ixT (e_var 1 rfl rfl (.inl rfl)) e_int rfl) a_nil)) (blkOk_by (N := ["pot", "survey", "many", "found", "here", "turn", "some", "at", "sense", "leg"]) (sc := defScope s__law_drawn_walk) (by decide +kernel)) rfl (show LcD _ _ _ _ _ _ _ _ ((someL s b.2.2).map PyData.int) _ from by rw [enum_legs, someL_map]; exact lc_some (fun q : Nat × Leg => .tuple [.int (0 + (q.1 : Int)), encLeg q.2]) (fun q => decide (b.2.2 ∈ [q.2.a, q.2.b])) (fun q => .int (0 + (q.1 : Int))) _ (fun y hy => ⟨_, _, (fun _ _ _ _ _ => (g_tup rfl (gs_cons (g_name 7 sc__law_drawn_walk.nd rfl (.inl rfl)) (gs_cons (g_name 9 sc__law_drawn_walk.nd rfl (.inl rfl)) gs_nil)))), (fun _ _ _ _ _ => (ts_one (t_cm (c_inT (show [PyData.int y.2.a, .int y.2.b] = ([y.2.a, y.2.b] : List Int).map .int from rfl)) (e_var 4 rfl rfl (.inr (.inl rfl))) (e_conv (e_slT (e_var 9 rfl rfl (.inl rfl)) (o_some e_int) (o_some e_int)) rfl) (by with_unfolding_all rfl)))), (fun _ _ _ _ _ => (e_var 7 rfl rfl (.inl rfl))), rfl⟩)) (by rw [enum_legs, List.length_map, List.length_zip, List.length_range, List.length_map]; have := S.l60; omega) (Nat.le_of_ble_eq_true rfl))
        (ss_split (t_cm (c_neQ room.units (ints_shaped (someL s b.2.2)) nil_shaped) (e_var 6 rfl rfl (.inl rfl)) (e_lst a_nil) (nomark _))
        (fun h6 ch6 => (o_conv (ss_forget [5, 6, 7, 8, 9] (ss_cons (s_ifT ch6 (
          (ss_cons (s_set 7 (e_callP 0 G__law_pick room grd (by rfl) T.g__law_pick T.F__law_pick.kp T.b__law_pick rfl rfl (a_cons (e_var 6 rfl rfl (.inl rfl)) a_nil) rfl rfl (⟨b.1, (someL s b.2.2).map .int, hb.pot, (some_pos (someT (by assumption))), (by rw [List.length_map]; have := someL_len s b.2.2; have := S.l60; omega), rfl, rfl, (rfl : potD (walkD dc s b).1 = _), pick_map 0 (walkD_ok dc_ok hb.pot (someT (by assumption))).2.1 (walkD_ok dc_ok hb.pot (someT (by assumption))).2.2⟩) rfl (.inl rfl)) sc__law_drawn_walk.nd rfl (.inl rfl))
          (ss_cons (s_set 8 (e_iteI (t_cm c_eqI (e_ixT (e_ixT (e_ixT (e_var 1 rfl rfl (.inl rfl)) e_int rfl) (e_var 7 rfl rfl (.inl rfl)) (gAt_ix (walkA_in dc_ok hb.pot (someT (by assumption))).1 (walkA_in dc_ok hb.pot (someT (by assumption))).2)) e_int (by rfl)) (e_var 4 rfl rfl (.inr (.inl rfl))) (nomark _)) (fun hi => e_int) (fun hj => (e_neg e_int))) sc__law_drawn_walk.nd rfl (.inl rfl))
          (ss_cons (s_expr (e_append 3 rfl rfl rfl (.inl rfl) (e_tup (a_cons (e_var 7 rfl rfl (.inl rfl)) (a_cons (e_var 8 rfl rfl (.inl rfl)) a_nil))) rfl rfl (len_map_lt (by have := hb.len; omega))))
          (ss_one (s_set 4 (e_ixT (e_call G__law_ends room grd (by rfl) T.g__law_ends T.F__law_ends.kp T.b__law_ends (a_cons (e_var 1 rfl rfl (.inl rfl)) (a_cons (e_ixO 3 rfl rfl rfl (.inl rfl) (e_neg e_int) (atI_snoc _ _)) a_nil)) (⟨s, walkP dc s b, walkP_ok dc_ok hb.pot (someT (by assumption)), rfl, rfl⟩)) e_int rfl) sc__law_drawn_walk.nd rfl (.inr rfl))))))))
          ss_nil)) (by first | (rw [walkG_T (someT (by assumption))]; simp only [List.map_append]; rfl) | (rw [walkG_F (someF (by assumption))]; rfl))))
        (fun h6 ch6 => (o_conv (ss_forget [5, 6, 7, 8, 9] (ss_cons (s_ifF ch6 (
          ss_nil))
          ss_nil)) (by first | (rw [walkG_T (someT (by assumption))]; simp only [List.map_append]; rfl) | (rw [walkG_F (someF (by assumption))]; rfl)))))), rfl, ⟨k + 1, walkG_ok dc_ok hb, by rw [List.length_cons] at hk; omega⟩⟩) ⟨0, ⟨a1, Nat.le_refl _, fun _ h => nomatch h⟩, by rw [List.length_range]; omega⟩) PassesOwn.never rfl)
(ss_fix 3 rfl
    (ss_one (s_ret (e_conv (e_var 3 rfl rfl (.inl rfl)) rfl) (one_bor 0 rfl)))))))

def R__law_cut (ds : List PyData) (d : PyData) : Prop := ∃ (s : Sv) (w : List Fr), (∀ p ∈ w, okStep (lenS s) p = true) ∧ w.length ≤ 1000 ∧ ds = [encS s, .list (w.map fr)] ∧ d = cutW s w
theorem ok__law_cut (T : Txt K mg) : FnG P w K mg base CX0 2 T.a__law_cut T.d__law_cut ["survey", "walk"] (spOf K (pureS R__law_cut)) := by
  have G__law_ends := (ok__law_ends (P := P) (w := w) (base := base) T).mono (by decide : 1 ≤ 1)
  refine fn_pure T.F__law_cut sc__law_cut (by rintro _ _ ⟨_, _, _, _, rfl, _⟩; rfl) fun cdv A outer s H E room grd ds d hR => ?_
  obtain ⟨s, w, hw, hl, rfl, rfl⟩ := hR
  have hlm : (w.map fr).length = w.length := List.length_map ..
  cases hc : cutO s w with
  | none =>
    rw [show cutW s w = .list (w.map fr) by unfold cutW; rw [hc]]
    exact (
    (ss_cons (s_forF [2, 3, 4] (i_range2 (by rfl) T.n_range (a_cons e_int (a_cons (e_add (e_bi f_lenL (by rfl) T.n_len PySem.boot_len (a_cons (e_var 1 rfl rfl (.inl rfl)) a_nil)) e_int) a_nil)) (by omega)) (find_nx (forD_find [2, 3, 4] (fun i : Nat => PyData.int (1 + (i : Int))) (cutJ s w) [] (List.range (((w.map fr).length : Int) + 1 - 1).toNat) (fun x hx => have hx1 := cut_rng hx; ⟨_, [some (.dat (encS s)), some (.dat (.list (w.map fr))), some (.dat (.int (1 + (x : Int)))), some (.dat (.int (endsF s (w.getD ((1 + (x : Int)) - 1).toNat (0, 0))).2)), none], (g_name 2 sc__law_cut.nd rfl (.inl rfl)),         (ss_cons (s_set 3 (e_ixT (e_call G__law_ends room grd (by rfl) T.g__law_ends T.F__law_ends.kp T.b__law_ends (a_cons (e_var 0 rfl rfl (.inl rfl)) (a_cons (e_ixL (e_var 1 rfl rfl (.inl rfl)) (e_sub (e_var 2 rfl rfl (.inl rfl)) e_int) (pick_map (0, 0) (by omega) (by omega))) a_nil)) (⟨s, _, hw _ (getD_mem (0, 0) (by omega) (by omega)), rfl, rfl⟩)) e_int rfl) sc__law_cut.nd rfl (.inl rfl))
        (ss_one (s_forF [4] (i_range1 (by rfl) T.n_range (a_cons (e_var 2 rfl rfl (.inl rfl)) a_nil) (by omega)) (forD_find [4] (fun i : Nat => PyData.int (0 + (i : Int))) (cutI s w (1 + (x : Int)) (endsF s (w.getD ((1 + (x : Int)) - 1).toNat (0, 0))).2) [] (List.range (1 + (x : Int)).toNat) (fun y hy => have hy1 := List.mem_range.mp hy; ⟨_, [some (.dat (encS s)), some (.dat (.list (w.map fr))), some (.dat (.int (1 + (x : Int)))), some (.dat (.int (endsF s (w.getD ((1 + (x : Int)) - 1).toNat (0, 0))).2)), some (.dat (.int (0 + (y : Int))))], (g_name 4 sc__law_cut.nd rfl (.inl rfl)), (dite ((endsF s (w.getD (0 + (y : Int)).toNat (0, 0))).1 = (endsF s (w.getD ((1 + (x : Int)) - 1).toNat (0, 0))).2) (fun hh => by rw [show cutI s w (1 + (x : Int)) (endsF s (w.getD ((1 + (x : Int)) - 1).toNat (0, 0))).2 y = some _ from if_pos hh]; exact             (ss_stop (s_ifT (t_conv (t_cm c_eqI (e_ixT (e_call G__law_ends room grd (by rfl) T.g__law_ends T.F__law_ends.kp T.b__law_ends (a_cons (e_var 0 rfl rfl (.inl rfl)) (a_cons (e_ixL (e_var 1 rfl rfl (.inl rfl)) (e_var 4 rfl rfl (.inl rfl)) (pick_map (0, 0) (by omega) (by omega))) a_nil)) (⟨s, _, hw _ (getD_mem (0, 0) (by omega) (by omega)), rfl, rfl⟩)) e_int rfl) (e_var 3 rfl rfl (.inl rfl)) (nomark _)) (by first | exact decide_eq_true hh | exact decide_eq_false hh)) (
              (ss_one (s_ret (e_conv (e_slLc (e_var 1 rfl rfl (.inl rfl)) (o_some (e_var 4 rfl rfl (.inl rfl))) (o_some (e_var 2 rfl rfl (.inl rfl))) rfl) rfl))))))) (fun hh => by rw [show cutI s w (1 + (x : Int)) (endsF s (w.getD ((1 + (x : Int)) - 1).toNat (0, 0))).2 y = none from if_neg hh]; exact             (ss_one (s_ifF (t_conv (t_cm c_eqI (e_ixT (e_call G__law_ends room grd (by rfl) T.g__law_ends T.F__law_ends.kp T.b__law_ends (a_cons (e_var 0 rfl rfl (.inl rfl)) (a_cons (e_ixL (e_var 1 rfl rfl (.inl rfl)) (e_var 4 rfl rfl (.inl rfl)) (pick_map (0, 0) (by omega) (by omega))) a_nil)) (⟨s, _, hw _ (getD_mem (0, 0) (by omega) (by omega)), rfl, rfl⟩)) e_int rfl) (e_var 3 rfl rfl (.inl rfl)) (nomark _)) (by first | exact decide_eq_true hh | exact decide_eq_false hh)) (
              ss_nil))))), rfl⟩)) PassesOwn.never rfl))), rfl⟩)) hc) PassesOwn.never rfl)
    (ss_one (s_ret (e_conv (e_var 1 rfl rfl (.inl rfl)) rfl)))))
  | some d =>
    rw [show cutW s w = d by unfold cutW; rw [hc]]
    exact (
    (ss_stop (s_forF [2, 3, 4] (i_range2 (by rfl) T.n_range (a_cons e_int (a_cons (e_add (e_bi f_lenL (by rfl) T.n_len PySem.boot_len (a_cons (e_var 1 rfl rfl (.inl rfl)) a_nil)) e_int) a_nil)) (by omega)) (find_rt (forD_find [2, 3, 4] (fun i : Nat => PyData.int (1 + (i : Int))) (cutJ s w) [] (List.range (((w.map fr).length : Int) + 1 - 1).toNat) (fun x hx => have hx1 := cut_rng hx; ⟨_, [some (.dat (encS s)), some (.dat (.list (w.map fr))), some (.dat (.int (1 + (x : Int)))), some (.dat (.int (endsF s (w.getD ((1 + (x : Int)) - 1).toNat (0, 0))).2)), none], (g_name 2 sc__law_cut.nd rfl (.inl rfl)),         (ss_cons (s_set 3 (e_ixT (e_call G__law_ends room grd (by rfl) T.g__law_ends T.F__law_ends.kp T.b__law_ends (a_cons (e_var 0 rfl rfl (.inl rfl)) (a_cons (e_ixL (e_var 1 rfl rfl (.inl rfl)) (e_sub (e_var 2 rfl rfl (.inl rfl)) e_int) (pick_map (0, 0) (by omega) (by omega))) a_nil)) (⟨s, _, hw _ (getD_mem (0, 0) (by omega) (by omega)), rfl, rfl⟩)) e_int rfl) sc__law_cut.nd rfl (.inl rfl))
        (ss_one (s_forF [4] (i_range1 (by rfl) T.n_range (a_cons (e_var 2 rfl rfl (.inl rfl)) a_nil) (by omega)) (forD_find [4] (fun i : Nat => PyData.int (0 + (i : Int))) (cutI s w (1 + (x : Int)) (endsF s (w.getD ((1 + (x : Int)) - 1).toNat (0, 0))).2) [] (List.range (1 + (x : Int)).toNat) (fun y hy => have hy1 := List.mem_range.mp hy; ⟨_, [some (.dat (encS s)), some (.dat (.list (w.map fr))), some (.dat (.int (1 + (x : Int)))), some (.dat (.int (endsF s (w.getD ((1 + (x : Int)) - 1).toNat (0, 0))).2)), some (.dat (.int (0 + (y : Int))))], (g_name 4 sc__law_cut.nd rfl (.inl rfl)), (dite ((endsF s (w.getD (0 + (y : Int)).toNat (0, 0))).1 = (endsF s (w.getD ((1 + (x : Int)) - 1).toNat (0, 0))).2) (fun hh => by rw [show cutI s w (1 + (x : Int)) (endsF s (w.getD ((1 + (x : Int)) - 1).toNat (0, 0))).2 y = some _ from if_pos hh]; exact             (ss_stop (s_ifT (t_conv (t_cm c_eqI (e_ixT (e_call G__law_ends room grd (by rfl) T.g__law_ends T.F__law_ends.kp T.b__law_ends (a_cons (e_var 0 rfl rfl (.inl rfl)) (a_cons (e_ixL (e_var 1 rfl rfl (.inl rfl)) (e_var 4 rfl rfl (.inl rfl)) (pick_map (0, 0) (by omega) (by omega))) a_nil)) (⟨s, _, hw _ (getD_mem (0, 0) (by omega) (by omega)), rfl, rfl⟩)) e_int rfl) (e_var 3 rfl rfl (.inl rfl)) (nomark _)) (by first | exact decide_eq_true hh | exact decide_eq_false hh)) (
              (ss_one (s_ret (e_conv (e_slLc (e_var 1 rfl rfl (.inl rfl)) (o_some (e_var 4 rfl rfl (.inl rfl))) (o_some (e_var 2 rfl rfl (.inl rfl))) rfl) rfl))))))) (fun hh => by rw [show cutI s w (1 + (x : Int)) (endsF s (w.getD ((1 + (x : Int)) - 1).toNat (0, 0))).2 y = none from if_neg hh]; exact             (ss_one (s_ifF (t_conv (t_cm c_eqI (e_ixT (e_call G__law_ends room grd (by rfl) T.g__law_ends T.F__law_ends.kp T.b__law_ends (a_cons (e_var 0 rfl rfl (.inl rfl)) (a_cons (e_ixL (e_var 1 rfl rfl (.inl rfl)) (e_var 4 rfl rfl (.inl rfl)) (pick_map (0, 0) (by omega) (by omega))) a_nil)) (⟨s, _, hw _ (getD_mem (0, 0) (by omega) (by omega)), rfl, rfl⟩)) e_int rfl) (e_var 3 rfl rfl (.inl rfl)) (nomark _)) (by first | exact decide_eq_true hh | exact decide_eq_false hh)) (
              ss_nil))))), rfl⟩)) PassesOwn.never rfl))), rfl⟩)) hc) PassesOwn.never rfl)))

def R__law_bent (m ds m' : List PyData) (d : PyData) : Prop := ∃ (p : Pot) (s : Sv) (w : List Fr), PotOk p ∧ SvOk s ∧ (∀ p ∈ w, okStep (lenS s) p = true) ∧ w.length ≤ 40 ∧ m = potD p ∧ ds = [encS s, .list (w.map fr)] ∧ m' = potD (bentW dc p s w).1 ∧ d = (bentW dc p s w).2
theorem ok__law_bent (T : Txt K mg) : FnG P w K mg base CX0 3 T.a__law_bent T.d__law_bent ["pot", "survey", "walk"] (spOf K (potS R__law_bent)) := by
  have G__law_draw := (ok__law_draw (P := P) (w := w) (base := base) T).mono (by decide : 1 ≤ 2)
  have G__law_pick := (ok__law_pick (P := P) (w := w) (base := base) T).mono (by decide : 2 ≤ 2)
  refine fn_pot T.F__law_bent sc__law_bent (by rintro _ _ _ _ ⟨_, _, _, _, _, _, _, _, rfl, _⟩; rfl) fun cdv A outer s H E room grd q m ds m' d hR => ?_
  obtain ⟨p, s, w, hp, S, hw, hl, rfl, rfl, rfl, rfl⟩ := hR
  have B := bentW_ok dc_ok hp S hw hl
  have hlm : (w.map fr).length = w.length := List.length_map ..
  by_cases hz : w = [] ∨ (bnW dc p).2 = 0
  · rw [show bentW dc p s w = _ from if_pos hz]
    exact (
    (ss_cons (s_set 3 (e_callP 0 G__law_draw room grd (by rfl) T.g__law_draw T.F__law_draw.kp T.b__law_draw rfl rfl (a_cons e_int a_nil) rfl rfl (⟨p, 9, hp, by decide, bitsS (by decide), rfl, rfl, rfl, rfl⟩) rfl (.inl rfl)) sc__law_bent.nd rfl (.inl rfl))
    (ss_stop (s_ifT (t_conv (t_w (w_or (t_cm (c_eqQ room.units (frs_shaped w) nil_shaped) (e_var 2 rfl rfl (.inl rfl)) (e_lst a_nil) (nomark _)) fun hw => (w_or1 (t_cm c_eqI (e_var 3 rfl rfl (.inl rfl)) e_int (nomark _))))) (by first | exact bent_T hz | exact bent_F hz | exact decide_eq_true h1 | exact decide_eq_false h1 | exact decide_eq_true h2 | exact decide_eq_false h2)) (
      (ss_one (s_ret (e_conv (e_callP 0 G__law_pick room grd (by rfl) T.g__law_pick T.F__law_pick.kp T.b__law_pick rfl rfl (a_cons (e_lst (a_cons e_non (a_cons (e_tup a_nil) (a_cons (e_lst a_nil) (a_cons e_dict0 (a_cons e_int (a_cons e_str (a_cons (e_lst (a_cons e_non a_nil)) (a_cons (e_lst (a_cons (e_tup a_nil) a_nil)) (a_cons (e_conv (e_bt f_tupL (by rfl) T.n_tuple (by decide +kernel) (a_cons (e_var 2 rfl rfl (.inl rfl)) a_nil)) rfl) (a_cons (e_catLc (e_var 2 rfl rfl (.inl rfl)) (e_var 2 rfl rfl (.inl rfl)) (by first | exact Nat.le_of_ble_eq_true rfl | omega | (simp only [List.length_append, List.length_singleton, List.length_map]; omega)) rfl) (a_cons (e_revL (e_var 2 rfl rfl (.inl rfl))) (a_cons (e_lst (a_cons (e_tup (a_cons e_int (a_cons e_int a_nil))) a_nil)) (a_cons (e_lst (a_cons (e_lst (a_cons e_int (a_cons e_int a_nil))) a_nil)) a_nil)))))))))))))) a_nil) rfl rfl (by first | exact ⟨(bnW dc p).1, kindsW w, B.pw, (show 0 < 13 by decide), (show 13 ≤ 1000000 by decide), rfl, rfl, (rfl : potD (bnK dc p).1 = _), pick_get B.k0 B.k1⟩ | exact ⟨(bnW dc p).1, ((w.map fr).length : Int), B.pw, (by omega), bits_len (by omega), rfl, rfl, (rfl : potD (bnA dc p w).1 = _), (rfl : PyData.int (bnA dc p w).2 = _)⟩ | exact ⟨(bnA dc p w).1, lenS s, a1, m0, bitsS (by omega), rfl, rfl, (rfl : potD (bnE dc p s w).1 = _), (rfl : PyData.int (bnE dc p s w).2 = _)⟩ | exact ⟨(bnE dc p s w).1, oddsW (lenS s) (bnP dc p w) (bnE dc p s w).2, e1, (show 0 < 14 by decide), (show 14 ≤ 1000000 by decide), rfl, rfl, (rfl : potD (bnO dc p s w).1 = _), pick_get o2 o3⟩) rfl (.inl rfl)) rfl) (one_bor 0 rfl))))))))
  · have hne : w ≠ [] := fun e => hz (.inl e)
    have h0 : 0 < w.length := List.length_pos_iff.mpr hne
    obtain ⟨a1, a2, a3, hs, m0, e1, o1, o2, o3⟩ := B.a hne
    have l1 := cutD_len (ds := w.map fr) (m := none) (n := some (bnA dc p w).2)
    have l2 := cutD_len (ds := w.map fr) (m := some ((bnA dc p w).2 + 1)) (n := none)
    have l3 := cutD_len (ds := w.map fr) (m := some (bnA dc p w).2) (n := none)
    have st := step_in hs
    have sl := S.l60
    have se := lenS_eq s
    by_cases h1 : (bnW dc p).2 = 1
    · rw [show bentW dc p s w = _ from (if_neg hz).trans (if_pos h1)]
      exact (
    (ss_cons (s_set 3 (e_callP 0 G__law_draw room grd (by rfl) T.g__law_draw T.F__law_draw.kp T.b__law_draw rfl rfl (a_cons e_int a_nil) rfl rfl (⟨p, 9, hp, by decide, bitsS (by decide), rfl, rfl, rfl, rfl⟩) rfl (.inl rfl)) sc__law_bent.nd rfl (.inl rfl))
    (ss_cons (s_ifF (t_conv (t_w (w_or (t_cm (c_eqQ room.units (frs_shaped w) nil_shaped) (e_var 2 rfl rfl (.inl rfl)) (e_lst a_nil) (nomark _)) fun hw => (w_or1 (t_cm c_eqI (e_var 3 rfl rfl (.inl rfl)) e_int (nomark _))))) (by first | exact bent_T hz | exact bent_F hz | exact decide_eq_true h1 | exact decide_eq_false h1 | exact decide_eq_true h2 | exact decide_eq_false h2)) (
      ss_nil))
    (ss_cons (s_set 4 (e_callP 0 G__law_draw room grd (by rfl) T.g__law_draw T.F__law_draw.kp T.b__law_draw rfl rfl (a_cons (e_bi f_lenL (by rfl) T.n_len PySem.boot_len (a_cons (e_var 2 rfl rfl (.inl rfl)) a_nil)) a_nil) rfl rfl (by first | exact ⟨(bnW dc p).1, kindsW w, B.pw, (show 0 < 13 by decide), (show 13 ≤ 1000000 by decide), rfl, rfl, (rfl : potD (bnK dc p).1 = _), pick_get B.k0 B.k1⟩ | exact ⟨(bnW dc p).1, ((w.map fr).length : Int), B.pw, (by omega), bits_len (by omega), rfl, rfl, (rfl : potD (bnA dc p w).1 = _), (rfl : PyData.int (bnA dc p w).2 = _)⟩ | exact ⟨(bnA dc p w).1, lenS s, a1, m0, bitsS (by omega), rfl, rfl, (rfl : potD (bnE dc p s w).1 = _), (rfl : PyData.int (bnE dc p s w).2 = _)⟩ | exact ⟨(bnE dc p s w).1, oddsW (lenS s) (bnP dc p w) (bnE dc p s w).2, e1, (show 0 < 14 by decide), (show 14 ≤ 1000000 by decide), rfl, rfl, (rfl : potD (bnO dc p s w).1 = _), pick_get o2 o3⟩) rfl (.inl rfl)) sc__law_bent.nd rfl (.inl rfl))
    (ss_cons (s_asg (e_ixL (e_var 2 rfl rfl (.inl rfl)) (e_var 4 rfl rfl (.inl rfl)) (pick_map (0, 0) a2 (by omega))) (g_tup rfl (gs_cons (g_name 5 sc__law_bent.nd rfl (.inl rfl)) (gs_cons (g_name 6 sc__law_bent.nd rfl (.inl rfl)) gs_nil))))
    (ss_stop (s_ifT (t_conv (t_cm c_eqI (e_var 3 rfl rfl (.inl rfl)) e_int (nomark _)) (by first | exact bent_T hz | exact bent_F hz | exact decide_eq_true h1 | exact decide_eq_false h1 | exact decide_eq_true h2 | exact decide_eq_false h2)) (
      (ss_one (s_ret (e_conv (e_catLc (e_slLc (e_var 2 rfl rfl (.inl rfl)) o_none (o_some (e_var 4 rfl rfl (.inl rfl))) rfl) (e_slLc (e_var 2 rfl rfl (.inl rfl)) (o_some (e_add (e_var 4 rfl rfl (.inl rfl)) e_int)) o_none rfl) (by first | exact Nat.le_of_ble_eq_true rfl | omega | (simp only [List.length_append, List.length_singleton, List.length_map]; omega)) rfl) rfl) (one_bor 0 rfl)))))))))))
    · by_cases h2 : (bnW dc p).2 = 2
      · rw [show bentW dc p s w = _ from (if_neg hz).trans ((if_neg h1).trans (if_pos h2))]
        exact (
    (ss_cons (s_set 3 (e_callP 0 G__law_draw room grd (by rfl) T.g__law_draw T.F__law_draw.kp T.b__law_draw rfl rfl (a_cons e_int a_nil) rfl rfl (⟨p, 9, hp, by decide, bitsS (by decide), rfl, rfl, rfl, rfl⟩) rfl (.inl rfl)) sc__law_bent.nd rfl (.inl rfl))
    (ss_cons (s_ifF (t_conv (t_w (w_or (t_cm (c_eqQ room.units (frs_shaped w) nil_shaped) (e_var 2 rfl rfl (.inl rfl)) (e_lst a_nil) (nomark _)) fun hw => (w_or1 (t_cm c_eqI (e_var 3 rfl rfl (.inl rfl)) e_int (nomark _))))) (by first | exact bent_T hz | exact bent_F hz | exact decide_eq_true h1 | exact decide_eq_false h1 | exact decide_eq_true h2 | exact decide_eq_false h2)) (
      ss_nil))
    (ss_cons (s_set 4 (e_callP 0 G__law_draw room grd (by rfl) T.g__law_draw T.F__law_draw.kp T.b__law_draw rfl rfl (a_cons (e_bi f_lenL (by rfl) T.n_len PySem.boot_len (a_cons (e_var 2 rfl rfl (.inl rfl)) a_nil)) a_nil) rfl rfl (by first | exact ⟨(bnW dc p).1, kindsW w, B.pw, (show 0 < 13 by decide), (show 13 ≤ 1000000 by decide), rfl, rfl, (rfl : potD (bnK dc p).1 = _), pick_get B.k0 B.k1⟩ | exact ⟨(bnW dc p).1, ((w.map fr).length : Int), B.pw, (by omega), bits_len (by omega), rfl, rfl, (rfl : potD (bnA dc p w).1 = _), (rfl : PyData.int (bnA dc p w).2 = _)⟩ | exact ⟨(bnA dc p w).1, lenS s, a1, m0, bitsS (by omega), rfl, rfl, (rfl : potD (bnE dc p s w).1 = _), (rfl : PyData.int (bnE dc p s w).2 = _)⟩ | exact ⟨(bnE dc p s w).1, oddsW (lenS s) (bnP dc p w) (bnE dc p s w).2, e1, (show 0 < 14 by decide), (show 14 ≤ 1000000 by decide), rfl, rfl, (rfl : potD (bnO dc p s w).1 = _), pick_get o2 o3⟩) rfl (.inl rfl)) sc__law_bent.nd rfl (.inl rfl))
    (ss_cons (s_asg (e_ixL (e_var 2 rfl rfl (.inl rfl)) (e_var 4 rfl rfl (.inl rfl)) (pick_map (0, 0) a2 (by omega))) (g_tup rfl (gs_cons (g_name 5 sc__law_bent.nd rfl (.inl rfl)) (gs_cons (g_name 6 sc__law_bent.nd rfl (.inl rfl)) gs_nil))))
    (ss_cons (s_ifF (t_conv (t_cm c_eqI (e_var 3 rfl rfl (.inl rfl)) e_int (nomark _)) (by first | exact bent_T hz | exact bent_F hz | exact decide_eq_true h1 | exact decide_eq_false h1 | exact decide_eq_true h2 | exact decide_eq_false h2)) (
      ss_nil))
    (ss_stop (s_ifT (t_conv (t_cm c_eqI (e_var 3 rfl rfl (.inl rfl)) e_int (nomark _)) (by first | exact bent_T hz | exact bent_F hz | exact decide_eq_true h1 | exact decide_eq_false h1 | exact decide_eq_true h2 | exact decide_eq_false h2)) (
      (ss_one (s_ret (e_conv (e_catLc (e_slLc (e_var 2 rfl rfl (.inl rfl)) (o_some (e_var 4 rfl rfl (.inl rfl))) o_none rfl) (e_slLc (e_var 2 rfl rfl (.inl rfl)) o_none (o_some (e_var 4 rfl rfl (.inl rfl))) rfl) (by first | exact Nat.le_of_ble_eq_true rfl | omega | (simp only [List.length_append, List.length_singleton, List.length_map]; omega)) rfl) rfl) (one_bor 0 rfl))))))))))))
      · rw [show bentW dc p s w = _ from (if_neg hz).trans ((if_neg h1).trans (if_neg h2))]
        exact (
    (ss_cons (s_set 3 (e_callP 0 G__law_draw room grd (by rfl) T.g__law_draw T.F__law_draw.kp T.b__law_draw rfl rfl (a_cons e_int a_nil) rfl rfl (⟨p, 9, hp, by decide, bitsS (by decide), rfl, rfl, rfl, rfl⟩) rfl (.inl rfl)) sc__law_bent.nd rfl (.inl rfl))
    (ss_cons (s_ifF (t_conv (t_w (w_or (t_cm (c_eqQ room.units (frs_shaped w) nil_shaped) (e_var 2 rfl rfl (.inl rfl)) (e_lst a_nil) (nomark _)) fun hw => (w_or1 (t_cm c_eqI (e_var 3 rfl rfl (.inl rfl)) e_int (nomark _))))) (by first | exact bent_T hz | exact bent_F hz | exact decide_eq_true h1 | exact decide_eq_false h1 | exact decide_eq_true h2 | exact decide_eq_false h2)) (
      ss_nil))
    (ss_cons (s_set 4 (e_callP 0 G__law_draw room grd (by rfl) T.g__law_draw T.F__law_draw.kp T.b__law_draw rfl rfl (a_cons (e_bi f_lenL (by rfl) T.n_len PySem.boot_len (a_cons (e_var 2 rfl rfl (.inl rfl)) a_nil)) a_nil) rfl rfl (by first | exact ⟨(bnW dc p).1, kindsW w, B.pw, (show 0 < 13 by decide), (show 13 ≤ 1000000 by decide), rfl, rfl, (rfl : potD (bnK dc p).1 = _), pick_get B.k0 B.k1⟩ | exact ⟨(bnW dc p).1, ((w.map fr).length : Int), B.pw, (by omega), bits_len (by omega), rfl, rfl, (rfl : potD (bnA dc p w).1 = _), (rfl : PyData.int (bnA dc p w).2 = _)⟩ | exact ⟨(bnA dc p w).1, lenS s, a1, m0, bitsS (by omega), rfl, rfl, (rfl : potD (bnE dc p s w).1 = _), (rfl : PyData.int (bnE dc p s w).2 = _)⟩ | exact ⟨(bnE dc p s w).1, oddsW (lenS s) (bnP dc p w) (bnE dc p s w).2, e1, (show 0 < 14 by decide), (show 14 ≤ 1000000 by decide), rfl, rfl, (rfl : potD (bnO dc p s w).1 = _), pick_get o2 o3⟩) rfl (.inl rfl)) sc__law_bent.nd rfl (.inl rfl))
    (ss_cons (s_asg (e_ixL (e_var 2 rfl rfl (.inl rfl)) (e_var 4 rfl rfl (.inl rfl)) (pick_map (0, 0) a2 (by omega))) (g_tup rfl (gs_cons (g_name 5 sc__law_bent.nd rfl (.inl rfl)) (gs_cons (g_name 6 sc__law_bent.nd rfl (.inl rfl)) gs_nil))))
    (ss_cons (s_ifF (t_conv (t_cm c_eqI (e_var 3 rfl rfl (.inl rfl)) e_int (nomark _)) (by first | exact bent_T hz | exact bent_F hz | exact decide_eq_true h1 | exact decide_eq_false h1 | exact decide_eq_true h2 | exact decide_eq_false h2)) (
      ss_nil))
    (ss_cons (s_ifF (t_conv (t_cm c_eqI (e_var 3 rfl rfl (.inl rfl)) e_int (nomark _)) (by first | exact bent_T hz | exact bent_F hz | exact decide_eq_true h1 | exact decide_eq_false h1 | exact decide_eq_true h2 | exact decide_eq_false h2)) (
      ss_nil))
    (ss_cons (s_set 7 (e_lst (a_cons (e_tup (a_cons (e_var 5 rfl rfl (.inl rfl)) (a_cons (e_sub e_int (e_var 6 rfl rfl (.inl rfl))) a_nil))) (a_cons (e_tup (a_cons (e_var 5 rfl rfl (.inl rfl)) (a_cons e_int a_nil))) (a_cons (e_tup (a_cons (e_var 5 rfl rfl (.inl rfl)) (a_cons (e_mul (mulS (by decide) (by show -(2 ^ 64) < (bnP dc p w).2 ∧ (bnP dc p w).2 < 2 ^ 64; omega)) e_int (e_var 6 rfl rfl (.inl rfl))) a_nil))) (a_cons (e_tup (a_cons (e_var 5 rfl rfl (.inl rfl)) (a_cons e_bl a_nil))) (a_cons (e_tup (a_cons (e_var 5 rfl rfl (.inl rfl)) (a_cons e_non a_nil))) (a_cons (e_tup (a_cons (e_bi f_lenT (by rfl) T.n_len PySem.boot_len (a_cons (e_ixT (e_var 1 rfl rfl (.inl rfl)) e_int rfl) a_nil)) (a_cons (e_var 6 rfl rfl (.inl rfl)) a_nil))) (a_cons (e_tup (a_cons (e_neg e_int) (a_cons (e_var 6 rfl rfl (.inl rfl)) a_nil))) (a_cons (e_tup (a_cons e_bl (a_cons (e_var 6 rfl rfl (.inl rfl)) a_nil))) a_nil))))))))) sc__law_bent.nd rfl (.inl rfl))
    (ss_cons (s_set 7 (e_catLc (e_var 7 rfl rfl (.inl rfl)) (e_lst (a_cons (e_lst (a_cons (e_var 5 rfl rfl (.inl rfl)) (a_cons (e_var 6 rfl rfl (.inl rfl)) a_nil))) (a_cons (e_tup (a_cons (e_var 5 rfl rfl (.inl rfl)) a_nil)) (a_cons (e_tup (a_cons (e_var 5 rfl rfl (.inl rfl)) (a_cons (e_var 6 rfl rfl (.inl rfl)) (a_cons e_int a_nil)))) (a_cons (e_tup (a_cons (e_bt (f_strI (Cl.log2_small (bits_up (step_bits S hs).1 (by decide)))) (by rfl) T.n_str (by decide +kernel) (a_cons (e_var 5 rfl rfl (.inl rfl)) a_nil)) (a_cons (e_var 6 rfl rfl (.inl rfl)) a_nil))) (a_cons e_non (a_cons (e_tup (a_cons (e_callP 0 G__law_draw room grd (by rfl) T.g__law_draw T.F__law_draw.kp T.b__law_draw rfl rfl (a_cons (e_bi f_lenT (by rfl) T.n_len PySem.boot_len (a_cons (e_ixT (e_var 1 rfl rfl (.inl rfl)) e_int rfl) a_nil)) a_nil) rfl rfl (by first | exact ⟨(bnW dc p).1, kindsW w, B.pw, (show 0 < 13 by decide), (show 13 ≤ 1000000 by decide), rfl, rfl, (rfl : potD (bnK dc p).1 = _), pick_get B.k0 B.k1⟩ | exact ⟨(bnW dc p).1, ((w.map fr).length : Int), B.pw, (by omega), bits_len (by omega), rfl, rfl, (rfl : potD (bnA dc p w).1 = _), (rfl : PyData.int (bnA dc p w).2 = _)⟩ | exact ⟨(bnA dc p w).1, lenS s, a1, m0, bitsS (by omega), rfl, rfl, (rfl : potD (bnE dc p s w).1 = _), (rfl : PyData.int (bnE dc p s w).2 = _)⟩ | exact ⟨(bnE dc p s w).1, oddsW (lenS s) (bnP dc p w) (bnE dc p s w).2, e1, (show 0 < 14 by decide), (show 14 ≤ 1000000 by decide), rfl, rfl, (rfl : potD (bnO dc p s w).1 = _), pick_get o2 o3⟩) rfl (.inl rfl)) (a_cons (e_var 6 rfl rfl (.inl rfl)) a_nil))) a_nil))))))) (by first | exact Nat.le_of_ble_eq_true rfl | omega | (simp only [List.length_append, List.length_singleton, List.length_map]; omega)) rfl) sc__law_bent.nd rfl (.inl rfl))
    (ss_one (s_ret (e_conv (e_catLc (e_catLc (e_slLc (e_var 2 rfl rfl (.inl rfl)) o_none (o_some (e_var 4 rfl rfl (.inl rfl))) rfl) (e_lst (a_cons (e_callP 0 G__law_pick room grd (by rfl) T.g__law_pick T.F__law_pick.kp T.b__law_pick rfl rfl (a_cons (e_var 7 rfl rfl (.inl rfl)) a_nil) rfl rfl (by first | exact ⟨(bnW dc p).1, kindsW w, B.pw, (show 0 < 13 by decide), (show 13 ≤ 1000000 by decide), rfl, rfl, (rfl : potD (bnK dc p).1 = _), pick_get B.k0 B.k1⟩ | exact ⟨(bnW dc p).1, ((w.map fr).length : Int), B.pw, (by omega), bits_len (by omega), rfl, rfl, (rfl : potD (bnA dc p w).1 = _), (rfl : PyData.int (bnA dc p w).2 = _)⟩ | exact ⟨(bnA dc p w).1, lenS s, a1, m0, bitsS (by omega), rfl, rfl, (rfl : potD (bnE dc p s w).1 = _), (rfl : PyData.int (bnE dc p s w).2 = _)⟩ | exact ⟨(bnE dc p s w).1, oddsW (lenS s) (bnP dc p w) (bnE dc p s w).2, e1, (show 0 < 14 by decide), (show 14 ≤ 1000000 by decide), rfl, rfl, (rfl : potD (bnO dc p s w).1 = _), pick_get o2 o3⟩) rfl (.inl rfl)) a_nil)) (by first | exact Nat.le_of_ble_eq_true rfl | omega | (simp only [List.length_append, List.length_singleton, List.length_map]; omega)) rfl) (e_slLc (e_var 2 rfl rfl (.inl rfl)) (o_some (e_add (e_var 4 rfl rfl (.inl rfl)) e_int)) o_none rfl) (by first | exact Nat.le_of_ble_eq_true rfl | omega | (simp only [List.length_append, List.length_singleton, List.length_map]; omega)) rfl) rfl) (one_bor 0 rfl))))))))))))

def R__law_value_right (ds : List PyData) (d : PyData) : Prop := ∃ (s : Sv) (x : PyData), SvTw s ∧ OkW x ∧ ds = [encS s, x] ∧ d = .bool true
theorem ok__law_value_right (T : Txt K mg) : FnG P w K mg base CX0 9 T.a__law_value_right T.d__law_value_right ["survey", "value"] (spOf K (pureS R__law_value_right)) := by
  have G_is_walk := (ok_is_walk (P := P) (w := w) (base := base) T).mono (by decide : 8 ≤ 8)
  have G_is_loop := (ok_is_loop (P := P) (w := w) (base := base) T).mono (by decide : 8 ≤ 8)
  have G_turned_about := (ok_turned_about (P := P) (w := w) (base := base) T).mono (by decide : 8 ≤ 8)
  have G__law_is_walk := (ok__law_is_walk (P := P) (w := w) (base := base) T).mono (by decide : 2 ≤ 8)
  have G__law_is_loop := (ok__law_is_loop (P := P) (w := w) (base := base) T).mono (by decide : 3 ≤ 8)
  have G__law_total := (ok__law_total (P := P) (w := w) (base := base) T).mono (by decide : 4 ≤ 8)
  have G_walk_sum := (ok_walk_sum (P := P) (w := w) (base := base) T).mono (by decide : 8 ≤ 8)
  have G__law_back := (ok__law_back (P := P) (w := w) (base := base) T).mono (by decide : 1 ≤ 8)
  refine fn_pure T.F__law_value_right sc__law_value_right (by rintro _ _ ⟨_, _, _, _, rfl, _⟩; rfl) fun cdv A outer s H E room grd ds d hR => ?_
  obtain ⟨s, x, S, hx, rfl, rfl⟩ := hR
  have sh := sv_shows S.ok hx
  by_cases hv : isWalkV s x = true
  · obtain ⟨w, hxw, W, J⟩ := walkV_of hv
    have A := about_ok W J
    have few := sumF_few S W
    rcases hxw with rfl | rfl
    · exact (
    (ss_cons (s_par 2 3 rfl (e_lst (a_cons (e_call G__law_is_walk room grd (by rfl) T.g__law_is_walk T.F__law_is_walk.kp T.b__law_is_walk (a_cons (e_var 0 rfl rfl (.inl rfl)) (a_cons (e_var 1 rfl rfl (.inl rfl)) a_nil)) (⟨s, _, rfl, rfl⟩)) (a_cons (e_call G__law_is_loop room grd (by rfl) T.g__law_is_loop T.F__law_is_loop.kp T.b__law_is_loop (a_cons (e_var 0 rfl rfl (.inl rfl)) (a_cons (e_var 1 rfl rfl (.inl rfl)) a_nil)) (⟨s, _, rfl, rfl⟩)) a_nil))) (e_bi (f_reprE grd room.units sh) (by rfl) T.n_repr (by decide +kernel) (a_cons (e_lst (a_cons (e_var 0 rfl rfl (.inl rfl)) (a_cons (e_var 1 rfl rfl (.inl rfl)) a_nil))) a_nil)) sc__law_value_right.nd rfl rfl (by decide) rfl rfl (by rfl))
    (ss_cons (s_set 4 (e_lst (a_cons (e_call G_is_walk room grd (by rfl) T.g_is_walk T.F_is_walk.kp T.b_is_walk (a_cons (e_var 0 rfl rfl (.inl rfl)) (a_cons (e_var 1 rfl rfl (.inl rfl)) a_nil)) (⟨s, _, S.ok, rfl, rfl⟩)) (a_cons (e_call G_is_loop room grd (by rfl) T.g_is_loop T.F_is_loop.kp T.b_is_loop (a_cons (e_var 0 rfl rfl (.inl rfl)) (a_cons (e_var 1 rfl rfl (.inl rfl)) a_nil)) (⟨s, _, S.ok, rfl, rfl⟩)) a_nil))) sc__law_value_right.nd rfl (.inl rfl))
    (ss_cons (s_set 5 (e_lst (a_cons (e_callK0 G_is_walk room grd (by rfl) T.g_is_walk T.F_is_walk.kp T.kb_is_walk_value_survey (k_cons (e_var 1 rfl rfl (.inl rfl)) (k_cons (e_var 0 rfl rfl (.inl rfl)) k_nil)) rfl (⟨s, _, S.ok, rfl, rfl⟩)) (a_cons (e_callK0 G_is_loop room grd (by rfl) T.g_is_loop T.F_is_loop.kp T.kb_is_loop_value_survey (k_cons (e_var 1 rfl rfl (.inl rfl)) (k_cons (e_var 0 rfl rfl (.inl rfl)) k_nil)) rfl (⟨s, _, S.ok, rfl, rfl⟩)) a_nil))) sc__law_value_right.nd rfl (.inl rfl))
    (ss_cons (s_ifF (t_conv (t_w (w_or (t_cm c_neS (e_bi (f_reprE grd room.units bools_show) (by rfl) T.n_repr (by decide +kernel) (a_cons (e_lst (a_cons (e_var 4 rfl rfl (.inl rfl)) (a_cons (e_var 5 rfl rfl (.inl rfl)) a_nil))) a_nil)) (e_bi (f_reprE grd room.units bools_show) (by rfl) T.n_repr (by decide +kernel) (a_cons (e_lst (a_cons (e_var 2 rfl rfl (.inl rfl)) (a_cons (e_var 2 rfl rfl (.inl rfl)) a_nil))) a_nil)) (nomark _)) fun hw => (w_or1 (t_cm c_neS (e_bi (f_reprE grd room.units sh) (by rfl) T.n_repr (by decide +kernel) (a_cons (e_lst (a_cons (e_var 0 rfl rfl (.inl rfl)) (a_cons (e_var 1 rfl rfl (.inl rfl)) a_nil))) a_nil)) (e_var 3 rfl rfl (.inl rfl)) (nomark _))))) (or_ff (sames _) (sames _))) (
      ss_nil))
    (ss_stop (s_ifT (t_conv (t_val (e_ixL (e_var 2 rfl rfl (.inl rfl)) e_int rfl)) (hv)) (
      (ss_to ([some (.dat (encS s)), some (.dat (.list (w.map fr))), none, none, none, none, none, none, none, none, none] : Rho) [2, 3, 4, 5] rfl
      (ss_cons (s_par 6 7 rfl (e_call G__law_total room grd (by rfl) T.g__law_total T.F__law_total.kp T.b__law_total (a_cons (e_var 0 rfl rfl (.inl rfl)) (a_cons (e_var 1 rfl rfl (.inl rfl)) a_nil)) (⟨s, w, S, W, .inl rfl, rfl⟩)) (e_lc (own := [("leg", 9), ("sense", 10)]) rfl sc__law_value_right.nd (i_list (e_revL (e_bt f_listL (by rfl) T.n_list (by decide +kernel) (a_cons (e_var 1 rfl rfl (.inl rfl)) a_nil)))) (blkOk_by (N := ["survey", "value", "due", "shown", "told", "named", "total", "about_v", "late", "leg", "sense"]) (sc := defScope s__law_value_right) (by decide +kernel)) rfl (lc_about w (fun x hx => ⟨_, _, _, (fun _ _ _ _ _ => (g_tup rfl (gs_cons (g_name 9 sc__law_value_right.nd rfl (.inl rfl)) (gs_cons (g_name 10 sc__law_value_right.nd rfl (.inl rfl)) gs_nil)))), (fun _ _ _ _ _ => ts_nil), (fun _ _ _ _ _ => (e_tup (a_cons (e_var 9 rfl rfl (.inl rfl)) (a_cons (e_sub e_int (e_var 10 rfl rfl (.inl rfl))) a_nil)))), rfl⟩)) (by rw [List.length_reverse, List.length_map]; have := W.len; omega)) sc__law_value_right.nd rfl rfl (by decide) rfl rfl (by rfl))
      (ss_cons (s_setO 8 (o_call G_turned_about room grd (by rfl) T.g_turned_about T.F_turned_about.kp T.b_turned_about (a_cons (e_var 0 rfl rfl (.inl rfl)) (a_cons (e_var 1 rfl rfl (.inl rfl)) a_nil)) (⟨s, w, _, S.ok, W, J, .inl rfl, rfl, rfl⟩)) sc__law_value_right.nd rfl (.inl rfl))
      (ss_peek 8 [4] rfl rfl (by decide) (xs_set 4 (e_lst (a_cons (e_call G_walk_sum room grd (by rfl) T.g_walk_sum T.F_walk_sum.kp T.b_walk_sum (a_cons (e_var 0 rfl rfl (.inl rfl)) (a_cons (e_var 1 rfl rfl (.inl rfl)) a_nil)) (⟨s, w, _, S, W, J, .inl rfl, rfl, rfl⟩)) (a_cons (e_callK0 G_walk_sum room grd (by rfl) T.g_walk_sum T.F_walk_sum.kp T.kb_walk_sum_walk_survey (k_cons (e_var 1 rfl rfl (.inl rfl)) (k_cons (e_var 0 rfl rfl (.inl rfl)) k_nil)) rfl (⟨s, w, _, S, W, J, .inl rfl, rfl, rfl⟩)) (a_cons (e_var 8 rfl rfl (.inl rfl)) (a_cons (e_own (o_callK0 G_turned_about room grd (by rfl) T.g_turned_about T.F_turned_about.kp T.kb_turned_about_walk_survey (k_cons (e_var 1 rfl rfl (.inl rfl)) (k_cons (e_var 0 rfl rfl (.inl rfl)) k_nil)) rfl (⟨s, w, _, S.ok, W, J, .inl rfl, rfl, rfl⟩))) a_nil))))) sc__law_value_right.nd rfl (.inl rfl)
(xs_ifF (t_conv (t_w (w_or (t_cm c_neS (e_bi (f_reprE grd room.units (told_shows few A.1 S.ok)) (by rfl) T.n_repr (by decide +kernel) (a_cons (e_var 4 rfl rfl (.inl rfl)) a_nil)) (e_bi (f_reprE grd room.units (told_shows few A.1 S.ok)) (by rfl) T.n_repr (by decide +kernel) (a_cons (e_lst (a_cons (e_var 6 rfl rfl (.inl rfl)) (a_cons (e_var 6 rfl rfl (.inl rfl)) (a_cons (e_var 7 rfl rfl (.inl rfl)) (a_cons (e_var 7 rfl rfl (.inl rfl)) a_nil))))) a_nil)) (nomark _)) fun hw => (w_or1 (t_cm (c_neQ room.units (vec_shaped (sumF_few S A.1).1) (vec_shaped (by rw [vNeg_len]; exact few.1))) (e_call G_walk_sum room grd (by rfl) T.g_walk_sum T.F_walk_sum.kp T.b_walk_sum (a_cons (e_var 0 rfl rfl (.inl rfl)) (a_cons (e_var 7 rfl rfl (.inl rfl)) a_nil)) (⟨s, aboutF w, _, S, A.1, A.2, .inl rfl, rfl, rfl⟩)) (e_call G__law_back room grd (by rfl) T.g__law_back T.F__law_back.kp T.b__law_back (a_cons (e_var 6 rfl rfl (.inl rfl)) a_nil) (⟨sumF s w, few.1, rfl, rfl⟩)) (nomark _))))) (or_ff (sames _) (by rw [sum_about S W.ok, vec_eqv]; rfl))) (xs_end
      (ss_cons (s_expr (e_append 8 rfl rfl rfl (.inl rfl) e_non rfl rfl (len_map_lt (by have := A.1.len; omega))))
      (ss_one (s_ret (e_conv (e_cm c_eqS (e_bi (f_reprE grd room.units (about_shows A.1 S.ok)) (by rfl) T.n_repr (by decide +kernel) (a_cons (e_own (o_call G_turned_about room grd (by rfl) T.g_turned_about T.F_turned_about.kp T.b_turned_about (a_cons (e_var 0 rfl rfl (.inl rfl)) (a_cons (e_var 1 rfl rfl (.inl rfl)) a_nil)) (⟨s, w, _, S.ok, W, J, .inl rfl, rfl, rfl⟩))) a_nil)) (e_bi (f_reprE grd room.units (about_shows A.1 S.ok)) (by rfl) T.n_repr (by decide +kernel) (a_cons (e_var 7 rfl rfl (.inl rfl)) a_nil)) (nomark _)) (by first | rfl | exact congrArg PyData.bool (decide_eq_true rfl))))))))) rfl rfl))))))))))))
    · exact (
    (ss_cons (s_par 2 3 rfl (e_lst (a_cons (e_call G__law_is_walk room grd (by rfl) T.g__law_is_walk T.F__law_is_walk.kp T.b__law_is_walk (a_cons (e_var 0 rfl rfl (.inl rfl)) (a_cons (e_var 1 rfl rfl (.inl rfl)) a_nil)) (⟨s, _, rfl, rfl⟩)) (a_cons (e_call G__law_is_loop room grd (by rfl) T.g__law_is_loop T.F__law_is_loop.kp T.b__law_is_loop (a_cons (e_var 0 rfl rfl (.inl rfl)) (a_cons (e_var 1 rfl rfl (.inl rfl)) a_nil)) (⟨s, _, rfl, rfl⟩)) a_nil))) (e_bi (f_reprE grd room.units sh) (by rfl) T.n_repr (by decide +kernel) (a_cons (e_lst (a_cons (e_var 0 rfl rfl (.inl rfl)) (a_cons (e_var 1 rfl rfl (.inl rfl)) a_nil))) a_nil)) sc__law_value_right.nd rfl rfl (by decide) rfl rfl (by rfl))
    (ss_cons (s_set 4 (e_lst (a_cons (e_call G_is_walk room grd (by rfl) T.g_is_walk T.F_is_walk.kp T.b_is_walk (a_cons (e_var 0 rfl rfl (.inl rfl)) (a_cons (e_var 1 rfl rfl (.inl rfl)) a_nil)) (⟨s, _, S.ok, rfl, rfl⟩)) (a_cons (e_call G_is_loop room grd (by rfl) T.g_is_loop T.F_is_loop.kp T.b_is_loop (a_cons (e_var 0 rfl rfl (.inl rfl)) (a_cons (e_var 1 rfl rfl (.inl rfl)) a_nil)) (⟨s, _, S.ok, rfl, rfl⟩)) a_nil))) sc__law_value_right.nd rfl (.inl rfl))
    (ss_cons (s_set 5 (e_lst (a_cons (e_callK0 G_is_walk room grd (by rfl) T.g_is_walk T.F_is_walk.kp T.kb_is_walk_value_survey (k_cons (e_var 1 rfl rfl (.inl rfl)) (k_cons (e_var 0 rfl rfl (.inl rfl)) k_nil)) rfl (⟨s, _, S.ok, rfl, rfl⟩)) (a_cons (e_callK0 G_is_loop room grd (by rfl) T.g_is_loop T.F_is_loop.kp T.kb_is_loop_value_survey (k_cons (e_var 1 rfl rfl (.inl rfl)) (k_cons (e_var 0 rfl rfl (.inl rfl)) k_nil)) rfl (⟨s, _, S.ok, rfl, rfl⟩)) a_nil))) sc__law_value_right.nd rfl (.inl rfl))
    (ss_cons (s_ifF (t_conv (t_w (w_or (t_cm c_neS (e_bi (f_reprE grd room.units bools_show) (by rfl) T.n_repr (by decide +kernel) (a_cons (e_lst (a_cons (e_var 4 rfl rfl (.inl rfl)) (a_cons (e_var 5 rfl rfl (.inl rfl)) a_nil))) a_nil)) (e_bi (f_reprE grd room.units bools_show) (by rfl) T.n_repr (by decide +kernel) (a_cons (e_lst (a_cons (e_var 2 rfl rfl (.inl rfl)) (a_cons (e_var 2 rfl rfl (.inl rfl)) a_nil))) a_nil)) (nomark _)) fun hw => (w_or1 (t_cm c_neS (e_bi (f_reprE grd room.units sh) (by rfl) T.n_repr (by decide +kernel) (a_cons (e_lst (a_cons (e_var 0 rfl rfl (.inl rfl)) (a_cons (e_var 1 rfl rfl (.inl rfl)) a_nil))) a_nil)) (e_var 3 rfl rfl (.inl rfl)) (nomark _))))) (or_ff (sames _) (sames _))) (
      ss_nil))
    (ss_stop (s_ifT (t_conv (t_val (e_ixL (e_var 2 rfl rfl (.inl rfl)) e_int rfl)) (hv)) (
      (ss_to ([some (.dat (encS s)), some (.dat (.tuple (w.map fr))), none, none, none, none, none, none, none, none, none] : Rho) [2, 3, 4, 5] rfl
      (ss_cons (s_par 6 7 rfl (e_call G__law_total room grd (by rfl) T.g__law_total T.F__law_total.kp T.b__law_total (a_cons (e_var 0 rfl rfl (.inl rfl)) (a_cons (e_var 1 rfl rfl (.inl rfl)) a_nil)) (⟨s, w, S, W, .inr rfl, rfl⟩)) (e_lc (own := [("leg", 9), ("sense", 10)]) rfl sc__law_value_right.nd (i_list (e_revL (e_bt f_listT (by rfl) T.n_list (by decide +kernel) (a_cons (e_var 1 rfl rfl (.inl rfl)) a_nil)))) (blkOk_by (N := ["survey", "value", "due", "shown", "told", "named", "total", "about_v", "late", "leg", "sense"]) (sc := defScope s__law_value_right) (by decide +kernel)) rfl (lc_about w (fun x hx => ⟨_, _, _, (fun _ _ _ _ _ => (g_tup rfl (gs_cons (g_name 9 sc__law_value_right.nd rfl (.inl rfl)) (gs_cons (g_name 10 sc__law_value_right.nd rfl (.inl rfl)) gs_nil)))), (fun _ _ _ _ _ => ts_nil), (fun _ _ _ _ _ => (e_tup (a_cons (e_var 9 rfl rfl (.inl rfl)) (a_cons (e_sub e_int (e_var 10 rfl rfl (.inl rfl))) a_nil)))), rfl⟩)) (by rw [List.length_reverse, List.length_map]; have := W.len; omega)) sc__law_value_right.nd rfl rfl (by decide) rfl rfl (by rfl))
      (ss_cons (s_setO 8 (o_call G_turned_about room grd (by rfl) T.g_turned_about T.F_turned_about.kp T.b_turned_about (a_cons (e_var 0 rfl rfl (.inl rfl)) (a_cons (e_var 1 rfl rfl (.inl rfl)) a_nil)) (⟨s, w, _, S.ok, W, J, .inr rfl, rfl, rfl⟩)) sc__law_value_right.nd rfl (.inl rfl))
      (ss_peek 8 [4] rfl rfl (by decide) (xs_set 4 (e_lst (a_cons (e_call G_walk_sum room grd (by rfl) T.g_walk_sum T.F_walk_sum.kp T.b_walk_sum (a_cons (e_var 0 rfl rfl (.inl rfl)) (a_cons (e_var 1 rfl rfl (.inl rfl)) a_nil)) (⟨s, w, _, S, W, J, .inr rfl, rfl, rfl⟩)) (a_cons (e_callK0 G_walk_sum room grd (by rfl) T.g_walk_sum T.F_walk_sum.kp T.kb_walk_sum_walk_survey (k_cons (e_var 1 rfl rfl (.inl rfl)) (k_cons (e_var 0 rfl rfl (.inl rfl)) k_nil)) rfl (⟨s, w, _, S, W, J, .inr rfl, rfl, rfl⟩)) (a_cons (e_var 8 rfl rfl (.inl rfl)) (a_cons (e_own (o_callK0 G_turned_about room grd (by rfl) T.g_turned_about T.F_turned_about.kp T.kb_turned_about_walk_survey (k_cons (e_var 1 rfl rfl (.inl rfl)) (k_cons (e_var 0 rfl rfl (.inl rfl)) k_nil)) rfl (⟨s, w, _, S.ok, W, J, .inr rfl, rfl, rfl⟩))) a_nil))))) sc__law_value_right.nd rfl (.inl rfl)
(xs_ifF (t_conv (t_w (w_or (t_cm c_neS (e_bi (f_reprE grd room.units (told_shows few A.1 S.ok)) (by rfl) T.n_repr (by decide +kernel) (a_cons (e_var 4 rfl rfl (.inl rfl)) a_nil)) (e_bi (f_reprE grd room.units (told_shows few A.1 S.ok)) (by rfl) T.n_repr (by decide +kernel) (a_cons (e_lst (a_cons (e_var 6 rfl rfl (.inl rfl)) (a_cons (e_var 6 rfl rfl (.inl rfl)) (a_cons (e_var 7 rfl rfl (.inl rfl)) (a_cons (e_var 7 rfl rfl (.inl rfl)) a_nil))))) a_nil)) (nomark _)) fun hw => (w_or1 (t_cm (c_neQ room.units (vec_shaped (sumF_few S A.1).1) (vec_shaped (by rw [vNeg_len]; exact few.1))) (e_call G_walk_sum room grd (by rfl) T.g_walk_sum T.F_walk_sum.kp T.b_walk_sum (a_cons (e_var 0 rfl rfl (.inl rfl)) (a_cons (e_var 7 rfl rfl (.inl rfl)) a_nil)) (⟨s, aboutF w, _, S, A.1, A.2, .inl rfl, rfl, rfl⟩)) (e_call G__law_back room grd (by rfl) T.g__law_back T.F__law_back.kp T.b__law_back (a_cons (e_var 6 rfl rfl (.inl rfl)) a_nil) (⟨sumF s w, few.1, rfl, rfl⟩)) (nomark _))))) (or_ff (sames _) (by rw [sum_about S W.ok, vec_eqv]; rfl))) (xs_end
      (ss_cons (s_expr (e_append 8 rfl rfl rfl (.inl rfl) e_non rfl rfl (len_map_lt (by have := A.1.len; omega))))
      (ss_one (s_ret (e_conv (e_cm c_eqS (e_bi (f_reprE grd room.units (about_shows A.1 S.ok)) (by rfl) T.n_repr (by decide +kernel) (a_cons (e_own (o_call G_turned_about room grd (by rfl) T.g_turned_about T.F_turned_about.kp T.b_turned_about (a_cons (e_var 0 rfl rfl (.inl rfl)) (a_cons (e_var 1 rfl rfl (.inl rfl)) a_nil)) (⟨s, w, _, S.ok, W, J, .inr rfl, rfl, rfl⟩))) a_nil)) (e_bi (f_reprE grd room.units (about_shows A.1 S.ok)) (by rfl) T.n_repr (by decide +kernel) (a_cons (e_var 7 rfl rfl (.inl rfl)) a_nil)) (nomark _)) (by first | rfl | exact congrArg PyData.bool (decide_eq_true rfl))))))))) rfl rfl))))))))))))
  · exact (
    (ss_cons (s_par 2 3 rfl (e_lst (a_cons (e_call G__law_is_walk room grd (by rfl) T.g__law_is_walk T.F__law_is_walk.kp T.b__law_is_walk (a_cons (e_var 0 rfl rfl (.inl rfl)) (a_cons (e_var 1 rfl rfl (.inl rfl)) a_nil)) (⟨s, _, rfl, rfl⟩)) (a_cons (e_call G__law_is_loop room grd (by rfl) T.g__law_is_loop T.F__law_is_loop.kp T.b__law_is_loop (a_cons (e_var 0 rfl rfl (.inl rfl)) (a_cons (e_var 1 rfl rfl (.inl rfl)) a_nil)) (⟨s, _, rfl, rfl⟩)) a_nil))) (e_bi (f_reprE grd room.units sh) (by rfl) T.n_repr (by decide +kernel) (a_cons (e_lst (a_cons (e_var 0 rfl rfl (.inl rfl)) (a_cons (e_var 1 rfl rfl (.inl rfl)) a_nil))) a_nil)) sc__law_value_right.nd rfl rfl (by decide) rfl rfl (by rfl))
    (ss_cons (s_set 4 (e_lst (a_cons (e_call G_is_walk room grd (by rfl) T.g_is_walk T.F_is_walk.kp T.b_is_walk (a_cons (e_var 0 rfl rfl (.inl rfl)) (a_cons (e_var 1 rfl rfl (.inl rfl)) a_nil)) (⟨s, _, S.ok, rfl, rfl⟩)) (a_cons (e_call G_is_loop room grd (by rfl) T.g_is_loop T.F_is_loop.kp T.b_is_loop (a_cons (e_var 0 rfl rfl (.inl rfl)) (a_cons (e_var 1 rfl rfl (.inl rfl)) a_nil)) (⟨s, _, S.ok, rfl, rfl⟩)) a_nil))) sc__law_value_right.nd rfl (.inl rfl))
    (ss_cons (s_set 5 (e_lst (a_cons (e_callK0 G_is_walk room grd (by rfl) T.g_is_walk T.F_is_walk.kp T.kb_is_walk_value_survey (k_cons (e_var 1 rfl rfl (.inl rfl)) (k_cons (e_var 0 rfl rfl (.inl rfl)) k_nil)) rfl (⟨s, _, S.ok, rfl, rfl⟩)) (a_cons (e_callK0 G_is_loop room grd (by rfl) T.g_is_loop T.F_is_loop.kp T.kb_is_loop_value_survey (k_cons (e_var 1 rfl rfl (.inl rfl)) (k_cons (e_var 0 rfl rfl (.inl rfl)) k_nil)) rfl (⟨s, _, S.ok, rfl, rfl⟩)) a_nil))) sc__law_value_right.nd rfl (.inl rfl))
    (ss_cons (s_ifF (t_conv (t_w (w_or (t_cm c_neS (e_bi (f_reprE grd room.units bools_show) (by rfl) T.n_repr (by decide +kernel) (a_cons (e_lst (a_cons (e_var 4 rfl rfl (.inl rfl)) (a_cons (e_var 5 rfl rfl (.inl rfl)) a_nil))) a_nil)) (e_bi (f_reprE grd room.units bools_show) (by rfl) T.n_repr (by decide +kernel) (a_cons (e_lst (a_cons (e_var 2 rfl rfl (.inl rfl)) (a_cons (e_var 2 rfl rfl (.inl rfl)) a_nil))) a_nil)) (nomark _)) fun hw => (w_or1 (t_cm c_neS (e_bi (f_reprE grd room.units sh) (by rfl) T.n_repr (by decide +kernel) (a_cons (e_lst (a_cons (e_var 0 rfl rfl (.inl rfl)) (a_cons (e_var 1 rfl rfl (.inl rfl)) a_nil))) a_nil)) (e_var 3 rfl rfl (.inl rfl)) (nomark _))))) (or_ff (sames _) (sames _))) (
      ss_nil))
    (ss_cons (s_ifF (t_conv (t_val (e_ixL (e_var 2 rfl rfl (.inl rfl)) e_int rfl)) (Bool.eq_false_iff.mpr hv)) (
      ss_nil))
    (ss_one (s_ret (e_conv e_bl rfl)))))))))

def R__law_right (m ds m' : List PyData) (d : PyData) : Prop := ∃ p : Pot, PotOk p ∧ m = potD p ∧ ds = [] ∧ m' = potD (rightP p) ∧ d = .bool true
theorem ok__law_right (T : Txt K mg) : FnG P w K mg base CX0 10 T.a__law_right T.d__law_right ["pot"] (spOf K (potS R__law_right)) := by
  have G__law_survey := (ok__law_survey (P := P) (w := w) (base := base) T).mono (by decide : 5 ≤ 9)
  have G__law_drawn_walk := (ok__law_drawn_walk (P := P) (w := w) (base := base) T).mono (by decide : 3 ≤ 9)
  have G__law_cut := (ok__law_cut (P := P) (w := w) (base := base) T).mono (by decide : 2 ≤ 9)
  have G__law_draw := (ok__law_draw (P := P) (w := w) (base := base) T).mono (by decide : 1 ≤ 9)
  have G__law_bent := (ok__law_bent (P := P) (w := w) (base := base) T).mono (by decide : 3 ≤ 9)
  have G__law_value_right := (ok__law_value_right (P := P) (w := w) (base := base) T).mono (by decide : 9 ≤ 9)
  have G__law_pick := (ok__law_pick (P := P) (w := w) (base := base) T).mono (by decide : 2 ≤ 9)
  refine fn_pot T.F__law_right sc__law_right (by rintro _ _ _ _ ⟨p, _, _, rfl, _⟩; rfl) fun cdv A outer s H E room grd q m ds m' d hR => ?_
  obtain ⟨p, hp, rfl, rfl, rfl, rfl⟩ := hR
  have B := right_ok hp
  have a0 := B.a0
  have a1 := B.a1
  have b0 := B.b0
  have b1 := B.b1
  have c0 := B.c0
  have c1 := B.c1
  have m0 := B.m0
  have m1 := B.m1
  have wl := B.wl
  have ul := B.ul
  have lw : ((rW p).2.1.map fr).length = (rW p).2.1.length := List.length_map ..
  have lu : ((rU p).map fr).length = (rU p).length := List.length_map ..
  exact (
    (ss_cons (s_set 1 (e_callP 0 G__law_survey room grd (by rfl) T.g__law_survey T.F__law_survey.kp T.b__law_survey rfl rfl (a_cons (e_add e_int (e_callP 0 G__law_draw room grd (by rfl) T.g__law_draw T.F__law_draw.kp T.b__law_draw rfl rfl (a_cons e_int a_nil) rfl rfl (⟨p, 2, hp, by decide, bitsS (by decide), rfl, rfl, (rfl : potD (rA p).1 = _), (rfl : PyData.int (rA p).2 = _)⟩) rfl (.inr (.inl rfl)))) (a_cons (e_add e_int (e_callP 0 G__law_draw room grd (by rfl) T.g__law_draw T.F__law_draw.kp T.b__law_draw rfl rfl (a_cons e_int a_nil) rfl rfl (⟨(rA p).1, 5, B.a, by decide, bitsS (by decide), rfl, rfl, (rfl : potD (rB p).1 = _), (rfl : PyData.int (rB p).2 = _)⟩) rfl (.inr (.inl rfl)))) (a_cons (e_add e_int (e_callP 0 G__law_draw room grd (by rfl) T.g__law_draw T.F__law_draw.kp T.b__law_draw rfl rfl (a_cons e_int a_nil) rfl rfl (⟨(rB p).1, 9, B.b, by decide, bitsS (by decide), rfl, rfl, (rfl : potD (rC p).1 = _), (rfl : PyData.int (rC p).2 = _)⟩) rfl (.inr (.inl rfl)))) (a_cons e_int a_nil)))) rfl rfl (⟨(rC p).1, 1 + (rA p).2, 2 + (rB p).2, 1 + (rC p).2, 4, B.c, by omega, by omega, by omega, by omega, by omega, by omega, rfl, rfl, (rfl : potD (rS p).1 = _), (rfl : encS (rS p).2 = _)⟩) rfl (.inr (.inl rfl))) sc__law_right.nd rfl (.inr rfl))
    (ss_cons (s_set 2 (e_callP 0 G__law_drawn_walk room grd (by rfl) T.g__law_drawn_walk T.F__law_drawn_walk.kp T.b__law_drawn_walk rfl rfl (a_cons (e_var 1 rfl rfl (.inr (.inl rfl))) (a_cons (e_callP 0 G__law_draw room grd (by rfl) T.g__law_draw T.F__law_draw.kp T.b__law_draw rfl rfl (a_cons e_int a_nil) rfl rfl (⟨(rS p).1, 15, B.s, by decide, bitsS (by decide), rfl, rfl, (rfl : potD (rM p).1 = _), (rfl : PyData.int (rM p).2 = _)⟩) rfl (.inr (.inl rfl))) a_nil)) rfl rfl (⟨(rM p).1, (rS p).2, (rM p).2, B.m, B.S.ok, by omega, by omega, rfl, rfl, (rfl : potD (rW p).1 = _), (rfl : PyData.list ((rW p).2.1.map fr) = _)⟩) rfl (.inr (.inl rfl))) sc__law_right.nd rfl (.inr rfl))
    (ss_cons (s_set 3 (e_call G__law_cut room grd (by rfl) T.g__law_cut T.F__law_cut.kp T.b__law_cut (a_cons (e_var 1 rfl rfl (.inr (.inl rfl))) (a_cons (e_var 2 rfl rfl (.inr (.inl rfl))) a_nil)) (⟨(rS p).2, (rW p).2.1, B.wo, by omega, rfl, B.u.symm⟩)) sc__law_right.nd rfl (.inr rfl))
    (ss_cons (s_setO 4 (o_lst (a_cons (e_var 2 rfl rfl (.inr (.inl rfl))) (a_cons (e_var 3 rfl rfl (.inr (.inl rfl))) (a_cons (e_conv (e_bt f_tupL (by rfl) T.n_tuple (by decide +kernel) (a_cons (e_var 3 rfl rfl (.inr (.inl rfl))) a_nil)) rfl) (a_cons (e_catLc (e_var 3 rfl rfl (.inr (.inl rfl))) (e_var 3 rfl rfl (.inr (.inl rfl))) (by omega) rfl) (a_cons (e_catLc (e_var 2 rfl rfl (.inr (.inl rfl))) (e_lc (own := [("leg", 6), ("sense", 7)]) rfl sc__law_right.nd (i_list (e_revL (e_var 2 rfl rfl (.inr (.inl rfl))))) (blkOk_by (N := ["pot", "survey", "walk", "loop", "values", "value", "leg", "sense", "turn"]) (sc := defScope s__law_right) (by decide +kernel)) rfl (lc_about (rW p).2.1 (fun x hx => ⟨_, _, _, (fun _ _ _ _ _ => (g_tup rfl (gs_cons (g_name 6 sc__law_right.nd rfl (.inl rfl)) (gs_cons (g_name 7 sc__law_right.nd rfl (.inl rfl)) gs_nil)))), (fun _ _ _ _ _ => ts_nil), (fun _ _ _ _ _ => (e_tup (a_cons (e_var 6 rfl rfl (.inl rfl)) (a_cons (e_sub e_int (e_var 7 rfl rfl (.inl rfl))) a_nil)))), rfl⟩)) (by rw [List.length_reverse, List.length_map]; omega)) (by rw [lw, List.length_map, about_len]; omega) rfl) a_nil)))))) sc__law_right.nd rfl (.inl rfl))
    (ss_cons (s_expr (e_append 4 rfl rfl rfl (.inl rfl) (e_repLc (e_lst (a_cons (e_tup (a_cons e_int (a_cons e_int a_nil))) (a_cons (e_tup (a_cons e_int (a_cons (e_neg e_int) a_nil))) a_nil))) e_int (by decide) (by decide) (by first | exact Nat.le_of_ble_eq_true rfl | (rw [rep_len]; decide)) rfl) rfl rfl (by first | exact Nat.le_of_ble_eq_true rfl | (rw [rep_len]; decide))))
    (ss_cons (s_expr (e_append 4 rfl rfl rfl (.inl rfl) (e_catLc (e_repLc (e_lst (a_cons (e_tup (a_cons e_int (a_cons e_int a_nil))) (a_cons (e_tup (a_cons e_int (a_cons (e_neg e_int) a_nil))) a_nil))) e_int (by decide) (by decide) (by first | exact Nat.le_of_ble_eq_true rfl | (rw [rep_len]; decide)) rfl) (e_lst (a_cons (e_tup (a_cons e_int (a_cons e_int a_nil))) a_nil)) (by rw [rep_len]; decide) rfl) rfl rfl (by first | exact Nat.le_of_ble_eq_true rfl | (rw [rep_len]; decide))))
(ss_fix 4 rfl
    (ss_cons (s_forF [5] (i_list (e_catLc (e_var 4 rfl rfl (.inl rfl)) (e_lc (own := [("turn", 8)]) rfl sc__law_right.nd (i_range1 (by rfl) T.n_range (a_cons e_int a_nil) (by decide)) (blkOk_by (N := ["pot", "survey", "walk", "loop", "values", "value", "leg", "sense", "turn"]) (sc := defScope s__law_right) (by decide +kernel)) rfl (lc_state (fun i : Nat => PyData.int (0 + (i : Int))) (bentF p) (fun b => [some (.bor q (.lst (potD b))), some (.dat (encS (rS p).2)), some (.dat (.list ((rW p).2.1.map fr))), some (.dat (.list ((rU p).map fr))), some (.dat (.list (valsR p))), none, none, none, none]) (fun _ b => PotOk b) (List.range (Int.toNat 8)) (rW p).1 (fun x r b hb => ⟨_, _, _, (fun _ _ _ _ _ => (g_name 8 sc__law_right.nd rfl (.inl rfl))), (fun _ _ _ _ _ => ts_nil), (fun _ _ _ _ _ => (e_callP 0 G__law_bent room grd (by rfl) T.g__law_bent T.F__law_bent.kp T.b__law_bent rfl rfl (a_cons (e_var 1 rfl rfl (.inr (.inl rfl))) (a_cons (e_callP 0 G__law_pick room grd (by rfl) T.g__law_pick T.F__law_pick.kp T.b__law_pick rfl rfl (a_cons (e_lst (a_cons (e_var 2 rfl rfl (.inr (.inl rfl))) (a_cons (e_var 3 rfl rfl (.inr (.inl rfl))) a_nil))) a_nil) rfl rfl (⟨b, [(rW p).2.1, rU p].map fun w => .list (w.map fr), hb, (show 0 < 2 by decide), (show 2 ≤ 1000000 by decide), rfl, rfl, (rfl : potD (draw dc b 2).1 = _), pick_map [] (draw_ok dc_ok hb (n := 2) (by decide)).2.1 (by exact (draw_ok dc_ok hb (n := 2) (by decide)).2.2)⟩) rfl (.inr (.inl rfl))) a_nil)) rfl rfl (⟨(draw dc b 2).1, (rS p).2, _, (draw_ok dc_ok hb (n := 2) (by decide)).1, B.S.ok, (two_ok B.toRightOk hb).1, (two_ok B.toRightOk hb).2, rfl, rfl, (rfl : potD (bentF p b x).1 = _), (rfl : (bentF p b x).2 = _)⟩) rfl (.inr (.inl rfl)))), rfl, (bentF_ok B.toRightOk hb).1⟩) B.w) (by rw [rangeD_len]; decide)) (by rw [runL_len, List.length_range]; exact Nat.le_of_ble_eq_true rfl) rfl)) (forD_each [5] OkW _ (fun x hx => ⟨_, _, (g_name 5 sc__law_right.nd rfl (.inl rfl)),         (ss_one (s_ifF (t_conv (t_not (t_val (e_call G__law_value_right room grd (by rfl) T.g__law_value_right T.F__law_value_right.kp T.b__law_value_right (a_cons (e_var 1 rfl rfl (.inr (.inl rfl))) (a_cons (e_var 5 rfl rfl (.inl rfl)) a_nil)) (⟨(rS p).2, x, B.S, hx, rfl, rfl⟩)))) rfl) (
          ss_nil))), rfl⟩) B.ok) PassesOwn.never rfl)
    (ss_one (s_ret (e_conv e_bl rfl) (one_bor 0 rfl))))))))))))

theorem ok_law (T : Txt K mg) : FnG P w K mg base CX0 11 T.a_law T.d_law ["script"] (spOf K (lawS 63)) := by
  have G__law_right := (ok__law_right (P := P) (w := w) (base := base) T).mono (by decide : 10 ≤ 10)
  have G__law_pot := (ok__law_pot (P := P) (w := w) (base := base) T).mono (by decide : 1 ≤ 10)
  refine fn_scr T.F_law sc_law (by rintro _ _ _ ⟨rfl, _, _⟩; rfl) fun cdv A outer s H E room grd ns ds r hR => ?_
  obtain ⟨rfl, hn, rfl⟩ := hR
  exact (
    (ss_cons (s_forF [1] (i_range1 (by rfl) T.n_range (a_cons (e_bi (f_max rfl) (by rfl) T.n_max (by decide +kernel) (a_cons e_int (a_cons (e_bi (f_min rfl) (by rfl) T.n_min (by decide +kernel) (a_cons e_int (a_cons (e_lenS 0 (by rfl) T.n_len rfl rfl (.inl rfl)) a_nil))) a_nil))) a_nil) (by omega)) (forD_fold [1] (fun i : Nat => PyData.int (0 + (i : Int))) (fun (_ : Unit) (_ : Nat) => ()) (fun _ => [some (.scr ns), none]) (fun r _ => ∀ x ∈ r, x < 64) (List.range (max 1 (min 3 (ns.length : Int))).toNat) () (fun x r b h => ⟨_, _, (g_name 1 sc_law.nd rfl (.inl rfl)),         (ss_one (s_ifF (t_conv (t_not (t_val (e_callN G__law_right room grd (by rfl) T.g__law_right T.F__law_right.kp T.b__law_right (c_callS 0 G__law_pot room grd (by rfl) T.g__law_pot T.F__law_pot.kp T.b__law_pot rfl (a_cons (e_var 1 rfl rfl (.inl rfl)) a_nil) (⟨0 + (x : Int), (by omega), (by have := h x List.mem_cons_self; omega), rfl, rfl⟩) rfl (.inl rfl)) a_nil (⟨pot0 ns (0 + (x : Int)), pot0_ok ns _, rfl, rfl, rfl, rfl⟩)))) rfl) (
          ss_nil))), rfl, fun y hy => h y (List.mem_cons_of_mem _ hy)⟩) (fun x hx => by have := List.mem_range.mp hx; omega)) PassesOwn.never rfl)
    (ss_one (s_ret (e_conv e_bl rfl)))))
end

theorem all_mk {l : PySem.W.OpenLaw} {w : World} {K : PySem.W.Frag} {h : Heap} {mg : Str → Option Value} {fa : Addr} (X : K.In h) (G : h.Ns mainGlobals mg) (hfa : mg "law" = some (.ref fa))
    {f0 : Addr} {od0 an0 : Option Addr} {sl0 : Array (Option Value)} {oc0 kV0 dc0 pm0 cd0 ct0 : Value} (a0 : PySem.W.nsIn K mainGlobals "is_integer" = some (some (.ref f0))) (l0 : K.lookup f0 = some ⟨oc0, od0, .func (PySem.W.fnOf "is_integer" "is_integer" (defArgs s_is_integer) (defBody s_is_integer) (defScope s_is_integer) .none kV0 dc0 pm0 an0 cd0 ct0), sl0⟩) (c0 : PySem.W.codeIn K cd0 "is_integer" = true) (k0 : PySem.W.keepIn K (.ref f0) = true)
    {f1 : Addr} {od1 an1 : Option Addr} {sl1 : Array (Option Value)} {oc1 kV1 dc1 pm1 cd1 ct1 : Value} (a1 : PySem.W.nsIn K mainGlobals "is_within" = some (some (.ref f1))) (l1 : K.lookup f1 = some ⟨oc1, od1, .func (PySem.W.fnOf "is_within" "is_within" (defArgs s_is_within) (defBody s_is_within) (defScope s_is_within) .none kV1 dc1 pm1 an1 cd1 ct1), sl1⟩) (c1 : PySem.W.codeIn K cd1 "is_within" = true) (k1 : PySem.W.keepIn K (.ref f1) = true)
    {f2 : Addr} {od2 an2 : Option Addr} {sl2 : Array (Option Value)} {oc2 kV2 dc2 pm2 cd2 ct2 : Value} (a2 : PySem.W.nsIn K mainGlobals "is_list" = some (some (.ref f2))) (l2 : K.lookup f2 = some ⟨oc2, od2, .func (PySem.W.fnOf "is_list" "is_list" (defArgs s_is_list) (defBody s_is_list) (defScope s_is_list) .none kV2 dc2 pm2 an2 cd2 ct2), sl2⟩) (c2 : PySem.W.codeIn K cd2 "is_list" = true) (k2 : PySem.W.keepIn K (.ref f2) = true)
    {f3 : Addr} {od3 an3 : Option Addr} {sl3 : Array (Option Value)} {oc3 kV3 dc3 pm3 cd3 ct3 : Value} (a3 : PySem.W.nsIn K mainGlobals "is_tuple" = some (some (.ref f3))) (l3 : K.lookup f3 = some ⟨oc3, od3, .func (PySem.W.fnOf "is_tuple" "is_tuple" (defArgs s_is_tuple) (defBody s_is_tuple) (defScope s_is_tuple) .none kV3 dc3 pm3 an3 cd3 ct3), sl3⟩) (c3 : PySem.W.codeIn K cd3 "is_tuple" = true) (k3 : PySem.W.keepIn K (.ref f3) = true)
    {f4 : Addr} {od4 an4 : Option Addr} {sl4 : Array (Option Value)} {oc4 kV4 dc4 pm4 cd4 ct4 : Value} (a4 : PySem.W.nsIn K mainGlobals "fraction" = some (some (.ref f4))) (l4 : K.lookup f4 = some ⟨oc4, od4, .func (PySem.W.fnOf "fraction" "fraction" (defArgs s_fraction) (defBody s_fraction) (defScope s_fraction) .none kV4 dc4 pm4 an4 cd4 ct4), sl4⟩) (c4 : PySem.W.codeIn K cd4 "fraction" = true) (k4 : PySem.W.keepIn K (.ref f4) = true)
    {f5 : Addr} {od5 an5 : Option Addr} {sl5 : Array (Option Value)} {oc5 kV5 dc5 pm5 cd5 ct5 : Value} (a5 : PySem.W.nsIn K mainGlobals "added" = some (some (.ref f5))) (l5 : K.lookup f5 = some ⟨oc5, od5, .func (PySem.W.fnOf "added" "added" (defArgs s_added) (defBody s_added) (defScope s_added) .none kV5 dc5 pm5 an5 cd5 ct5), sl5⟩) (c5 : PySem.W.codeIn K cd5 "added" = true) (k5 : PySem.W.keepIn K (.ref f5) = true)
    {f6 : Addr} {od6 an6 : Option Addr} {sl6 : Array (Option Value)} {oc6 kV6 dc6 pm6 cd6 ct6 : Value} (a6 : PySem.W.nsIn K mainGlobals "contrary" = some (some (.ref f6))) (l6 : K.lookup f6 = some ⟨oc6, od6, .func (PySem.W.fnOf "contrary" "contrary" (defArgs s_contrary) (defBody s_contrary) (defScope s_contrary) .none kV6 dc6 pm6 an6 cd6 ct6), sl6⟩) (c6 : PySem.W.codeIn K cd6 "contrary" = true) (k6 : PySem.W.keepIn K (.ref f6) = true)
    {f7 : Addr} {od7 an7 : Option Addr} {sl7 : Array (Option Value)} {oc7 kV7 dc7 pm7 cd7 ct7 : Value} (a7 : PySem.W.nsIn K mainGlobals "is_fraction" = some (some (.ref f7))) (l7 : K.lookup f7 = some ⟨oc7, od7, .func (PySem.W.fnOf "is_fraction" "is_fraction" (defArgs s_is_fraction) (defBody s_is_fraction) (defScope s_is_fraction) .none kV7 dc7 pm7 an7 cd7 ct7), sl7⟩) (c7 : PySem.W.codeIn K cd7 "is_fraction" = true) (k7 : PySem.W.keepIn K (.ref f7) = true)
    {f8 : Addr} {od8 an8 : Option Addr} {sl8 : Array (Option Value)} {oc8 kV8 dc8 pm8 cd8 ct8 : Value} (a8 : PySem.W.nsIn K mainGlobals "is_short" = some (some (.ref f8))) (l8 : K.lookup f8 = some ⟨oc8, od8, .func (PySem.W.fnOf "is_short" "is_short" (defArgs s_is_short) (defBody s_is_short) (defScope s_is_short) .none kV8 dc8 pm8 an8 cd8 ct8), sl8⟩) (c8 : PySem.W.codeIn K cd8 "is_short" = true) (k8 : PySem.W.keepIn K (.ref f8) = true)
    {f9 : Addr} {od9 an9 : Option Addr} {sl9 : Array (Option Value)} {oc9 kV9 dc9 pm9 cd9 ct9 : Value} (a9 : PySem.W.nsIn K mainGlobals "nought" = some (some (.ref f9))) (l9 : K.lookup f9 = some ⟨oc9, od9, .func (PySem.W.fnOf "nought" "nought" (defArgs s_nought) (defBody s_nought) (defScope s_nought) .none kV9 dc9 pm9 an9 cd9 ct9), sl9⟩) (c9 : PySem.W.codeIn K cd9 "nought" = true) (k9 : PySem.W.keepIn K (.ref f9) = true)
    {f10 : Addr} {od10 an10 : Option Addr} {sl10 : Array (Option Value)} {oc10 kV10 dc10 pm10 cd10 ct10 : Value} (a10 : PySem.W.nsIn K mainGlobals "joined" = some (some (.ref f10))) (l10 : K.lookup f10 = some ⟨oc10, od10, .func (PySem.W.fnOf "joined" "joined" (defArgs s_joined) (defBody s_joined) (defScope s_joined) .none kV10 dc10 pm10 an10 cd10 ct10), sl10⟩) (c10 : PySem.W.codeIn K cd10 "joined" = true) (k10 : PySem.W.keepIn K (.ref f10) = true)
    {f11 : Addr} {od11 an11 : Option Addr} {sl11 : Array (Option Value)} {oc11 kV11 dc11 pm11 cd11 ct11 : Value} (a11 : PySem.W.nsIn K mainGlobals "against" = some (some (.ref f11))) (l11 : K.lookup f11 = some ⟨oc11, od11, .func (PySem.W.fnOf "against" "against" (defArgs s_against) (defBody s_against) (defScope s_against) .none kV11 dc11 pm11 an11 cd11 ct11), sl11⟩) (c11 : PySem.W.codeIn K cd11 "against" = true) (k11 : PySem.W.keepIn K (.ref f11) = true)
    {f12 : Addr} {od12 an12 : Option Addr} {sl12 : Array (Option Value)} {oc12 kV12 dc12 pm12 cd12 ct12 : Value} (a12 : PySem.W.nsIn K mainGlobals "gathered" = some (some (.ref f12))) (l12 : K.lookup f12 = some ⟨oc12, od12, .func (PySem.W.fnOf "gathered" "gathered" (defArgs s_gathered) (defBody s_gathered) (defScope s_gathered) .none kV12 dc12 pm12 an12 cd12 ct12), sl12⟩) (c12 : PySem.W.codeIn K cd12 "gathered" = true) (k12 : PySem.W.keepIn K (.ref f12) = true)
    {f13 : Addr} {od13 an13 : Option Addr} {sl13 : Array (Option Value)} {oc13 kV13 dc13 pm13 cd13 ct13 : Value} (a13 : PySem.W.nsIn K mainGlobals "is_short_vector" = some (some (.ref f13))) (l13 : K.lookup f13 = some ⟨oc13, od13, .func (PySem.W.fnOf "is_short_vector" "is_short_vector" (defArgs s_is_short_vector) (defBody s_is_short_vector) (defScope s_is_short_vector) .none kV13 dc13 pm13 an13 cd13 ct13), sl13⟩) (c13 : PySem.W.codeIn K cd13 "is_short_vector" = true) (k13 : PySem.W.keepIn K (.ref f13) = true)
    {f14 : Addr} {od14 an14 : Option Addr} {sl14 : Array (Option Value)} {oc14 kV14 dc14 pm14 cd14 ct14 : Value} (a14 : PySem.W.nsIn K mainGlobals "is_leg_value" = some (some (.ref f14))) (l14 : K.lookup f14 = some ⟨oc14, od14, .func (PySem.W.fnOf "is_leg_value" "is_leg_value" (defArgs s_is_leg_value) (defBody s_is_leg_value) (defScope s_is_leg_value) .none kV14 dc14 pm14 an14 cd14 ct14), sl14⟩) (c14 : PySem.W.codeIn K cd14 "is_leg_value" = true) (k14 : PySem.W.keepIn K (.ref f14) = true)
    {f15 : Addr} {od15 an15 : Option Addr} {sl15 : Array (Option Value)} {oc15 kV15 dc15 pm15 cd15 ct15 : Value} (a15 : PySem.W.nsIn K mainGlobals "is_survey_value" = some (some (.ref f15))) (l15 : K.lookup f15 = some ⟨oc15, od15, .func (PySem.W.fnOf "is_survey_value" "is_survey_value" (defArgs s_is_survey_value) (defBody s_is_survey_value) (defScope s_is_survey_value) .none kV15 dc15 pm15 an15 cd15 ct15), sl15⟩) (c15 : PySem.W.codeIn K cd15 "is_survey_value" = true) (k15 : PySem.W.keepIn K (.ref f15) = true)
    {f16 : Addr} {od16 an16 : Option Addr} {sl16 : Array (Option Value)} {oc16 kV16 dc16 pm16 cd16 ct16 : Value} (a16 : PySem.W.nsIn K mainGlobals "want_survey" = some (some (.ref f16))) (l16 : K.lookup f16 = some ⟨oc16, od16, .func (PySem.W.fnOf "want_survey" "want_survey" (defArgs s_want_survey) (defBody s_want_survey) (defScope s_want_survey) .none kV16 dc16 pm16 an16 cd16 ct16), sl16⟩) (c16 : PySem.W.codeIn K cd16 "want_survey" = true) (k16 : PySem.W.keepIn K (.ref f16) = true)
    {f17 : Addr} {od17 an17 : Option Addr} {sl17 : Array (Option Value)} {oc17 kV17 dc17 pm17 cd17 ct17 : Value} (a17 : PySem.W.nsIn K mainGlobals "is_step" = some (some (.ref f17))) (l17 : K.lookup f17 = some ⟨oc17, od17, .func (PySem.W.fnOf "is_step" "is_step" (defArgs s_is_step) (defBody s_is_step) (defScope s_is_step) .none kV17 dc17 pm17 an17 cd17 ct17), sl17⟩) (c17 : PySem.W.codeIn K cd17 "is_step" = true) (k17 : PySem.W.keepIn K (.ref f17) = true)
    {f18 : Addr} {od18 an18 : Option Addr} {sl18 : Array (Option Value)} {oc18 kV18 dc18 pm18 cd18 ct18 : Value} (a18 : PySem.W.nsIn K mainGlobals "step_ends" = some (some (.ref f18))) (l18 : K.lookup f18 = some ⟨oc18, od18, .func (PySem.W.fnOf "step_ends" "step_ends" (defArgs s_step_ends) (defBody s_step_ends) (defScope s_step_ends) .none kV18 dc18 pm18 an18 cd18 ct18), sl18⟩) (c18 : PySem.W.codeIn K cd18 "step_ends" = true) (k18 : PySem.W.keepIn K (.ref f18) = true)
    {f19 : Addr} {od19 an19 : Option Addr} {sl19 : Array (Option Value)} {oc19 kV19 dc19 pm19 cd19 ct19 : Value} (a19 : PySem.W.nsIn K mainGlobals "is_walk_of" = some (some (.ref f19))) (l19 : K.lookup f19 = some ⟨oc19, od19, .func (PySem.W.fnOf "is_walk_of" "is_walk_of" (defArgs s_is_walk_of) (defBody s_is_walk_of) (defScope s_is_walk_of) .none kV19 dc19 pm19 an19 cd19 ct19), sl19⟩) (c19 : PySem.W.codeIn K cd19 "is_walk_of" = true) (k19 : PySem.W.keepIn K (.ref f19) = true)
    {f20 : Addr} {od20 an20 : Option Addr} {sl20 : Array (Option Value)} {oc20 kV20 dc20 pm20 cd20 ct20 : Value} (a20 : PySem.W.nsIn K mainGlobals "is_loop_of" = some (some (.ref f20))) (l20 : K.lookup f20 = some ⟨oc20, od20, .func (PySem.W.fnOf "is_loop_of" "is_loop_of" (defArgs s_is_loop_of) (defBody s_is_loop_of) (defScope s_is_loop_of) .none kV20 dc20 pm20 an20 cd20 ct20), sl20⟩) (c20 : PySem.W.codeIn K cd20 "is_loop_of" = true) (k20 : PySem.W.keepIn K (.ref f20) = true)
    {f21 : Addr} {od21 an21 : Option Addr} {sl21 : Array (Option Value)} {oc21 kV21 dc21 pm21 cd21 ct21 : Value} (a21 : PySem.W.nsIn K mainGlobals "want_walk" = some (some (.ref f21))) (l21 : K.lookup f21 = some ⟨oc21, od21, .func (PySem.W.fnOf "want_walk" "want_walk" (defArgs s_want_walk) (defBody s_want_walk) (defScope s_want_walk) .none kV21 dc21 pm21 an21 cd21 ct21), sl21⟩) (c21 : PySem.W.codeIn K cd21 "want_walk" = true) (k21 : PySem.W.keepIn K (.ref f21) = true)
    {f22 : Addr} {od22 an22 : Option Addr} {sl22 : Array (Option Value)} {oc22 kV22 dc22 pm22 cd22 ct22 : Value} (a22 : PySem.W.nsIn K mainGlobals "sum_along" = some (some (.ref f22))) (l22 : K.lookup f22 = some ⟨oc22, od22, .func (PySem.W.fnOf "sum_along" "sum_along" (defArgs s_sum_along) (defBody s_sum_along) (defScope s_sum_along) .none kV22 dc22 pm22 an22 cd22 ct22), sl22⟩) (c22 : PySem.W.codeIn K cd22 "sum_along" = true) (k22 : PySem.W.keepIn K (.ref f22) = true)
    {f23 : Addr} {od23 an23 : Option Addr} {sl23 : Array (Option Value)} {oc23 kV23 dc23 pm23 cd23 ct23 : Value} (a23 : PySem.W.nsIn K mainGlobals "about" = some (some (.ref f23))) (l23 : K.lookup f23 = some ⟨oc23, od23, .func (PySem.W.fnOf "about" "about" (defArgs s_about) (defBody s_about) (defScope s_about) .none kV23 dc23 pm23 an23 cd23 ct23), sl23⟩) (c23 : PySem.W.codeIn K cd23 "about" = true) (k23 : PySem.W.keepIn K (.ref f23) = true)
    {f24 : Addr} {od24 an24 : Option Addr} {sl24 : Array (Option Value)} {oc24 kV24 dc24 pm24 cd24 ct24 : Value} (a24 : PySem.W.nsIn K mainGlobals "is_walk" = some (some (.ref f24))) (l24 : K.lookup f24 = some ⟨oc24, od24, .func (PySem.W.fnOf "is_walk" "is_walk" (defArgs s_is_walk) (defBody s_is_walk) (defScope s_is_walk) .none kV24 dc24 pm24 an24 cd24 ct24), sl24⟩) (c24 : PySem.W.codeIn K cd24 "is_walk" = true) (k24 : PySem.W.keepIn K (.ref f24) = true)
    {f25 : Addr} {od25 an25 : Option Addr} {sl25 : Array (Option Value)} {oc25 kV25 dc25 pm25 cd25 ct25 : Value} (a25 : PySem.W.nsIn K mainGlobals "is_loop" = some (some (.ref f25))) (l25 : K.lookup f25 = some ⟨oc25, od25, .func (PySem.W.fnOf "is_loop" "is_loop" (defArgs s_is_loop) (defBody s_is_loop) (defScope s_is_loop) .none kV25 dc25 pm25 an25 cd25 ct25), sl25⟩) (c25 : PySem.W.codeIn K cd25 "is_loop" = true) (k25 : PySem.W.keepIn K (.ref f25) = true)
    {f26 : Addr} {od26 an26 : Option Addr} {sl26 : Array (Option Value)} {oc26 kV26 dc26 pm26 cd26 ct26 : Value} (a26 : PySem.W.nsIn K mainGlobals "walk_sum" = some (some (.ref f26))) (l26 : K.lookup f26 = some ⟨oc26, od26, .func (PySem.W.fnOf "walk_sum" "walk_sum" (defArgs s_walk_sum) (defBody s_walk_sum) (defScope s_walk_sum) .none kV26 dc26 pm26 an26 cd26 ct26), sl26⟩) (c26 : PySem.W.codeIn K cd26 "walk_sum" = true) (k26 : PySem.W.keepIn K (.ref f26) = true)
    {f27 : Addr} {od27 an27 : Option Addr} {sl27 : Array (Option Value)} {oc27 kV27 dc27 pm27 cd27 ct27 : Value} (a27 : PySem.W.nsIn K mainGlobals "turned_about" = some (some (.ref f27))) (l27 : K.lookup f27 = some ⟨oc27, od27, .func (PySem.W.fnOf "turned_about" "turned_about" (defArgs s_turned_about) (defBody s_turned_about) (defScope s_turned_about) .none kV27 dc27 pm27 an27 cd27 ct27), sl27⟩) (c27 : PySem.W.codeIn K cd27 "turned_about" = true) (k27 : PySem.W.keepIn K (.ref f27) = true)
    {f28 : Addr} {od28 an28 : Option Addr} {sl28 : Array (Option Value)} {oc28 kV28 dc28 pm28 cd28 ct28 : Value} (a28 : PySem.W.nsIn K mainGlobals "_law_pot" = some (some (.ref f28))) (l28 : K.lookup f28 = some ⟨oc28, od28, .func (PySem.W.fnOf "_law_pot" "_law_pot" (defArgs s__law_pot) (defBody s__law_pot) (defScope s__law_pot) .none kV28 dc28 pm28 an28 cd28 ct28), sl28⟩) (c28 : PySem.W.codeIn K cd28 "_law_pot" = true) (k28 : PySem.W.keepIn K (.ref f28) = true)
    {f29 : Addr} {od29 an29 : Option Addr} {sl29 : Array (Option Value)} {oc29 kV29 dc29 pm29 cd29 ct29 : Value} (a29 : PySem.W.nsIn K mainGlobals "_law_draw" = some (some (.ref f29))) (l29 : K.lookup f29 = some ⟨oc29, od29, .func (PySem.W.fnOf "_law_draw" "_law_draw" (defArgs s__law_draw) (defBody s__law_draw) (defScope s__law_draw) .none kV29 dc29 pm29 an29 cd29 ct29), sl29⟩) (c29 : PySem.W.codeIn K cd29 "_law_draw" = true) (k29 : PySem.W.keepIn K (.ref f29) = true)
    {f30 : Addr} {od30 an30 : Option Addr} {sl30 : Array (Option Value)} {oc30 kV30 dc30 pm30 cd30 ct30 : Value} (a30 : PySem.W.nsIn K mainGlobals "_law_pick" = some (some (.ref f30))) (l30 : K.lookup f30 = some ⟨oc30, od30, .func (PySem.W.fnOf "_law_pick" "_law_pick" (defArgs s__law_pick) (defBody s__law_pick) (defScope s__law_pick) .none kV30 dc30 pm30 an30 cd30 ct30), sl30⟩) (c30 : PySem.W.codeIn K cd30 "_law_pick" = true) (k30 : PySem.W.keepIn K (.ref f30) = true)
    {f31 : Addr} {od31 an31 : Option Addr} {sl31 : Array (Option Value)} {oc31 kV31 dc31 pm31 cd31 ct31 : Value} (a31 : PySem.W.nsIn K mainGlobals "_law_frac" = some (some (.ref f31))) (l31 : K.lookup f31 = some ⟨oc31, od31, .func (PySem.W.fnOf "_law_frac" "_law_frac" (defArgs s__law_frac) (defBody s__law_frac) (defScope s__law_frac) .none kV31 dc31 pm31 an31 cd31 ct31), sl31⟩) (c31 : PySem.W.codeIn K cd31 "_law_frac" = true) (k31 : PySem.W.keepIn K (.ref f31) = true)
    {f32 : Addr} {od32 an32 : Option Addr} {sl32 : Array (Option Value)} {oc32 kV32 dc32 pm32 cd32 ct32 : Value} (a32 : PySem.W.nsIn K mainGlobals "_law_plus" = some (some (.ref f32))) (l32 : K.lookup f32 = some ⟨oc32, od32, .func (PySem.W.fnOf "_law_plus" "_law_plus" (defArgs s__law_plus) (defBody s__law_plus) (defScope s__law_plus) .none kV32 dc32 pm32 an32 cd32 ct32), sl32⟩) (c32 : PySem.W.codeIn K cd32 "_law_plus" = true) (k32 : PySem.W.keepIn K (.ref f32) = true)
    {f33 : Addr} {od33 an33 : Option Addr} {sl33 : Array (Option Value)} {oc33 kV33 dc33 pm33 cd33 ct33 : Value} (a33 : PySem.W.nsIn K mainGlobals "_law_minus" = some (some (.ref f33))) (l33 : K.lookup f33 = some ⟨oc33, od33, .func (PySem.W.fnOf "_law_minus" "_law_minus" (defArgs s__law_minus) (defBody s__law_minus) (defScope s__law_minus) .none kV33 dc33 pm33 an33 cd33 ct33), sl33⟩) (c33 : PySem.W.codeIn K cd33 "_law_minus" = true) (k33 : PySem.W.keepIn K (.ref f33) = true)
    {f34 : Addr} {od34 an34 : Option Addr} {sl34 : Array (Option Value)} {oc34 kV34 dc34 pm34 cd34 ct34 : Value} (a34 : PySem.W.nsIn K mainGlobals "_law_some" = some (some (.ref f34))) (l34 : K.lookup f34 = some ⟨oc34, od34, .func (PySem.W.fnOf "_law_some" "_law_some" (defArgs s__law_some) (defBody s__law_some) (defScope s__law_some) .none kV34 dc34 pm34 an34 cd34 ct34), sl34⟩) (c34 : PySem.W.codeIn K cd34 "_law_some" = true) (k34 : PySem.W.keepIn K (.ref f34) = true)
    {f35 : Addr} {od35 an35 : Option Addr} {sl35 : Array (Option Value)} {oc35 kV35 dc35 pm35 cd35 ct35 : Value} (a35 : PySem.W.nsIn K mainGlobals "_law_vsum" = some (some (.ref f35))) (l35 : K.lookup f35 = some ⟨oc35, od35, .func (PySem.W.fnOf "_law_vsum" "_law_vsum" (defArgs s__law_vsum) (defBody s__law_vsum) (defScope s__law_vsum) .none kV35 dc35 pm35 an35 cd35 ct35), sl35⟩) (c35 : PySem.W.codeIn K cd35 "_law_vsum" = true) (k35 : PySem.W.keepIn K (.ref f35) = true)
    {f36 : Addr} {od36 an36 : Option Addr} {sl36 : Array (Option Value)} {oc36 kV36 dc36 pm36 cd36 ct36 : Value} (a36 : PySem.W.nsIn K mainGlobals "_law_vless" = some (some (.ref f36))) (l36 : K.lookup f36 = some ⟨oc36, od36, .func (PySem.W.fnOf "_law_vless" "_law_vless" (defArgs s__law_vless) (defBody s__law_vless) (defScope s__law_vless) .none kV36 dc36 pm36 an36 cd36 ct36), sl36⟩) (c36 : PySem.W.codeIn K cd36 "_law_vless" = true) (k36 : PySem.W.keepIn K (.ref f36) = true)
    {f37 : Addr} {od37 an37 : Option Addr} {sl37 : Array (Option Value)} {oc37 kV37 dc37 pm37 cd37 ct37 : Value} (a37 : PySem.W.nsIn K mainGlobals "_law_back" = some (some (.ref f37))) (l37 : K.lookup f37 = some ⟨oc37, od37, .func (PySem.W.fnOf "_law_back" "_law_back" (defArgs s__law_back) (defBody s__law_back) (defScope s__law_back) .none kV37 dc37 pm37 an37 cd37 ct37), sl37⟩) (c37 : PySem.W.codeIn K cd37 "_law_back" = true) (k37 : PySem.W.keepIn K (.ref f37) = true)
    {f38 : Addr} {od38 an38 : Option Addr} {sl38 : Array (Option Value)} {oc38 kV38 dc38 pm38 cd38 ct38 : Value} (a38 : PySem.W.nsIn K mainGlobals "_law_vector" = some (some (.ref f38))) (l38 : K.lookup f38 = some ⟨oc38, od38, .func (PySem.W.fnOf "_law_vector" "_law_vector" (defArgs s__law_vector) (defBody s__law_vector) (defScope s__law_vector) .none kV38 dc38 pm38 an38 cd38 ct38), sl38⟩) (c38 : PySem.W.codeIn K cd38 "_law_vector" = true) (k38 : PySem.W.keepIn K (.ref f38) = true)
    {f39 : Addr} {od39 an39 : Option Addr} {sl39 : Array (Option Value)} {oc39 kV39 dc39 pm39 cd39 ct39 : Value} (a39 : PySem.W.nsIn K mainGlobals "_law_survey" = some (some (.ref f39))) (l39 : K.lookup f39 = some ⟨oc39, od39, .func (PySem.W.fnOf "_law_survey" "_law_survey" (defArgs s__law_survey) (defBody s__law_survey) (defScope s__law_survey) .none kV39 dc39 pm39 an39 cd39 ct39), sl39⟩) (c39 : PySem.W.codeIn K cd39 "_law_survey" = true) (k39 : PySem.W.keepIn K (.ref f39) = true)
    {f40 : Addr} {od40 an40 : Option Addr} {sl40 : Array (Option Value)} {oc40 kV40 dc40 pm40 cd40 ct40 : Value} (a40 : PySem.W.nsIn K mainGlobals "_law_ends" = some (some (.ref f40))) (l40 : K.lookup f40 = some ⟨oc40, od40, .func (PySem.W.fnOf "_law_ends" "_law_ends" (defArgs s__law_ends) (defBody s__law_ends) (defScope s__law_ends) .none kV40 dc40 pm40 an40 cd40 ct40), sl40⟩) (c40 : PySem.W.codeIn K cd40 "_law_ends" = true) (k40 : PySem.W.keepIn K (.ref f40) = true)
    {f41 : Addr} {od41 an41 : Option Addr} {sl41 : Array (Option Value)} {oc41 kV41 dc41 pm41 cd41 ct41 : Value} (a41 : PySem.W.nsIn K mainGlobals "_law_total" = some (some (.ref f41))) (l41 : K.lookup f41 = some ⟨oc41, od41, .func (PySem.W.fnOf "_law_total" "_law_total" (defArgs s__law_total) (defBody s__law_total) (defScope s__law_total) .none kV41 dc41 pm41 an41 cd41 ct41), sl41⟩) (c41 : PySem.W.codeIn K cd41 "_law_total" = true) (k41 : PySem.W.keepIn K (.ref f41) = true)
    {f42 : Addr} {od42 an42 : Option Addr} {sl42 : Array (Option Value)} {oc42 kV42 dc42 pm42 cd42 ct42 : Value} (a42 : PySem.W.nsIn K mainGlobals "_law_is_step" = some (some (.ref f42))) (l42 : K.lookup f42 = some ⟨oc42, od42, .func (PySem.W.fnOf "_law_is_step" "_law_is_step" (defArgs s__law_is_step) (defBody s__law_is_step) (defScope s__law_is_step) .none kV42 dc42 pm42 an42 cd42 ct42), sl42⟩) (c42 : PySem.W.codeIn K cd42 "_law_is_step" = true) (k42 : PySem.W.keepIn K (.ref f42) = true)
    {f43 : Addr} {od43 an43 : Option Addr} {sl43 : Array (Option Value)} {oc43 kV43 dc43 pm43 cd43 ct43 : Value} (a43 : PySem.W.nsIn K mainGlobals "_law_is_walk" = some (some (.ref f43))) (l43 : K.lookup f43 = some ⟨oc43, od43, .func (PySem.W.fnOf "_law_is_walk" "_law_is_walk" (defArgs s__law_is_walk) (defBody s__law_is_walk) (defScope s__law_is_walk) .none kV43 dc43 pm43 an43 cd43 ct43), sl43⟩) (c43 : PySem.W.codeIn K cd43 "_law_is_walk" = true) (k43 : PySem.W.keepIn K (.ref f43) = true)
    {f44 : Addr} {od44 an44 : Option Addr} {sl44 : Array (Option Value)} {oc44 kV44 dc44 pm44 cd44 ct44 : Value} (a44 : PySem.W.nsIn K mainGlobals "_law_is_loop" = some (some (.ref f44))) (l44 : K.lookup f44 = some ⟨oc44, od44, .func (PySem.W.fnOf "_law_is_loop" "_law_is_loop" (defArgs s__law_is_loop) (defBody s__law_is_loop) (defScope s__law_is_loop) .none kV44 dc44 pm44 an44 cd44 ct44), sl44⟩) (c44 : PySem.W.codeIn K cd44 "_law_is_loop" = true) (k44 : PySem.W.keepIn K (.ref f44) = true)
    {f45 : Addr} {od45 an45 : Option Addr} {sl45 : Array (Option Value)} {oc45 kV45 dc45 pm45 cd45 ct45 : Value} (a45 : PySem.W.nsIn K mainGlobals "_law_drawn_walk" = some (some (.ref f45))) (l45 : K.lookup f45 = some ⟨oc45, od45, .func (PySem.W.fnOf "_law_drawn_walk" "_law_drawn_walk" (defArgs s__law_drawn_walk) (defBody s__law_drawn_walk) (defScope s__law_drawn_walk) .none kV45 dc45 pm45 an45 cd45 ct45), sl45⟩) (c45 : PySem.W.codeIn K cd45 "_law_drawn_walk" = true) (k45 : PySem.W.keepIn K (.ref f45) = true)
    {f46 : Addr} {od46 an46 : Option Addr} {sl46 : Array (Option Value)} {oc46 kV46 dc46 pm46 cd46 ct46 : Value} (a46 : PySem.W.nsIn K mainGlobals "_law_cut" = some (some (.ref f46))) (l46 : K.lookup f46 = some ⟨oc46, od46, .func (PySem.W.fnOf "_law_cut" "_law_cut" (defArgs s__law_cut) (defBody s__law_cut) (defScope s__law_cut) .none kV46 dc46 pm46 an46 cd46 ct46), sl46⟩) (c46 : PySem.W.codeIn K cd46 "_law_cut" = true) (k46 : PySem.W.keepIn K (.ref f46) = true)
    {f47 : Addr} {od47 an47 : Option Addr} {sl47 : Array (Option Value)} {oc47 kV47 dc47 pm47 cd47 ct47 : Value} (a47 : PySem.W.nsIn K mainGlobals "_law_bent" = some (some (.ref f47))) (l47 : K.lookup f47 = some ⟨oc47, od47, .func (PySem.W.fnOf "_law_bent" "_law_bent" (defArgs s__law_bent) (defBody s__law_bent) (defScope s__law_bent) .none kV47 dc47 pm47 an47 cd47 ct47), sl47⟩) (c47 : PySem.W.codeIn K cd47 "_law_bent" = true) (k47 : PySem.W.keepIn K (.ref f47) = true)
    {f48 : Addr} {od48 an48 : Option Addr} {sl48 : Array (Option Value)} {oc48 kV48 dc48 pm48 cd48 ct48 : Value} (a48 : PySem.W.nsIn K mainGlobals "_law_value_right" = some (some (.ref f48))) (l48 : K.lookup f48 = some ⟨oc48, od48, .func (PySem.W.fnOf "_law_value_right" "_law_value_right" (defArgs s__law_value_right) (defBody s__law_value_right) (defScope s__law_value_right) .none kV48 dc48 pm48 an48 cd48 ct48), sl48⟩) (c48 : PySem.W.codeIn K cd48 "_law_value_right" = true) (k48 : PySem.W.keepIn K (.ref f48) = true)
    {f49 : Addr} {od49 an49 : Option Addr} {sl49 : Array (Option Value)} {oc49 kV49 dc49 pm49 cd49 ct49 : Value} (a49 : PySem.W.nsIn K mainGlobals "_law_right" = some (some (.ref f49))) (l49 : K.lookup f49 = some ⟨oc49, od49, .func (PySem.W.fnOf "_law_right" "_law_right" (defArgs s__law_right) (defBody s__law_right) (defScope s__law_right) .none kV49 dc49 pm49 an49 cd49 ct49), sl49⟩) (c49 : PySem.W.codeIn K cd49 "_law_right" = true) (k49 : PySem.W.keepIn K (.ref f49) = true)
    {f50 : Addr} {od50 an50 : Option Addr} {sl50 : Array (Option Value)} {oc50 kV50 dc50 pm50 cd50 ct50 : Value} (a50 : PySem.W.nsIn K mainGlobals "law" = some (some (.ref f50))) (l50 : K.lookup f50 = some ⟨oc50, od50, .func (PySem.W.fnOf "law" "law" (defArgs s_law) (defBody s_law) (defScope s_law) .none kV50 dc50 pm50 an50 cd50 ct50), sl50⟩) (c50 : PySem.W.codeIn K cd50 "law" = true) (k50 : PySem.W.keepIn K (.ref f50) = true)
    (z_isinstance : PySem.W.nsIn K mainGlobals "isinstance" = some none)
    (z_int : PySem.W.nsIn K mainGlobals "int" = some none)
    (z_bool : PySem.W.nsIn K mainGlobals "bool" = some none)
    (z_list : PySem.W.nsIn K mainGlobals "list" = some none)
    (z_tuple : PySem.W.nsIn K mainGlobals "tuple" = some none)
    (z_len : PySem.W.nsIn K mainGlobals "len" = some none)
    (z_abs : PySem.W.nsIn K mainGlobals "abs" = some none)
    (z_zip : PySem.W.nsIn K mainGlobals "zip" = some none)
    (z_all : PySem.W.nsIn K mainGlobals "all" = some none)
    (z_str : PySem.W.nsIn K mainGlobals "str" = some none)
    (z_set : PySem.W.nsIn K mainGlobals "set" = some none)
    (z_max : PySem.W.nsIn K mainGlobals "max" = some none)
    (z_divmod : PySem.W.nsIn K mainGlobals "divmod" = some none)
    (z_range : PySem.W.nsIn K mainGlobals "range" = some none)
    (z_enumerate : PySem.W.nsIn K mainGlobals "enumerate" = some none)
    (z_repr : PySem.W.nsIn K mainGlobals "repr" = some none)
    (z_min : PySem.W.nsIn K mainGlobals "min" = some none)
    (z_gcd : PySem.W.nsIn K mainGlobals "gcd" = some (some (.builtin "math.gcd")))
    {aN : Addr} {oN : Option Addr} {tN uN : Tok} {nN : Nat} {sN : Array (Option Value)} (n1 : PySem.W.nsIn K mainGlobals "NOUGHT" = some (some (.ref aN))) (n2 : K.lookup aN = some ⟨.type "tuple", oN, .seq #[.int 0 tN, .int 1 uN] nN, sN⟩)
    {t_MOST_SHORT : Tok} (m_MOST_SHORT : PySem.W.nsIn K mainGlobals "MOST_SHORT" = some (some (.int 1000000 t_MOST_SHORT)))
    {t_MOST_BELOW : Tok} (m_MOST_BELOW : PySem.W.nsIn K mainGlobals "MOST_BELOW" = some (some (.int 60 t_MOST_BELOW)))
    {t_MOST_DIMS : Tok} (m_MOST_DIMS : PySem.W.nsIn K mainGlobals "MOST_DIMS" = some (some (.int 3 t_MOST_DIMS)))
    {t_MOST_STATIONS : Tok} (m_MOST_STATIONS : PySem.W.nsIn K mainGlobals "MOST_STATIONS" = some (some (.int 24 t_MOST_STATIONS)))
    {t_MOST_LEGS : Tok} (m_MOST_LEGS : PySem.W.nsIn K mainGlobals "MOST_LEGS" = some (some (.int 60 t_MOST_LEGS)))
    {t_MOST_PARTY : Tok} (m_MOST_PARTY : PySem.W.nsIn K mainGlobals "MOST_PARTY" = some (some (.int 5 t_MOST_PARTY)))
    {t_MOST_WALK : Tok} (m_MOST_WALK : PySem.W.nsIn K mainGlobals "MOST_WALK" = some (some (.int 600 t_MOST_WALK)))
    : ∃ fd : FuncData, (∀ (s : Shared) (v : Value), BindsTo s fd ⟨[v], []⟩ [("script", v)]) ∧ ∀ base : Heap, K.In base → base.Ns mainGlobals mg → FnG l.prog w K mg base CX0 11 fa fd ["script"] (spOf K (lawS 63)) := by
  have e : f50 = fa := by
    have e := hfa.symm.trans (PySem.W.mg_of X G a50)
    cases e
    rfl
  subst e
  have F0 := fun_mk (st := s_is_integer) l0 c0 k0
  have b0 := F0.binds (ps := ["value"]) fun _ _ _ _ _ _ us hl => match us, hl with | [_], _ => rfl
  have F1 := fun_mk (st := s_is_within) l1 c1 k1
  have b1 := F1.binds (ps := ["value", "least", "most"]) fun _ _ _ _ _ _ us hl => match us, hl with | [_, _, _], _ => rfl
  have F2 := fun_mk (st := s_is_list) l2 c2 k2
  have b2 := F2.binds (ps := ["value"]) fun _ _ _ _ _ _ us hl => match us, hl with | [_], _ => rfl
  have F3 := fun_mk (st := s_is_tuple) l3 c3 k3
  have b3 := F3.binds (ps := ["value", "many"]) fun _ _ _ _ _ _ us hl => match us, hl with | [_, _], _ => rfl
  have F4 := fun_mk (st := s_fraction) l4 c4 k4
  have b4 := F4.binds (ps := ["above", "below"]) fun _ _ _ _ _ _ us hl => match us, hl with | [_, _], _ => rfl
  have F5 := fun_mk (st := s_added) l5 c5 k5
  have b5 := F5.binds (ps := ["a", "b"]) fun _ _ _ _ _ _ us hl => match us, hl with | [_, _], _ => rfl
  have F6 := fun_mk (st := s_contrary) l6 c6 k6
  have b6 := F6.binds (ps := ["a"]) fun _ _ _ _ _ _ us hl => match us, hl with | [_], _ => rfl
  have F7 := fun_mk (st := s_is_fraction) l7 c7 k7
  have b7 := F7.binds (ps := ["value"]) fun _ _ _ _ _ _ us hl => match us, hl with | [_], _ => rfl
  have F8 := fun_mk (st := s_is_short) l8 c8 k8
  have b8 := F8.binds (ps := ["value"]) fun _ _ _ _ _ _ us hl => match us, hl with | [_], _ => rfl
  have F9 := fun_mk (st := s_nought) l9 c9 k9
  have b9 := F9.binds (ps := ["dims"]) fun _ _ _ _ _ _ us hl => match us, hl with | [_], _ => rfl
  have F10 := fun_mk (st := s_joined) l10 c10 k10
  have b10 := F10.binds (ps := ["a", "b"]) fun _ _ _ _ _ _ us hl => match us, hl with | [_, _], _ => rfl
  have F11 := fun_mk (st := s_against) l11 c11 k11
  have b11 := F11.binds (ps := ["a"]) fun _ _ _ _ _ _ us hl => match us, hl with | [_], _ => rfl
  have F12 := fun_mk (st := s_gathered) l12 c12 k12
  have b12 := F12.binds (ps := ["vectors", "dims"]) fun _ _ _ _ _ _ us hl => match us, hl with | [_, _], _ => rfl
  have F13 := fun_mk (st := s_is_short_vector) l13 c13 k13
  have b13 := F13.binds (ps := ["value", "dims"]) fun _ _ _ _ _ _ us hl => match us, hl with | [_, _], _ => rfl
  have F14 := fun_mk (st := s_is_leg_value) l14 c14 k14
  have b14 := F14.binds (ps := ["value", "dims", "stations"]) fun _ _ _ _ _ _ us hl => match us, hl with | [_, _, _], _ => rfl
  have F15 := fun_mk (st := s_is_survey_value) l15 c15 k15
  have b15 := F15.binds (ps := ["value"]) fun _ _ _ _ _ _ us hl => match us, hl with | [_], _ => rfl
  have F16 := fun_mk (st := s_want_survey) l16 c16 k16
  have b16 := F16.binds (ps := ["survey"]) fun _ _ _ _ _ _ us hl => match us, hl with | [_], _ => rfl
  have F17 := fun_mk (st := s_is_step) l17 c17 k17
  have b17 := F17.binds (ps := ["survey", "value"]) fun _ _ _ _ _ _ us hl => match us, hl with | [_, _], _ => rfl
  have F18 := fun_mk (st := s_step_ends) l18 c18 k18
  have b18 := F18.binds (ps := ["survey", "step"]) fun _ _ _ _ _ _ us hl => match us, hl with | [_, _], _ => rfl
  have F19 := fun_mk (st := s_is_walk_of) l19 c19 k19
  have b19 := F19.binds (ps := ["survey", "value"]) fun _ _ _ _ _ _ us hl => match us, hl with | [_, _], _ => rfl
  have F20 := fun_mk (st := s_is_loop_of) l20 c20 k20
  have b20 := F20.binds (ps := ["survey", "value"]) fun _ _ _ _ _ _ us hl => match us, hl with | [_, _], _ => rfl
  have F21 := fun_mk (st := s_want_walk) l21 c21 k21
  have b21 := F21.binds (ps := ["survey", "walk"]) fun _ _ _ _ _ _ us hl => match us, hl with | [_, _], _ => rfl
  have F22 := fun_mk (st := s_sum_along) l22 c22 k22
  have b22 := F22.binds (ps := ["survey", "walk"]) fun _ _ _ _ _ _ us hl => match us, hl with | [_, _], _ => rfl
  have F23 := fun_mk (st := s_about) l23 c23 k23
  have b23 := F23.binds (ps := ["walk"]) fun _ _ _ _ _ _ us hl => match us, hl with | [_], _ => rfl
  have F24 := fun_mk (st := s_is_walk) l24 c24 k24
  have b24 := F24.binds (ps := ["survey", "value"]) fun _ _ _ _ _ _ us hl => match us, hl with | [_, _], _ => rfl
  have F25 := fun_mk (st := s_is_loop) l25 c25 k25
  have b25 := F25.binds (ps := ["survey", "value"]) fun _ _ _ _ _ _ us hl => match us, hl with | [_, _], _ => rfl
  have F26 := fun_mk (st := s_walk_sum) l26 c26 k26
  have b26 := F26.binds (ps := ["survey", "walk"]) fun _ _ _ _ _ _ us hl => match us, hl with | [_, _], _ => rfl
  have F27 := fun_mk (st := s_turned_about) l27 c27 k27
  have b27 := F27.binds (ps := ["survey", "walk"]) fun _ _ _ _ _ _ us hl => match us, hl with | [_, _], _ => rfl
  have F28 := fun_mk (st := s__law_pot) l28 c28 k28
  have b28 := F28.binds (ps := ["script", "k"]) fun _ _ _ _ _ _ us hl => match us, hl with | [_, _], _ => rfl
  have F29 := fun_mk (st := s__law_draw) l29 c29 k29
  have b29 := F29.binds (ps := ["pot", "many"]) fun _ _ _ _ _ _ us hl => match us, hl with | [_, _], _ => rfl
  have F30 := fun_mk (st := s__law_pick) l30 c30 k30
  have b30 := F30.binds (ps := ["pot", "some"]) fun _ _ _ _ _ _ us hl => match us, hl with | [_, _], _ => rfl
  have F31 := fun_mk (st := s__law_frac) l31 c31 k31
  have b31 := F31.binds (ps := ["above", "below"]) fun _ _ _ _ _ _ us hl => match us, hl with | [_, _], _ => rfl
  have F32 := fun_mk (st := s__law_plus) l32 c32 k32
  have b32 := F32.binds (ps := ["a", "b"]) fun _ _ _ _ _ _ us hl => match us, hl with | [_, _], _ => rfl
  have F33 := fun_mk (st := s__law_minus) l33 c33 k33
  have b33 := F33.binds (ps := ["a", "b"]) fun _ _ _ _ _ _ us hl => match us, hl with | [_, _], _ => rfl
  have F34 := fun_mk (st := s__law_some) l34 c34 k34
  have b34 := F34.binds (ps := ["pot"]) fun _ _ _ _ _ _ us hl => match us, hl with | [_], _ => rfl
  have F35 := fun_mk (st := s__law_vsum) l35 c35 k35
  have b35 := F35.binds (ps := ["a", "b"]) fun _ _ _ _ _ _ us hl => match us, hl with | [_, _], _ => rfl
  have F36 := fun_mk (st := s__law_vless) l36 c36 k36
  have b36 := F36.binds (ps := ["a", "b"]) fun _ _ _ _ _ _ us hl => match us, hl with | [_, _], _ => rfl
  have F37 := fun_mk (st := s__law_back) l37 c37 k37
  have b37 := F37.binds (ps := ["a"]) fun _ _ _ _ _ _ us hl => match us, hl with | [_], _ => rfl
  have F38 := fun_mk (st := s__law_vector) l38 c38 k38
  have b38 := F38.binds (ps := ["pot", "dims"]) fun _ _ _ _ _ _ us hl => match us, hl with | [_, _], _ => rfl
  have F39 := fun_mk (st := s__law_survey) l39 c39 k39
  have b39 := F39.binds (ps := ["pot", "dims", "stations", "legs", "wrong"]) fun _ _ _ _ _ _ us hl => match us, hl with | [_, _, _, _, _], _ => rfl
  have F40 := fun_mk (st := s__law_ends) l40 c40 k40
  have b40 := F40.binds (ps := ["survey", "step"]) fun _ _ _ _ _ _ us hl => match us, hl with | [_, _], _ => rfl
  have F41 := fun_mk (st := s__law_total) l41 c41 k41
  have b41 := F41.binds (ps := ["survey", "walk"]) fun _ _ _ _ _ _ us hl => match us, hl with | [_, _], _ => rfl
  have F42 := fun_mk (st := s__law_is_step) l42 c42 k42
  have b42 := F42.binds (ps := ["survey", "value"]) fun _ _ _ _ _ _ us hl => match us, hl with | [_, _], _ => rfl
  have F43 := fun_mk (st := s__law_is_walk) l43 c43 k43
  have b43 := F43.binds (ps := ["survey", "value"]) fun _ _ _ _ _ _ us hl => match us, hl with | [_, _], _ => rfl
  have F44 := fun_mk (st := s__law_is_loop) l44 c44 k44
  have b44 := F44.binds (ps := ["survey", "value"]) fun _ _ _ _ _ _ us hl => match us, hl with | [_, _], _ => rfl
  have F45 := fun_mk (st := s__law_drawn_walk) l45 c45 k45
  have b45 := F45.binds (ps := ["pot", "survey", "many"]) fun _ _ _ _ _ _ us hl => match us, hl with | [_, _, _], _ => rfl
  have F46 := fun_mk (st := s__law_cut) l46 c46 k46
  have b46 := F46.binds (ps := ["survey", "walk"]) fun _ _ _ _ _ _ us hl => match us, hl with | [_, _], _ => rfl
  have F47 := fun_mk (st := s__law_bent) l47 c47 k47
  have b47 := F47.binds (ps := ["pot", "survey", "walk"]) fun _ _ _ _ _ _ us hl => match us, hl with | [_, _, _], _ => rfl
  have F48 := fun_mk (st := s__law_value_right) l48 c48 k48
  have b48 := F48.binds (ps := ["survey", "value"]) fun _ _ _ _ _ _ us hl => match us, hl with | [_, _], _ => rfl
  have F49 := fun_mk (st := s__law_right) l49 c49 k49
  have b49 := F49.binds (ps := ["pot"]) fun _ _ _ _ _ _ us hl => match us, hl with | [_], _ => rfl
  have F50 := fun_mk (st := s_law) l50 c50 k50
  have b50 := F50.binds (ps := ["script"]) fun _ _ _ _ _ _ us hl => match us, hl with | [_], _ => rfl
  have T : Txt K mg := ⟨f0, _, F0, PySem.W.mg_of X G a0, b0, f1, _, F1, PySem.W.mg_of X G a1, b1, f2, _, F2, PySem.W.mg_of X G a2, b2, f3, _, F3, PySem.W.mg_of X G a3, b3, f4, _, F4, PySem.W.mg_of X G a4, b4, f5, _, F5, PySem.W.mg_of X G a5, b5, f6, _, F6, PySem.W.mg_of X G a6, b6, f7, _, F7, PySem.W.mg_of X G a7, b7, f8, _, F8, PySem.W.mg_of X G a8, b8, f9, _, F9, PySem.W.mg_of X G a9, b9, f10, _, F10, PySem.W.mg_of X G a10, b10, f11, _, F11, PySem.W.mg_of X G a11, b11, f12, _, F12, PySem.W.mg_of X G a12, b12, f13, _, F13, PySem.W.mg_of X G a13, b13, f14, _, F14, PySem.W.mg_of X G a14, b14, f15, _, F15, PySem.W.mg_of X G a15, b15, f16, _, F16, PySem.W.mg_of X G a16, b16, f17, _, F17, PySem.W.mg_of X G a17, b17, f18, _, F18, PySem.W.mg_of X G a18, b18, f19, _, F19, PySem.W.mg_of X G a19, b19, f20, _, F20, PySem.W.mg_of X G a20, b20, f21, _, F21, PySem.W.mg_of X G a21, b21, f22, _, F22, PySem.W.mg_of X G a22, b22, f23, _, F23, PySem.W.mg_of X G a23, b23, f24, _, F24, PySem.W.mg_of X G a24, b24, f25, _, F25, PySem.W.mg_of X G a25, b25, f26, _, F26, PySem.W.mg_of X G a26, b26, f27, _, F27, PySem.W.mg_of X G a27, b27, f28, _, F28, PySem.W.mg_of X G a28, b28, f29, _, F29, PySem.W.mg_of X G a29, b29, f30, _, F30, PySem.W.mg_of X G a30, b30, f31, _, F31, PySem.W.mg_of X G a31, b31, f32, _, F32, PySem.W.mg_of X G a32, b32, f33, _, F33, PySem.W.mg_of X G a33, b33, f34, _, F34, PySem.W.mg_of X G a34, b34, f35, _, F35, PySem.W.mg_of X G a35, b35, f36, _, F36, PySem.W.mg_of X G a36, b36, f37, _, F37, PySem.W.mg_of X G a37, b37, f38, _, F38, PySem.W.mg_of X G a38, b38, f39, _, F39, PySem.W.mg_of X G a39, b39, f40, _, F40, PySem.W.mg_of X G a40, b40, f41, _, F41, PySem.W.mg_of X G a41, b41, f42, _, F42, PySem.W.mg_of X G a42, b42, f43, _, F43, PySem.W.mg_of X G a43, b43, f44, _, F44, PySem.W.mg_of X G a44, b44, f45, _, F45, PySem.W.mg_of X G a45, b45, f46, _, F46, PySem.W.mg_of X G a46, b46, f47, _, F47, PySem.W.mg_of X G a47, b47, f48, _, F48, PySem.W.mg_of X G a48, b48, f49, _, F49, PySem.W.mg_of X G a49, b49, f50, _, F50, PySem.W.mg_of X G a50, b50, kbinds_of (by decide) (fun ws hw => match ws, hw with | [_, _], _ => rfl), kbinds_of (by decide) (fun ws hw => match ws, hw with | [_, _], _ => rfl), kbinds_of (by decide) (fun ws hw => match ws, hw with | [_, _], _ => rfl), kbinds_of (by decide) (fun ws hw => match ws, hw with | [_, _], _ => rfl), PySem.W.mg_none_of X G z_isinstance, PySem.W.mg_none_of X G z_int, PySem.W.mg_none_of X G z_bool, PySem.W.mg_none_of X G z_list, PySem.W.mg_none_of X G z_tuple, PySem.W.mg_none_of X G z_len, PySem.W.mg_none_of X G z_abs, PySem.W.mg_none_of X G z_zip, PySem.W.mg_none_of X G z_all, PySem.W.mg_none_of X G z_str, PySem.W.mg_none_of X G z_set, PySem.W.mg_none_of X G z_max, PySem.W.mg_none_of X G z_divmod, PySem.W.mg_none_of X G z_range, PySem.W.mg_none_of X G z_enumerate, PySem.W.mg_none_of X G z_repr, PySem.W.mg_none_of X G z_min, PySem.W.mg_of X G z_gcd, (konst_fr (PySem.W.mg_of X G n1) n2), (konst_int (PySem.W.mg_of X G m_MOST_SHORT)), (konst_int (PySem.W.mg_of X G m_MOST_BELOW)), (konst_int (PySem.W.mg_of X G m_MOST_DIMS)), (konst_int (PySem.W.mg_of X G m_MOST_STATIONS)), (konst_int (PySem.W.mg_of X G m_MOST_LEGS)), (konst_int (PySem.W.mg_of X G m_MOST_PARTY)), (konst_int (PySem.W.mg_of X G m_MOST_WALK))⟩
  exact ⟨_, fun s v => .of_eq rfl, fun base _ _ => ok_law (P := l.prog) (w := w) (base := base) ⟨f0, _, F0, PySem.W.mg_of X G a0, b0, f1, _, F1, PySem.W.mg_of X G a1, b1, f2, _, F2, PySem.W.mg_of X G a2, b2, f3, _, F3, PySem.W.mg_of X G a3, b3, f4, _, F4, PySem.W.mg_of X G a4, b4, f5, _, F5, PySem.W.mg_of X G a5, b5, f6, _, F6, PySem.W.mg_of X G a6, b6, f7, _, F7, PySem.W.mg_of X G a7, b7, f8, _, F8, PySem.W.mg_of X G a8, b8, f9, _, F9, PySem.W.mg_of X G a9, b9, f10, _, F10, PySem.W.mg_of X G a10, b10, f11, _, F11, PySem.W.mg_of X G a11, b11, f12, _, F12, PySem.W.mg_of X G a12, b12, f13, _, F13, PySem.W.mg_of X G a13, b13, f14, _, F14, PySem.W.mg_of X G a14, b14, f15, _, F15, PySem.W.mg_of X G a15, b15, f16, _, F16, PySem.W.mg_of X G a16, b16, f17, _, F17, PySem.W.mg_of X G a17, b17, f18, _, F18, PySem.W.mg_of X G a18, b18, f19, _, F19, PySem.W.mg_of X G a19, b19, f20, _, F20, PySem.W.mg_of X G a20, b20, f21, _, F21, PySem.W.mg_of X G a21, b21, f22, _, F22, PySem.W.mg_of X G a22, b22, f23, _, F23, PySem.W.mg_of X G a23, b23, f24, _, F24, PySem.W.mg_of X G a24, b24, f25, _, F25, PySem.W.mg_of X G a25, b25, f26, _, F26, PySem.W.mg_of X G a26, b26, f27, _, F27, PySem.W.mg_of X G a27, b27, f28, _, F28, PySem.W.mg_of X G a28, b28, f29, _, F29, PySem.W.mg_of X G a29, b29, f30, _, F30, PySem.W.mg_of X G a30, b30, f31, _, F31, PySem.W.mg_of X G a31, b31, f32, _, F32, PySem.W.mg_of X G a32, b32, f33, _, F33, PySem.W.mg_of X G a33, b33, f34, _, F34, PySem.W.mg_of X G a34, b34, f35, _, F35, PySem.W.mg_of X G a35, b35, f36, _, F36, PySem.W.mg_of X G a36, b36, f37, _, F37, PySem.W.mg_of X G a37, b37, f38, _, F38, PySem.W.mg_of X G a38, b38, f39, _, F39, PySem.W.mg_of X G a39, b39, f40, _, F40, PySem.W.mg_of X G a40, b40, f41, _, F41, PySem.W.mg_of X G a41, b41, f42, _, F42, PySem.W.mg_of X G a42, b42, f43, _, F43, PySem.W.mg_of X G a43, b43, f44, _, F44, PySem.W.mg_of X G a44, b44, f45, _, F45, PySem.W.mg_of X G a45, b45, f46, _, F46, PySem.W.mg_of X G a46, b46, f47, _, F47, PySem.W.mg_of X G a47, b47, f48, _, F48, PySem.W.mg_of X G a48, b48, f49, _, F49, PySem.W.mg_of X G a49, b49, f50, _, F50, PySem.W.mg_of X G a50, b50, kbinds_of (by decide) (fun ws hw => match ws, hw with | [_, _], _ => rfl), kbinds_of (by decide) (fun ws hw => match ws, hw with | [_, _], _ => rfl), kbinds_of (by decide) (fun ws hw => match ws, hw with | [_, _], _ => rfl), kbinds_of (by decide) (fun ws hw => match ws, hw with | [_, _], _ => rfl), PySem.W.mg_none_of X G z_isinstance, PySem.W.mg_none_of X G z_int, PySem.W.mg_none_of X G z_bool, PySem.W.mg_none_of X G z_list, PySem.W.mg_none_of X G z_tuple, PySem.W.mg_none_of X G z_len, PySem.W.mg_none_of X G z_abs, PySem.W.mg_none_of X G z_zip, PySem.W.mg_none_of X G z_all, PySem.W.mg_none_of X G z_str, PySem.W.mg_none_of X G z_set, PySem.W.mg_none_of X G z_max, PySem.W.mg_none_of X G z_divmod, PySem.W.mg_none_of X G z_range, PySem.W.mg_none_of X G z_enumerate, PySem.W.mg_none_of X G z_repr, PySem.W.mg_none_of X G z_min, PySem.W.mg_of X G z_gcd, (konst_fr (PySem.W.mg_of X G n1) n2), (konst_int (PySem.W.mg_of X G m_MOST_SHORT)), (konst_int (PySem.W.mg_of X G m_MOST_BELOW)), (konst_int (PySem.W.mg_of X G m_MOST_DIMS)), (konst_int (PySem.W.mg_of X G m_MOST_STATIONS)), (konst_int (PySem.W.mg_of X G m_MOST_LEGS)), (konst_int (PySem.W.mg_of X G m_MOST_PARTY)), (konst_int (PySem.W.mg_of X G m_MOST_WALK))⟩⟩
end K23
open PySem PySem.W PyProof.Rows
set_option maxHeartbeats 0 in
theorem PySem.Challenge.cw_cavelegs_k23_any_value_as_walk_or_loop_holds : PySem.Challenge.rw_cavelegs_k23_any_value_as_walk_or_loop.Holds := by
  w_on; o_law; k_head; (case hw => w_witness2)
  k_fill
  refine Cl.walk_end (l := PySem.Challenge.rw_cavelegs_k23_any_value_as_walk_or_loop) (n := 63) (k := 11) (x := "script") rfl (by decide) rfl ⟨rfl, by decide, by decide⟩ (fun w h Y => PySem.W.kIn_of Y) ?F
  case F =>
    intro w mg fa h KX G hmg
    refine' K23.all_mk KX G hmg ?a0 ?l0 ?c0 ?k0 ?a1 ?l1 ?c1 ?k1 ?a2 ?l2 ?c2 ?k2 ?a3 ?l3 ?c3 ?k3 ?a4 ?l4 ?c4 ?k4 ?a5 ?l5 ?c5 ?k5 ?a6 ?l6 ?c6 ?k6 ?a7 ?l7 ?c7 ?k7 ?a8 ?l8 ?c8 ?k8 ?a9 ?l9 ?c9 ?k9 ?a10 ?l10 ?c10 ?k10 ?a11 ?l11 ?c11 ?k11 ?a12 ?l12 ?c12 ?k12 ?a13 ?l13 ?c13 ?k13 ?a14 ?l14 ?c14 ?k14 ?a15 ?l15 ?c15 ?k15 ?a16 ?l16 ?c16 ?k16 ?a17 ?l17 ?c17 ?k17 ?a18 ?l18 ?c18 ?k18 ?a19 ?l19 ?c19 ?k19 ?a20 ?l20 ?c20 ?k20 ?a21 ?l21 ?c21 ?k21 ?a22 ?l22 ?c22 ?k22 ?a23 ?l23 ?c23 ?k23 ?a24 ?l24 ?c24 ?k24 ?a25 ?l25 ?c25 ?k25 ?a26 ?l26 ?c26 ?k26 ?a27 ?l27 ?c27 ?k27 ?a28 ?l28 ?c28 ?k28 ?a29 ?l29 ?c29 ?k29 ?a30 ?l30 ?c30 ?k30 ?a31 ?l31 ?c31 ?k31 ?a32 ?l32 ?c32 ?k32 ?a33 ?l33 ?c33 ?k33 ?a34 ?l34 ?c34 ?k34 ?a35 ?l35 ?c35 ?k35 ?a36 ?l36 ?c36 ?k36 ?a37 ?l37 ?c37 ?k37 ?a38 ?l38 ?c38 ?k38 ?a39 ?l39 ?c39 ?k39 ?a40 ?l40 ?c40 ?k40 ?a41 ?l41 ?c41 ?k41 ?a42 ?l42 ?c42 ?k42 ?a43 ?l43 ?c43 ?k43 ?a44 ?l44 ?c44 ?k44 ?a45 ?l45 ?c45 ?k45 ?a46 ?l46 ?c46 ?k46 ?a47 ?l47 ?c47 ?k47 ?a48 ?l48 ?c48 ?k48 ?a49 ?l49 ?c49 ?k49 ?a50 ?l50 ?c50 ?k50 ?z_isinstance ?z_int ?z_bool ?z_list ?z_tuple ?z_len ?z_abs ?z_zip ?z_all ?z_str ?z_set ?z_max ?z_divmod ?z_range ?z_enumerate ?z_repr ?z_min ?z_gcd ?n1 ?n2 ?m_MOST_SHORT ?m_MOST_BELOW ?m_MOST_DIMS ?m_MOST_STATIONS ?m_MOST_LEGS ?m_MOST_PARTY ?m_MOST_WALK
    (case a0 => k_is)
    (case l0 => k_is)
    (case c0 => k_is)
    (case k0 => k_is)
    (case a1 => k_is)
    (case l1 => k_is)
    (case c1 => k_is)
    (case k1 => k_is)
    (case a2 => k_is)
    (case l2 => k_is)
    (case c2 => k_is)
    (case k2 => k_is)
    (case a3 => k_is)
    (case l3 => k_is)
    (case c3 => k_is)
    (case k3 => k_is)
    (case a4 => k_is)
    (case l4 => k_is)
    (case c4 => k_is)
    (case k4 => k_is)
    (case a5 => k_is)
    (case l5 => k_is)
    (case c5 => k_is)
    (case k5 => k_is)
    (case a6 => k_is)
    (case l6 => k_is)
    (case c6 => k_is)
    (case k6 => k_is)
    (case a7 => k_is)
    (case l7 => k_is)
    (case c7 => k_is)
    (case k7 => k_is)
    (case a8 => k_is)
    (case l8 => k_is)
    (case c8 => k_is)
    (case k8 => k_is)
    (case a9 => k_is)
    (case l9 => k_is)
    (case c9 => k_is)
    (case k9 => k_is)
    (case a10 => k_is)
    (case l10 => k_is)
    (case c10 => k_is)
    (case k10 => k_is)
    (case a11 => k_is)
    (case l11 => k_is)
    (case c11 => k_is)
    (case k11 => k_is)
    (case a12 => k_is)
    (case l12 => k_is)
    (case c12 => k_is)
    (case k12 => k_is)
    (case a13 => k_is)
    (case l13 => k_is)
    (case c13 => k_is)
    (case k13 => k_is)
    (case a14 => k_is)
    (case l14 => k_is)
    (case c14 => k_is)
    (case k14 => k_is)
    (case a15 => k_is)
    (case l15 => k_is)
    (case c15 => k_is)
    (case k15 => k_is)
    (case a16 => k_is)
    (case l16 => k_is)
    (case c16 => k_is)
    (case k16 => k_is)
    (case a17 => k_is)
    (case l17 => k_is)
    (case c17 => k_is)
    (case k17 => k_is)
    (case a18 => k_is)
    (case l18 => k_is)
    (case c18 => k_is)
    (case k18 => k_is)
    (case a19 => k_is)
    (case l19 => k_is)
    (case c19 => k_is)
    (case k19 => k_is)
    (case a20 => k_is)
    (case l20 => k_is)
    (case c20 => k_is)
    (case k20 => k_is)
    (case a21 => k_is)
    (case l21 => k_is)
    (case c21 => k_is)
    (case k21 => k_is)
    (case a22 => k_is)
    (case l22 => k_is)
    (case c22 => k_is)
    (case k22 => k_is)
    (case a23 => k_is)
    (case l23 => k_is)
    (case c23 => k_is)
    (case k23 => k_is)
    (case a24 => k_is)
    (case l24 => k_is)
    (case c24 => k_is)
    (case k24 => k_is)
    (case a25 => k_is)
    (case l25 => k_is)
    (case c25 => k_is)
    (case k25 => k_is)
    (case a26 => k_is)
    (case l26 => k_is)
    (case c26 => k_is)
    (case k26 => k_is)
    (case a27 => k_is)
    (case l27 => k_is)
    (case c27 => k_is)
    (case k27 => k_is)
    (case a28 => k_is)
    (case l28 => k_is)
    (case c28 => k_is)
    (case k28 => k_is)
    (case a29 => k_is)
    (case l29 => k_is)
    (case c29 => k_is)
    (case k29 => k_is)
    (case a30 => k_is)
    (case l30 => k_is)
    (case c30 => k_is)
    (case k30 => k_is)
    (case a31 => k_is)
    (case l31 => k_is)
    (case c31 => k_is)
    (case k31 => k_is)
    (case a32 => k_is)
    (case l32 => k_is)
    (case c32 => k_is)
    (case k32 => k_is)
    (case a33 => k_is)
    (case l33 => k_is)
    (case c33 => k_is)
    (case k33 => k_is)
    (case a34 => k_is)
    (case l34 => k_is)
    (case c34 => k_is)
    (case k34 => k_is)
    (case a35 => k_is)
    (case l35 => k_is)
    (case c35 => k_is)
    (case k35 => k_is)
    (case a36 => k_is)
    (case l36 => k_is)
    (case c36 => k_is)
    (case k36 => k_is)
    (case a37 => k_is)
    (case l37 => k_is)
    (case c37 => k_is)
    (case k37 => k_is)
    (case a38 => k_is)
    (case l38 => k_is)
    (case c38 => k_is)
    (case k38 => k_is)
    (case a39 => k_is)
    (case l39 => k_is)
    (case c39 => k_is)
    (case k39 => k_is)
    (case a40 => k_is)
    (case l40 => k_is)
    (case c40 => k_is)
    (case k40 => k_is)
    (case a41 => k_is)
    (case l41 => k_is)
    (case c41 => k_is)
    (case k41 => k_is)
    (case a42 => k_is)
    (case l42 => k_is)
    (case c42 => k_is)
    (case k42 => k_is)
    (case a43 => k_is)
    (case l43 => k_is)
    (case c43 => k_is)
    (case k43 => k_is)
    (case a44 => k_is)
    (case l44 => k_is)
    (case c44 => k_is)
    (case k44 => k_is)
    (case a45 => k_is)
    (case l45 => k_is)
    (case c45 => k_is)
    (case k45 => k_is)
    (case a46 => k_is)
    (case l46 => k_is)
    (case c46 => k_is)
    (case k46 => k_is)
    (case a47 => k_is)
    (case l47 => k_is)
    (case c47 => k_is)
    (case k47 => k_is)
    (case a48 => k_is)
    (case l48 => k_is)
    (case c48 => k_is)
    (case k48 => k_is)
    (case a49 => k_is)
    (case l49 => k_is)
    (case c49 => k_is)
    (case k49 => k_is)
    (case a50 => k_is)
    (case l50 => k_is)
    (case c50 => k_is)
    (case k50 => k_is)
    (case z_isinstance => k_is)
    (case z_int => k_is)
    (case z_bool => k_is)
    (case z_list => k_is)
    (case z_tuple => k_is)
    (case z_len => k_is)
    (case z_abs => k_is)
    (case z_zip => k_is)
    (case z_all => k_is)
    (case z_str => k_is)
    (case z_set => k_is)
    (case z_max => k_is)
    (case z_divmod => k_is)
    (case z_range => k_is)
    (case z_enumerate => k_is)
    (case z_repr => k_is)
    (case z_min => k_is)
    (case z_gcd => k_is)
    (case n1 => k_is)
    (case n2 => k_is)
    (case m_MOST_SHORT => k_is)
    (case m_MOST_BELOW => k_is)
    (case m_MOST_DIMS => k_is)
    (case m_MOST_STATIONS => k_is)
    (case m_MOST_LEGS => k_is)
    (case m_MOST_PARTY => k_is)
    (case m_MOST_WALK => k_is)
