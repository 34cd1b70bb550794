import PyProof.Rows.All
import Wide.All
import OpenK.AllK
import Wide.FinOn
import HandS.ForMost
import HandS.Walk
import HandS.Wide
import HandS.WideBits
import HandS.Gcd
import HandS.IsInst
import HandS.Conv
import HandS.More
import HandS.TupAny
import HandS.TupMul
import HandS.Zip
import PyProof.ReprRoads
import PySem.Challenge.RW_cavelegs_k11_whole_vectors
set_option Elab.async false
set_option linter.all false
set_option maxRecDepth 100000
/-! Cells: a layer of our own over the hand layer. A name of a def holds data (never changed), or a list that it alone holds. -/
namespace Cl
open PySem PySem.Spec PyProof.Rows L2

/-! ### data at a value -/
mutual
inductive Dq (K : PySem.W.Frag) (F : Hp) : V → PyData → Prop
  | non : Dq K F .non .none
  | bl (b : Bool) : Dq K F (.bl b) (.bool b)
  | int (i : Int) : Dq K F (.int i) (.int i)
  | str (x : Str) : Dq K F (.str x) (.str x)
  | lst {a : Addr} {xs : List V} {ds : List PyData} (hs : F a = some (.lst xs)) (ha : DqA K F xs ds) : Dq K F (.ref a) (.list ds)
  | tup {a : Addr} {xs : List V} {ds : List PyData} (hs : SqT K F a xs) (ha : DqA K F xs ds) : Dq K F (.ref a) (.tuple ds)
  | dct {a : Addr} (hs : F a = some (.dK [])) : Dq K F (.ref a) (.dict [])
inductive DqA (K : PySem.W.Frag) (F : Hp) : List V → List PyData → Prop
  | nil : DqA K F [] []
  | cons {v : V} {vs : List V} {d : PyData} {ds : List PyData} (h : Dq K F v d) (t : DqA K F vs ds) : DqA K F (v :: vs) (d :: ds)
end
theorem rd_same {H H' : Hp} {a : Addr} {u : HO} (e : Same H H') (h : Rd H a u) : Rd H' a u := by
  rcases h with h | ⟨o, h⟩
  · exact .inl (e _ _ h)
  · exact .inr ⟨o, e _ _ h⟩
theorem sqT_same {K : PySem.W.Frag} {H H' : Hp} {a : Addr} {xs : List V} (e : Same H H') (h : SqT K H a xs) : SqT K H' a xs := by
  rcases h with (h | ⟨o, h⟩) | h
  · exact .inl (.inl (e _ _ h))
  · exact .inl (.inr ⟨o, e _ _ h⟩)
  · exact .inr h
section
variable {K : PySem.W.Frag} {F F' : Hp}
mutual
theorem Dq.mono (e : Same F F') : ∀ (d : PyData) {v : V}, Dq K F v d → Dq K F' v d
  | .none, _, h => by cases h; exact .non
  | .bool b, _, h => by cases h; exact .bl b
  | .int i, _, h => by cases h; exact .int i
  | .str x, _, h => by cases h; exact .str x
  | .list ds, _, h => by
    cases h with
    | lst hs ha => exact .lst (e _ _ hs) (DqA.mono e ds ha)
  | .tuple ds, _, h => by
    cases h with
    | tup hs ha => exact .tup (sqT_same e hs) (DqA.mono e ds ha)
  | .dict kvs, _, h => by
    cases h with
    | dct hs => exact .dct (e _ _ hs)
theorem DqA.mono (e : Same F F') : ∀ (ds : List PyData) {vs : List V}, DqA K F vs ds → DqA K F' vs ds
  | [], _, h => by cases h; exact .nil
  | d :: ds, _, h => by
    cases h with
    | cons h t => exact .cons (Dq.mono e d h) (DqA.mono e ds t)
end
theorem DqA.length : ∀ {vs : List V} {ds : List PyData}, DqA K F vs ds → vs.length = ds.length
  | _, _, .nil => rfl
  | _, _, .cons _ t => congrArg (· + 1) t.length
theorem DqA.get : ∀ {vs : List V} {ds : List PyData} {i : Nat} {v : V}, DqA K F vs ds → vs[i]? = some v → ∃ d, ds[i]? = some d ∧ Dq K F v d
  | _, _, _, _, .nil, e => by simp at e
  | _, _, 0, _, .cons h _, e => by simp at e; subst e; exact ⟨_, rfl, h⟩
  | _, _, i + 1, _, .cons _ t, e => DqA.get (i := i) t (by simpa using e)
theorem DqA.get' : ∀ {vs : List V} {ds : List PyData} {i : Nat} {d : PyData}, DqA K F vs ds → ds[i]? = some d → ∃ v, vs[i]? = some v ∧ Dq K F v d
  | _, _, _, _, .nil, e => by simp at e
  | _, _, 0, _, .cons h _, e => by simp at e; subst e; exact ⟨_, rfl, h⟩
  | _, _, i + 1, _, .cons _ t, e => DqA.get' (i := i) t (by simpa using e)
theorem DqA.append : ∀ {vs us : List V} {ds es : List PyData}, DqA K F vs ds → DqA K F us es → DqA K F (vs ++ us) (ds ++ es)
  | _, _, _, _, .nil, t => t
  | _, _, _, _, .cons h s, t => .cons h (s.append t)
theorem DqA.take : ∀ (n : Nat) {vs : List V} {ds : List PyData}, DqA K F vs ds → DqA K F (vs.take n) (ds.take n)
  | 0, _, _, _ => .nil
  | _ + 1, _, _, .nil => .nil
  | n + 1, _, _, .cons h t => .cons h (t.take n)
theorem DqA.drop : ∀ (n : Nat) {vs : List V} {ds : List PyData}, DqA K F vs ds → DqA K F (vs.drop n) (ds.drop n)
  | 0, _, _, h => h
  | _ + 1, _, _, .nil => .nil
  | n + 1, _, _, .cons _ t => t.drop n
theorem DqA.set {v : V} {d : PyData} (q : Dq K F v d) : ∀ (n : Nat) {vs : List V} {ds : List PyData}, DqA K F vs ds → DqA K F (vs.set n v) (ds.set n d)
  | _, _, _, .nil => .nil
  | 0, _, _, .cons _ t => .cons q t
  | n + 1, _, _, .cons h t => .cons h (t.set q n)
theorem DqA.eraseIdx : ∀ (n : Nat) {vs : List V} {ds : List PyData}, DqA K F vs ds → DqA K F (vs.eraseIdx n) (ds.eraseIdx n)
  | _, _, _, .nil => .nil
  | 0, _, _, .cons _ t => t
  | n + 1, _, _, .cons h t => .cons h (t.eraseIdx n)
theorem DqA.repeat (k : Nat) {vs : List V} {ds : List PyData} (h : DqA K F vs ds) : DqA K F (List.replicate k vs).flatten (List.replicate k ds).flatten := by
  induction k with
  | zero => exact .nil
  | succ k ih =>
    rw [List.replicate_succ, List.replicate_succ, List.flatten_cons, List.flatten_cons]
    exact h.append ih
end

section
variable {X : Cx} {pins : List (Addr × Obj)} {σ : L2.St} {H : Hp} {s : Shared}
mutual
theorem Dq.rd (I : Inv X pins σ H s) : ∀ (d : PyData) (v : V) (u : Value), Dq X.K H v d → RelV v u → ∃ as, Reads s.heap u d as
  | .none, _, _, h, r => by cases h; cases r; exact ⟨_, .none⟩
  | .bool b, _, _, h, r => by cases h; cases r; exact ⟨_, .bool b⟩
  | .int i, _, _, h, r => by cases h; obtain ⟨t, rfl⟩ := r; exact ⟨_, .int i t⟩
  | .str x, _, _, h, r => by cases h; obtain ⟨t, rfl⟩ := r; exact ⟨_, .str x t⟩
  | .list ds, _, _, h, r => by
    cases h with
    | lst hs ha =>
      cases r
      obtain ⟨its, rv, ⟨o, n, ho, hc, _, hd⟩, _⟩ := I.list (.inl (.inl hs))
      obtain ⟨as, q⟩ := DqA.rd I ds _ its ha rv
      exact ⟨_, .list ho hc hd q⟩
  | .tuple ds, _, _, h, r => by
    cases h with
    | tup hs ha =>
      cases r
      obtain ⟨its, rv, ⟨o, ho, hc, n, hd⟩, _⟩ := I.tuple hs
      obtain ⟨as, q⟩ := DqA.rd I ds _ its ha rv
      exact ⟨_, .tuple ho hc hd q⟩
  | .dict kvs, _, _, h, r => by
    cases h with
    | dct hs =>
      cases r
      obtain ⟨_, _, vs, kv, o, es, ep, ho, ex, hd, q⟩ := I.hok _ _ hs
      cases kv
      have z : es.toList = [] := by
        have q2 := q.2.1
        cases h9 : es.toList with
        | nil => rfl
        | cons e r => rw [h9] at q2; cases q2
      refine ⟨_, .dict (kvs := []) (as := []) (bs := []) ho ex.1 hd ?_ ?_⟩
      · rw [z]; exact .nil
      · rw [z]; exact .nil
theorem DqA.rd (I : Inv X pins σ H s) : ∀ (ds : List PyData) (vs : List V) (us : List Value), DqA X.K H vs ds → Vals vs us → ∃ as, ReadsAll s.heap us ds as
  | [], _, _, h, r => by cases h; cases r; exact ⟨_, .nil⟩
  | d :: ds, _, _, h, r => by
    cases h with
    | cons h1 h2 =>
      cases r with
      | cons r1 r2 =>
        obtain ⟨as, q1⟩ := Dq.rd I d _ _ h1 r1
        obtain ⟨bs, q2⟩ := DqA.rd I ds _ _ h2 r2
        exact ⟨_, .cons q1 q2⟩
end
end
/-! ### cells -/
/-- what is held alone: a list -/
inductive Mu where
  | lst (l : List PyData)
def MuOk (K : PySem.W.Frag) (F : Hp) : Mu → HO → Prop
  | .lst l, .lst xs => DqA K F xs l
  | _, _ => False
theorem MuOk.mono {K : PySem.W.Frag} {F F' : Hp} (e : Same F F') {m : Mu} {o : HO} (h : MuOk K F m o) : MuOk K F' m o := by
  cases m with
  | lst l =>
    cases o with
    | lst xs => exact DqA.mono e l h
    | _ => exact h.elim
theorem MuOk.mut {K : PySem.W.Frag} {F : Hp} {m : Mu} {o : HO} (h : MuOk K F m o) : Mut (some o) := by
  cases m with
  | lst l =>
    cases o with
    | lst xs => trivial
    | _ => exact h.elim
/-- what a name holds: data | a thing of its own | a thing lent by the caller, at p -/
inductive Cell where
  | dat (d : PyData)
  | own (m : Mu)
  | bor (p : Addr) (m : Mu)
  | scr (ns : List Int)
def Cell.mu : Cell → Option Mu
  | .dat _ => none
  | .own m => some m
  | .bor _ m => some m
  | .scr _ => none
def Cell.put : Cell → Mu → Cell
  | .own _, m => .own m
  | .bor p _, m => .bor p m
  | c, _ => c
abbrev Rho := List (Option Cell)
def SlotOk (K : PySem.W.Frag) (F H : Hp) : Option Cell → Option V → Prop
  | none, _ => True
  | some (.dat d), x => ∃ v, x = some v ∧ Dq K F v d
  | some (.own m), x => ∃ p o, x = some (.ref p) ∧ F p = none ∧ H p = some o ∧ MuOk K F m o
  | some (.bor p m), x => ∃ o, x = some (.ref p) ∧ F p = none ∧ H p = some o ∧ MuOk K F m o
  | some (.scr ns), x => ∃ a, x = some (.ref a) ∧ SqL K F a (ns.map V.int)
/-- q is held alone by the slot i -/
def Held (ρ : Rho) (σ : L2.St) (i : Nat) (q : Addr) : Prop := ∃ c m, ρ[i]? = some (some c) ∧ c.mu = some m ∧ σ[i]? = some (some (.ref q))
def Own (ρ : Rho) (σ : L2.St) (q : Addr) : Prop := ∃ i, Held ρ σ i q
structure Sat (K : PySem.W.Frag) (F : Hp) (ρ : Rho) (σ : L2.St) (H : Hp) : Prop where
  len : σ.length = ρ.length
  sub : Same F H
  slot : ∀ (i : Nat) (c : Option Cell) (x : Option V), ρ[i]? = some c → σ[i]? = some x → SlotOk K F H c x
  inj : ∀ i j q, Held ρ σ i q → Held ρ σ j q → i = j
structure Step (K : PySem.W.Frag) (ρ : Rho) (σ : L2.St) (F H : Hp) (ρ' : Rho) (σ' : L2.St) (F' H' : Hp) : Prop where
  fr : Same F F'
  new : ∀ q, F q = none → H q ≠ none → ¬ Own ρ σ q → F' q = none
  keep : ∀ q o, H q = some o → ¬ Own ρ σ q → H' q = some o
  live : ∀ q, H q ≠ none → H' q ≠ none
  sat : Sat K F' ρ' σ' H'
  own : ∀ q, Own ρ' σ' q → Own ρ σ q ∨ H q = none
section
variable {K : PySem.W.Frag} {F F' F1 F2 H H' H1 H2 : Hp} {ρ ρ' ρ1 ρ2 : Rho} {σ σ' σ1 σ2 : L2.St}
theorem Step.refl (S : Sat K F ρ σ H) : Step K ρ σ F H ρ σ F H := ⟨Same.refl F, fun _ h _ _ => h, fun _ _ h _ => h, fun _ h => h, S, fun _ h => .inl h⟩
theorem Step.trans (a : Step K ρ σ F H ρ1 σ1 F1 H1) (b : Step K ρ1 σ1 F1 H1 ρ2 σ2 F2 H2) : Step K ρ σ F H ρ2 σ2 F2 H2 := by
  have no : ∀ q, H q ≠ none → ¬ Own ρ σ q → ¬ Own ρ1 σ1 q := fun q h n z => by
    rcases a.own q z with y | y
    · exact n y
    · exact h y
  have st : ∀ q, H q ≠ none → ¬ Own ρ σ q → H1 q ≠ none := fun q h n z => by
    cases e : H q with
    | none => exact h e
    | some o =>
      rw [a.keep q o e n] at z
      cases z
  refine ⟨a.fr.trans b.fr, fun q h1 h2 n => b.new q (a.new q h1 h2 n) (st q h2 n) (no q h2 n), fun q o e n => b.keep q o (a.keep q o e n) (no q (by rw [e]; simp) n), fun q h => b.live q (a.live q h), b.sat, fun q z => ?_⟩
  rcases b.own q z with y | y
  · exact a.own q y
  · by_cases n : Own ρ σ q
    · exact .inl n
    · refine .inr ?_
      cases e : H q with
      | none => rfl
      | some o =>
        rw [a.keep q o e n] at y
        cases y
/-- a slot's thing held alone -/
theorem Sat.held (S : Sat K F ρ σ H) {i : Nat} {c : Cell} {m : Mu} (e : ρ[i]? = some (some c)) (h : c.mu = some m) : ∃ p o, σ[i]? = some (some (.ref p)) ∧ F p = none ∧ H p = some o ∧ MuOk K F m o := by
  have hi : i < σ.length := by
    rw [S.len]
    exact (List.getElem?_eq_some_iff.mp e).1
  have q := S.slot i _ _ e (List.getElem?_eq_getElem hi)
  cases c with
  | dat d => cases h
  | own m' =>
    cases h
    obtain ⟨p, o, h1, h2, h3, h4⟩ := q
    exact ⟨p, o, by rw [List.getElem?_eq_getElem hi, h1], h2, h3, h4⟩
  | bor p m' =>
    cases h
    obtain ⟨o, h1, h2, h3, h4⟩ := q
    exact ⟨p, o, by rw [List.getElem?_eq_getElem hi, h1], h2, h3, h4⟩
  | scr ns => cases h
theorem Sat.scr (S : Sat K F ρ σ H) {i : Nat} {ns : List Int} (e : ρ[i]? = some (some (.scr ns))) : ∃ a, σ[i]? = some (some (.ref a)) ∧ SqL K F a (ns.map V.int) := by
  have hi : i < σ.length := by
    rw [S.len]
    exact (List.getElem?_eq_some_iff.mp e).1
  obtain ⟨v, h1, h2⟩ := S.slot i _ _ e (List.getElem?_eq_getElem hi)
  exact ⟨v, by rw [List.getElem?_eq_getElem hi, h1], h2⟩
theorem Sat.dat (S : Sat K F ρ σ H) {i : Nat} {d : PyData} (e : ρ[i]? = some (some (.dat d))) : ∃ v, σ[i]? = some (some v) ∧ Dq K F v d := by
  have hi : i < σ.length := by
    rw [S.len]
    exact (List.getElem?_eq_some_iff.mp e).1
  obtain ⟨v, h1, h2⟩ := S.slot i _ _ e (List.getElem?_eq_getElem hi)
  exact ⟨v, by rw [List.getElem?_eq_getElem hi, h1], h2⟩
theorem Sat.ownF (S : Sat K F ρ σ H) {q : Addr} (h : Own ρ σ q) : F q = none ∧ H q ≠ none := by
  obtain ⟨i, c, m, e1, e2, e3⟩ := h
  obtain ⟨p, o, h1, h2, h3, h4⟩ := S.held e1 e2
  rw [e3] at h1
  cases h1
  exact ⟨h2, by rw [h3]; simp⟩
/-- a new thing that is nobody's but is read: frozen data -/
theorem SlotOk.grow {K : PySem.W.Frag} (e : Same F F') (n : ∀ q, F q = none → H q ≠ none → F' q = none) (k : Same H H') {c : Option Cell} {x : Option V} (h : SlotOk K F H c x) : SlotOk K F' H' c x := by
  cases c with
  | none => trivial
  | some c =>
    cases c with
    | dat d =>
      obtain ⟨v, h1, h2⟩ := h
      exact ⟨v, h1, h2.mono e⟩
    | own m =>
      obtain ⟨p, o, h1, h2, h3, h4⟩ := h
      exact ⟨p, o, h1, n p h2 (by rw [h3]; simp), k _ _ h3, h4.mono e⟩
    | bor p m =>
      obtain ⟨o, h1, h2, h3, h4⟩ := h
      exact ⟨o, h1, n p h2 (by rw [h3]; simp), k _ _ h3, h4.mono e⟩
    | scr ns =>
      obtain ⟨a, h1, h2⟩ := h
      exact ⟨a, h1, e.seq h2⟩
/-- the frozen part and the heap grow -/
theorem Step.grow (S : Sat K F ρ σ H) (e : Same F F') (n : ∀ q, F q = none → H q ≠ none → F' q = none) (k : Same H H') (s : Same F' H') : Step K ρ σ F H ρ σ F' H' :=
  ⟨e, fun q h1 h2 _ => n q h1 h2, fun q o h _ => k q o h, fun q h z => h (k.free z), ⟨S.len, s, fun i c x h1 h2 => (S.slot i c x h1 h2).grow e n k, S.inj⟩, fun _ h => .inl h⟩
theorem same_upd {H : Hp} {p : Addr} {o : HO} (h : H p = none) : Same H (upd H p o) := fun b x e => by
  rw [upd_ne (ne_of_none e h)]
  exact e
theorem none_of_same (s : Same F H) {p : Addr} (h : H p = none) : F p = none := s.free h
/-- a new frozen thing at p -/
theorem Step.laid (S : Sat K F ρ σ H) {p : Addr} {o : HO} (h : H p = none) : Step K ρ σ F H ρ σ (upd F p o) (upd H p o) := by
  refine Step.grow S (same_upd (S.sub.free h)) (fun q h1 h2 => ?_) (same_upd h) fun b u e => ?_
  · have : q ≠ p := fun z => h2 (by rw [z]; exact h)
    rw [upd_ne this]
    exact h1
  · by_cases hb : b = p
    · subst hb
      rw [upd_same] at e ⊢
      exact e
    · rw [upd_ne hb] at e ⊢
      exact S.sub _ _ e
/-- a new thing at p that is not frozen -/
theorem Step.laidM (S : Sat K F ρ σ H) {p : Addr} {o : HO} (h : H p = none) : Step K ρ σ F H ρ σ F (upd H p o) :=
  Step.grow S (Same.refl F) (fun _ h1 _ => h1) (same_upd h) (S.sub.trans (same_upd h))
end

/-! ### values that have come -/
def Val (K : PySem.W.Frag) (F H : Hp) (N : Addr → Prop) (v : V) : Cell → Prop
  | .dat d => Dq K F v d
  | .own m => ∃ p o, v = .ref p ∧ N p ∧ F p = none ∧ H p = some o ∧ MuOk K F m o
  | .bor _ _ => False
  | .scr _ => False
/-- an expression: from ρ it leads to ρ' and gives c -/
def tD (K : PySem.W.Frag) (ρ ρ' : Rho) (c : Cell) : TE := fun σ H Q => ∃ F, Sat K F ρ σ H ∧
  ∀ v F' H', Step K ρ σ F H ρ' σ F' H' → (∀ q, Own ρ' σ q → Own ρ σ q) → Val K F' H' (fun p => (H p = none ∨ Own ρ σ p) ∧ ¬ Own ρ' σ p) v c → Q v H'
def tDT (K : PySem.W.Frag) (ρ ρ' : Rho) (b : Bool) : TT := fun σ H Q => ∃ F, Sat K F ρ σ H ∧
  ∀ F' H', Step K ρ σ F H ρ' σ F' H' → (∀ q, Own ρ' σ q → Own ρ σ q) → Q b H'
/-- arguments: data all -/
def tDA (K : PySem.W.Frag) (ρ ρ' : Rho) (ds : List PyData) : TA := fun σ H Q => ∃ F, Sat K F ρ σ H ∧
  ∀ vs F' H', Step K ρ σ F H ρ' σ F' H' → (∀ q, Own ρ' σ q → Own ρ σ q) → DqA K F' vs ds → Q vs H'
abbrev ED (X : Cx) (ρ : Rho) (e : Expr) (ρ' : Rho) (d : PyData) : Prop := PE X e (tD X.K ρ ρ' (.dat d))
abbrev EO (X : Cx) (ρ : Rho) (e : Expr) (ρ' : Rho) (l : List PyData) : Prop := PE X e (tD X.K ρ ρ' (.own (.lst l)))
abbrev TD (X : Cx) (ρ : Rho) (e : Expr) (ρ' : Rho) (b : Bool) : Prop := PT X e (tDT X.K ρ ρ' b)
abbrev AD (X : Cx) (ρ : Rho) (es : List Expr) (ρ' : Rho) (ds : List PyData) : Prop := PA X es (tDA X.K ρ ρ' ds)
section
variable {X : Cx} {e : Expr} {t t' : TE}
theorem _root_.L2.PE.weak (h : PE X e t) (k : ∀ σ H Q, t' σ H Q → t σ H Q) : PE X e t' := ⟨fun pins s σ H Q I q => h.run pins s σ H Q I (k σ H Q q)⟩
theorem _root_.L2.PT.weak {t t' : TT} (h : PT X e t) (k : ∀ σ H Q, t' σ H Q → t σ H Q) : PT X e t' := ⟨fun pins s σ H Q I q => h.run pins s σ H Q I (k σ H Q q)⟩
theorem _root_.L2.PA.weak {es : List Expr} {t t' : TA} (h : PA X es t) (k : ∀ σ H Q, t' σ H Q → t σ H Q) : PA X es t' := ⟨fun pos pins s σ H Q I q => h.run pos pins s σ H Q I (k σ H Q q)⟩
theorem _root_.L2.PSs.weak {st : List Stmt} {t t' : TS} (h : PSs X st t) (k : ∀ D σ H, t' D σ H → t D σ H) : PSs X st t' := ⟨fun pins s σ H D I q => h.run pins s σ H D I (k D σ H q)⟩
theorem _root_.L2.PS.weak {st : Stmt} {t t' : TS} (h : PS X st t) (k : ∀ D σ H, t' D σ H → t D σ H) : PS X st t' := ⟨fun pins s σ H D I q => h.run pins s σ H D I (k D σ H q)⟩
end
end Cl

set_option maxRecDepth 100000
namespace Cl
open PySem PySem.Spec PyProof.Rows L2
theorem own_id {ρ : Rho} {σ : L2.St} : ∀ q, Own ρ σ q → Own ρ σ q := fun _ h => h
theorem same_laid {F H : Hp} (s : Same F H) {p : Addr} {o : HO} : Same (upd F p o) (upd H p o) := fun b u e => by
  by_cases hb : b = p
  · subst hb
    rw [upd_same] at e ⊢
    exact e
  · rw [upd_ne hb] at e ⊢
    exact s _ _ e
section
variable {X : Cx} {ρ ρ1 ρ2 ρ3 : Rho} {a b c e : Expr} {es : List Expr} {d d1 d2 d3 : PyData} {ds : List PyData} {pos p2 : Pos} {i j : Int}

/-! ### names, constants -/
theorem e_var (n : Nat) {x : Str} (h : ρ[n]? = some (some (.dat d))) (hN : X.N[n]? = some x) (hv : Vis X.env.scope x) (hd : (x == ("__debug__" : Str)) = false := by decide) (hcd : (x == ("__classdict__" : Str)) = false := by decide) :
    ED X ρ (.Name x pos) ρ d := (pe_var hN hv hd hcd).weak fun σ H Q ⟨F, S, k⟩ => by
  obtain ⟨v, e1, e2⟩ := S.dat h
  exact ⟨v, e1, k v F H (Step.refl S) own_id e2⟩
theorem e_c {v : V} (h : PE X e (tC v)) (hd : ∀ F, Dq X.K F v d) : ED X ρ e ρ d := h.weak fun σ H Q ⟨F, S, k⟩ => k v F H (Step.refl S) own_id (hd F)
theorem e_int {j : Nat} : ED X ρ (.Constant (.int i) j pos) ρ (.int i) := e_c pe_int fun _ => .int i
theorem e_bl {b : Bool} {j : Nat} : ED X ρ (.Constant (.bool b) j pos) ρ (.bool b) := e_c pe_bl fun _ => .bl b
theorem e_non {j : Nat} : ED X ρ (.Constant .none j pos) ρ .none := e_c pe_non fun _ => .non
theorem e_str {x : Str} {j : Nat} : ED X ρ (.Constant (.str x) j pos) ρ (.str x) := e_c pe_str fun _ => .str x
theorem e_conv (h : ED X ρ e ρ1 d) (q : d = d1) : ED X ρ e ρ1 d1 := by rw [← q]; exact h
theorem t_conv {u v : Bool} (h : TD X ρ e ρ1 u) (q : u = v) : TD X ρ e ρ1 v := by rw [← q]; exact h

/-! ### two-place operators on data: nothing is made -/
theorem e_op {op : Operator} {r : R2} (ho : OpR X (binaryOp op) r) (ha : ED X ρ a ρ1 d1) (hb : ED X ρ1 b ρ2 d2)
    (hr : ∀ F H x y Q, Same F H → Dq X.K F x d1 → Dq X.K F y d2 → (∀ z, Dq X.K F z d → Q z H) → r x y H Q) : ED X ρ (.BinOp a op b pos) ρ2 d :=
  (pe_op ho ha hb).weak fun σ H Q ⟨F, S, k⟩ => ⟨F, S, fun x F1 H1 s1 o1 v1 => ⟨F1, s1.sat, fun y F2 H2 s2 o2 v2 =>
    hr F2 H2 x y Q s2.sat.sub (Dq.mono s2.fr _ v1) v2 fun z hz => k z F2 H2 (s1.trans s2) (fun q h => o1 q (o2 q h)) hz⟩⟩
theorem e_ii {op : Operator} {C : Int → Int → Prop} {g : Int → Int → V} (ho : OpR X (binaryOp op) (rI C g)) (hg : ∀ F, Dq X.K F (g i j) d) (hc : C i j) (ha : ED X ρ a ρ1 (.int i)) (hb : ED X ρ1 b ρ2 (.int j)) : ED X ρ (.BinOp a op b pos) ρ2 d :=
  e_op ho ha hb fun F H x y Q _ hx hy k => by cases hx; cases hy; exact ⟨i, j, rfl, rfl, hc, k _ (hg F)⟩
theorem e_ii0 {op : Operator} {g : Int → Int → V} (ho : OpR X (binaryOp op) (rI0 g)) (hg : ∀ F, Dq X.K F (g i j) d) (ha : ED X ρ a ρ1 (.int i)) (hb : ED X ρ1 b ρ2 (.int j)) : ED X ρ (.BinOp a op b pos) ρ2 d :=
  e_op ho ha hb fun F H x y Q _ hx hy k => by cases hx; cases hy; exact ⟨i, j, rfl, rfl, k _ (hg F)⟩
theorem e_add (ha : ED X ρ a ρ1 (.int i)) (hb : ED X ρ1 b ρ2 (.int j)) : ED X ρ (.BinOp a .Add b pos) ρ2 (.int (i + j)) := e_ii0 op_add (fun _ => .int _) ha hb
theorem e_sub (ha : ED X ρ a ρ1 (.int i)) (hb : ED X ρ1 b ρ2 (.int j)) : ED X ρ (.BinOp a .Sub b pos) ρ2 (.int (i - j)) := e_ii0 op_sub (fun _ => .int _) ha hb
theorem e_mul (hc : CMulW i j) (ha : ED X ρ a ρ1 (.int i)) (hb : ED X ρ1 b ρ2 (.int j)) : ED X ρ (.BinOp a .Mult b pos) ρ2 (.int (i * j)) := e_ii op_mulW (fun _ => .int _) hc ha hb
theorem e_fdiv (hc : CDivW i j) (ha : ED X ρ a ρ1 (.int i)) (hb : ED X ρ1 b ρ2 (.int j)) : ED X ρ (.BinOp a .FloorDiv b pos) ρ2 (.int (i / j)) := e_ii op_fdivW (fun _ => .int _) hc ha hb
theorem e_mod (hc : j ≠ 0) (ha : ED X ρ a ρ1 (.int i)) (hb : ED X ρ1 b ρ2 (.int j)) : ED X ρ (.BinOp a .Mod b pos) ρ2 (.int (i.fmod j)) := e_ii op_modN (fun _ => .int _) hc ha hb
theorem e_pow (hc : CPow i j) (ha : ED X ρ a ρ1 (.int i)) (hb : ED X ρ1 b ρ2 (.int j)) : ED X ρ (.BinOp a .Pow b pos) ρ2 (.int (i ^ j.toNat)) := e_ii op_pow (fun _ => .int _) hc ha hb
theorem e_neg (ha : ED X ρ a ρ1 (.int i)) : ED X ρ (.UnaryOp .USub a pos) ρ1 (.int (-i)) := (pe_un un_neg ha).weak fun σ H Q ⟨F, S, k⟩ => ⟨F, S, fun x F1 H1 s1 o1 v1 => by
  have q : Dq X.K F1 x (.int i) := v1
  cases q
  exact ⟨i, rfl, k _ F1 H1 s1 o1 (.int _)⟩⟩

/-! ### comparisons -/
theorem e_cmp {op : CmpOp} {r : R2} (ho : OpR X (compareOp op) r) (ha : ED X ρ a ρ1 d1) (hb : ED X ρ1 b ρ2 d2) (hm : behindInMarks op b = false)
    (hr : ∀ F H x y Q, Same F H → Dq X.K F x d1 → Dq X.K F y d2 → (∀ z, Dq X.K F z d → Q z H) → r x y H Q) : ED X ρ (.Compare a [op] [b] pos) ρ2 d :=
  (pe_cmpR ho ha hb hm).weak fun σ H Q ⟨F, S, k⟩ => ⟨F, S, fun x F1 H1 s1 o1 v1 => ⟨F1, s1.sat, fun y F2 H2 s2 o2 v2 =>
    hr F2 H2 x y Q s2.sat.sub (Dq.mono s2.fr _ v1) v2 fun z hz => k z F2 H2 (s1.trans s2) (fun q h => o1 q (o2 q h)) hz⟩⟩
theorem t_cmp {op : CmpOp} {r : R2} {u : Bool} (ho : OpR X (compareOp op) r) (ha : ED X ρ a ρ1 d1) (hb : ED X ρ1 b ρ2 d2) (hm : behindInMarks op b = false)
    (hr : ∀ F H x y Q, Same F H → Dq X.K F x d1 → Dq X.K F y d2 → Q (.bl u) H → r x y H Q) : TD X ρ (.Compare a [op] [b] pos) ρ2 u :=
  (pt_cmpR ho ha hb hm).weak fun σ H Q ⟨F, S, k⟩ => ⟨F, S, fun x F1 H1 s1 o1 v1 => ⟨F1, s1.sat, fun y F2 H2 s2 o2 v2 =>
    hr F2 H2 x y _ s2.sat.sub (Dq.mono s2.fr _ v1) v2 ⟨u, rfl, k F2 H2 (s1.trans s2) (fun q h => o1 q (o2 q h))⟩⟩⟩
/-- what a comparison of data gives -/
structure CmpD (X : Cx) (op : CmpOp) (d1 d2 : PyData) (u : Bool) : Prop where
  ex : ∃ r, OpR X (compareOp op) r ∧ ∀ F H x y (Q : VK), Same F H → Dq X.K F x d1 → Dq X.K F y d2 → Q (.bl u) H → r x y H Q
theorem c_ii {op : CmpOp} {g : Int → Int → Bool} (ho : OpR X (compareOp op) (rI0 fun i j => .bl (g i j))) : CmpD X op (.int i) (.int j) (g i j) :=
  ⟨_, ho, fun F H x y Q _ hx hy k => by cases hx; cases hy; exact ⟨i, j, rfl, rfl, k⟩⟩
theorem c_lt : CmpD X .Lt (.int i) (.int j) (decide (i < j)) := c_ii (g := fun i j => decide (i < j)) op_lt
theorem c_le : CmpD X .LtE (.int i) (.int j) (decide (i ≤ j)) := c_ii (g := fun i j => decide (i ≤ j)) op_le
theorem c_gt : CmpD X .Gt (.int i) (.int j) (decide (j < i)) := c_ii (g := fun i j => decide (j < i)) op_gt
theorem c_ge : CmpD X .GtE (.int i) (.int j) (decide (j ≤ i)) := c_ii (g := fun i j => decide (j ≤ i)) op_ge
theorem c_eqI : CmpD X .Eq (.int i) (.int j) (decide (i = j)) := ⟨_, op_eq, fun F H x y Q _ hx hy k => by
  cases hx; cases hy
  refine ⟨rfl, ?_⟩
  have z : decide ((V.int i) = V.int j) = decide (i = j) := by
    by_cases h : i = j
    · subst h; simp
    · rw [decide_eq_false h, decide_eq_false fun q => h (V.int.inj q)]
  rw [z]
  exact k⟩
theorem c_neI : CmpD X .NotEq (.int i) (.int j) (!decide (i = j)) := ⟨_, op_ne, fun F H x y Q _ hx hy k => by
  cases hx; cases hy
  refine ⟨rfl, ?_⟩
  have z : decide ((V.int i) = V.int j) = decide (i = j) := by
    by_cases h : i = j
    · subst h; simp
    · rw [decide_eq_false h, decide_eq_false fun q => h (V.int.inj q)]
  rw [z]
  exact k⟩
theorem c_eqS {x y : Str} : CmpD X .Eq (.str x) (.str y) (decide (x = y)) := ⟨_, op_eq, fun F H u v Q _ hx hy k => by
  cases hx; cases hy
  refine ⟨rfl, ?_⟩
  have z : decide ((V.str x) = V.str y) = decide (x = y) := by
    by_cases h : x = y
    · subst h; simp
    · rw [decide_eq_false h, decide_eq_false fun q => h (V.str.inj q)]
  rw [z]
  exact k⟩
theorem c_neS {x y : Str} : CmpD X .NotEq (.str x) (.str y) (!decide (x = y)) := ⟨_, op_ne, fun F H u v Q _ hx hy k => by
  cases hx; cases hy
  refine ⟨rfl, ?_⟩
  have z : decide ((V.str x) = V.str y) = decide (x = y) := by
    by_cases h : x = y
    · subst h; simp
    · rw [decide_eq_false h, decide_eq_false fun q => h (V.str.inj q)]
  rw [z]
  exact k⟩
theorem op_eqQ (hu : X.A.units + 64 < cLine) : OpR X (compareOp .Eq) (fun x y H Q => ∃ d e, Dq X.K H x d ∧ Dq X.K H y e ∧ SeqAt.shaped d = true ∧ SeqAt.shaped e = true ∧ Q (.bl (PyData.eqv d e)) H) := by
  intro pins s σ H x y v u Q I rx ry h
  obtain ⟨d, e, hd, he, sd, se, q⟩ := h
  obtain ⟨_, r1⟩ := Dq.rd I d x v hd rx
  obtain ⟨_, r2⟩ := Dq.rd I e y u he ry
  exact SeqAt.compareEq_shaped r1 r2 sd se hu ⟨.bl _, H, I, rfl, q⟩
theorem op_neQ (hu : X.A.units + 64 < cLine) : OpR X (compareOp .NotEq) (fun x y H Q => ∃ d e, Dq X.K H x d ∧ Dq X.K H y e ∧ SeqAt.shaped d = true ∧ SeqAt.shaped e = true ∧ Q (.bl (!PyData.eqv d e)) H) := by
  intro pins s σ H x y v u Q I rx ry h
  obtain ⟨d, e, hd, he, sd, se, q⟩ := h
  obtain ⟨_, r1⟩ := Dq.rd I d x v hd rx
  obtain ⟨_, r2⟩ := Dq.rd I e y u he ry
  exact SeqAt.compareNe_shaped r1 r2 sd se hu ⟨.bl _, H, I, rfl, q⟩
theorem c_eqQ (hu : X.A.units + 64 < cLine) (s1 : SeqAt.shaped d1 = true) (s2 : SeqAt.shaped d2 = true) : CmpD X .Eq d1 d2 (PyData.eqv d1 d2) :=
  ⟨_, op_eqQ hu, fun F H x y Q s hx hy k => ⟨d1, d2, hx.mono s, hy.mono s, s1, s2, k⟩⟩
theorem c_neQ (hu : X.A.units + 64 < cLine) (s1 : SeqAt.shaped d1 = true) (s2 : SeqAt.shaped d2 = true) : CmpD X .NotEq d1 d2 (!PyData.eqv d1 d2) :=
  ⟨_, op_neQ hu, fun F H x y Q s hx hy k => ⟨d1, d2, hx.mono s, hy.mono s, s1, s2, k⟩⟩
theorem e_cm {op : CmpOp} {u : Bool} (hc : CmpD X op d1 d2 u) (ha : ED X ρ a ρ1 d1) (hb : ED X ρ1 b ρ2 d2) (hm : behindInMarks op b = false) : ED X ρ (.Compare a [op] [b] pos) ρ2 (.bool u) := by
  obtain ⟨r, ho, hr⟩ := hc.ex
  exact e_cmp ho ha hb hm fun F H x y Q s hx hy k => hr F H x y Q s hx hy (k _ (.bl u))
theorem t_cm {op : CmpOp} {u : Bool} (hc : CmpD X op d1 d2 u) (ha : ED X ρ a ρ1 d1) (hb : ED X ρ1 b ρ2 d2) (hm : behindInMarks op b = false) : TD X ρ (.Compare a [op] [b] pos) ρ2 u := by
  obtain ⟨r, ho, hr⟩ := hc.ex
  exact t_cmp ho ha hb hm hr
/-- a test by a value that is a bool -/
theorem t_val {u : Bool} (h : ED X ρ e ρ1 (.bool u)) (he : ∀ whole, isTrue e X.env whole = (do let v ← whole; standAt e.pos; holding [v] (truthy v)) := by intro _; rfl) : TD X ρ e ρ1 u :=
  (pt_val h he).weak fun σ H Q ⟨F, S, k⟩ => ⟨F, S, fun x F1 H1 s1 o1 v1 => by
    have q : Dq X.K F1 x (.bool u) := v1
    cases q
    exact ⟨u, rfl, k F1 H1 s1 o1⟩⟩
theorem t_not {u : Bool} (h : TD X ρ e ρ1 u) : TD X ρ (.UnaryOp .Not e pos) ρ1 (!u) := (pt_not h).weak fun σ H Q ⟨F, S, k⟩ => ⟨F, S, fun F1 H1 s1 o1 => k F1 H1 s1 o1⟩
theorem e_not {u : Bool} (h : ED X ρ e ρ1 (.bool u)) : ED X ρ (.UnaryOp .Not e pos) ρ1 (.bool (!u)) := (pe_not h).weak fun σ H Q ⟨F, S, k⟩ => ⟨F, S, fun x F1 H1 s1 o1 v1 => by
  have q : Dq X.K F1 x (.bool u) := v1
  cases q
  exact ⟨u, rfl, k _ F1 H1 s1 o1 (.bl _)⟩⟩
end
end Cl

set_option maxRecDepth 100000
namespace Cl
open PySem PySem.Spec PyProof.Rows L2
theorem _root_.L2.PW.weak {X : Cx} {e : Expr} {t t' : TT} (h : PW X e t) (k : ∀ σ H Q, t' σ H Q → t σ H Q) : PW X e t' := ⟨fun wh pins s σ H Q I q => h.run wh pins s σ H Q I (k σ H Q q)⟩
abbrev WD (X : Cx) (ρ : Rho) (e : Expr) (ρ' : Rho) (b : Bool) : Prop := PW X e (tDT X.K ρ ρ' b)
theorem pe_void {X : Cx} {e : Expr} : PE X e (fun _ _ _ => False) := ⟨fun _ _ _ _ _ _ h => h.elim⟩
theorem pt_void {X : Cx} {e : Expr} : PT X e (fun _ _ _ => False) := ⟨fun _ _ _ _ _ _ h => h.elim⟩
theorem pw_void {X : Cx} {e : Expr} : PW X e (fun _ _ _ => False) := ⟨fun _ _ _ _ _ _ _ h => h.elim⟩
section
variable {X : Cx} {ρ ρ1 ρ2 ρ3 : Rho} {a b c e : Expr} {es rest : List Expr} {d d1 d2 d3 : PyData} {ds ds1 ds2 : List PyData} {pos p2 : Pos} {i j : Int} {u v : Bool}

/-! ### and, or, if -/
theorem w_and1 (h : TD X ρ a ρ1 u) : WD X ρ (.BoolOp .And [a] pos) ρ1 u := pw_and1 h
theorem w_or1 (h : TD X ρ a ρ1 u) : WD X ρ (.BoolOp .Or [a] pos) ρ1 u := pw_or1 h
theorem w_and (ha : TD X ρ a ρ1 u) (hb : u = true → WD X ρ1 (.BoolOp .And (b :: rest) pos) ρ2 v) (h0 : u = false → ρ2 = ρ1 := by first | (intro _; rfl) | (intro h; cases h)) : WD X ρ (.BoolOp .And (a :: b :: rest) pos) ρ2 (u && v) := by
  cases u with
  | true =>
    refine (pw_and ha (hb rfl)).weak fun σ H Q ⟨F, S, k⟩ => ⟨F, S, fun F1 H1 s1 o1 => ?_⟩
    exact iteT ⟨F1, s1.sat, fun F2 H2 s2 o2 => k F2 H2 (s1.trans s2) fun q h => o1 q (o2 q h)⟩
  | false =>
    have e := h0 rfl
    subst e
    exact (pw_and ha pw_void).weak fun σ H Q ⟨F, S, k⟩ => ⟨F, S, fun F1 H1 s1 o1 => iteF (k F1 H1 s1 o1)⟩
theorem w_or (ha : TD X ρ a ρ1 u) (hb : u = false → WD X ρ1 (.BoolOp .Or (b :: rest) pos) ρ2 v) (h0 : u = true → ρ2 = ρ1 := by first | (intro _; rfl) | (intro h; cases h)) : WD X ρ (.BoolOp .Or (a :: b :: rest) pos) ρ2 (u || v) := by
  cases u with
  | false =>
    refine (pw_or ha (hb rfl)).weak fun σ H Q ⟨F, S, k⟩ => ⟨F, S, fun F1 H1 s1 o1 => ?_⟩
    exact iteF ⟨F1, s1.sat, fun F2 H2 s2 o2 => k F2 H2 (s1.trans s2) fun q h => o1 q (o2 q h)⟩
  | true =>
    have e := h0 rfl
    subst e
    exact (pw_or ha pw_void).weak fun σ H Q ⟨F, S, k⟩ => ⟨F, S, fun F1 H1 s1 o1 => iteT (k F1 H1 s1 o1)⟩
theorem t_w (h : WD X ρ e ρ1 u) : TD X ρ e ρ1 u := h.pt
theorem e_one {op : BoolOp} (h : ED X ρ a ρ1 d) : ED X ρ (.BoolOp op [a] pos) ρ1 d := pe_one h
theorem e_and (ha : ED X ρ a ρ1 (.bool u)) (hb : u = true → ED X ρ1 (.BoolOp .And (b :: rest) pos) ρ2 (.bool v)) (h0 : u = false → ρ2 = ρ1 := by first | (intro _; rfl) | (intro h; cases h)) : ED X ρ (.BoolOp .And (a :: b :: rest) pos) ρ2 (.bool (u && v)) := by
  cases u with
  | true =>
    refine (pe_and ha (hb rfl)).weak fun σ H Q ⟨F, S, k⟩ => ⟨F, S, fun x F1 H1 s1 o1 v1 => ?_⟩
    have q : Dq X.K F1 x (.bool true) := v1
    cases q
    exact ⟨true, rfl, iteT ⟨F1, s1.sat, fun y F2 H2 s2 o2 v2 => k y F2 H2 (s1.trans s2) (fun q h => o1 q (o2 q h)) v2⟩⟩
  | false =>
    have e := h0 rfl
    subst e
    refine (pe_and ha pe_void).weak fun σ H Q ⟨F, S, k⟩ => ⟨F, S, fun x F1 H1 s1 o1 v1 => ?_⟩
    have q : Dq X.K F1 x (.bool false) := v1
    cases q
    exact ⟨false, rfl, iteF (k _ F1 H1 s1 o1 (.bl _))⟩
theorem e_or (ha : ED X ρ a ρ1 (.bool u)) (hb : u = false → ED X ρ1 (.BoolOp .Or (b :: rest) pos) ρ2 (.bool v)) (h0 : u = true → ρ2 = ρ1 := by first | (intro _; rfl) | (intro h; cases h)) : ED X ρ (.BoolOp .Or (a :: b :: rest) pos) ρ2 (.bool (u || v)) := by
  cases u with
  | false =>
    refine (pe_or ha (hb rfl)).weak fun σ H Q ⟨F, S, k⟩ => ⟨F, S, fun x F1 H1 s1 o1 v1 => ?_⟩
    have q : Dq X.K F1 x (.bool false) := v1
    cases q
    exact ⟨false, rfl, iteF ⟨F1, s1.sat, fun y F2 H2 s2 o2 v2 => k y F2 H2 (s1.trans s2) (fun q h => o1 q (o2 q h)) v2⟩⟩
  | true =>
    have e := h0 rfl
    subst e
    refine (pe_or ha pe_void).weak fun σ H Q ⟨F, S, k⟩ => ⟨F, S, fun x F1 H1 s1 o1 v1 => ?_⟩
    have q : Dq X.K F1 x (.bool true) := v1
    cases q
    exact ⟨true, rfl, iteT (k _ F1 H1 s1 o1 (.bl _))⟩
/-- a if c else b -/
theorem e_if (hc : TD X ρ c ρ1 u) (ha : u = true → ED X ρ1 a ρ2 d) (hb : u = false → ED X ρ1 b ρ2 d) : ED X ρ (.IfExp c a b pos) ρ2 d := by
  cases u with
  | true =>
    refine (pe_ifExp hc (ha rfl) pe_void).weak fun σ H Q ⟨F, S, k⟩ => ⟨F, S, fun F1 H1 s1 o1 => iteT ⟨F1, s1.sat, fun y F2 H2 s2 o2 v2 => k y F2 H2 (s1.trans s2) (fun q h => o1 q (o2 q h)) v2⟩⟩
  | false =>
    refine (pe_ifExp hc pe_void (hb rfl)).weak fun σ H Q ⟨F, S, k⟩ => ⟨F, S, fun F1 H1 s1 o1 => iteF ⟨F1, s1.sat, fun y F2 H2 s2 o2 v2 => k y F2 H2 (s1.trans s2) (fun q h => o1 q (o2 q h)) v2⟩⟩

/-! ### arguments, displays -/
theorem a_nil : AD X ρ [] ρ [] := pa_nil.weak fun σ H Q ⟨F, S, k⟩ => k [] F H (Step.refl S) own_id .nil
theorem a_cons (h : ED X ρ e ρ1 d) (t : AD X ρ1 es ρ2 ds) (hs : starEach (e :: es) X.env = (false, eval e X.env) :: starEach es X.env := by rfl) : AD X ρ (e :: es) ρ2 (d :: ds) :=
  (pa_cons h t hs).weak fun σ H Q ⟨F, S, k⟩ => ⟨F, S, fun x F1 H1 s1 o1 v1 => ⟨F1, s1.sat, fun vs F2 H2 s2 o2 v2 => k _ F2 H2 (s1.trans s2) (fun q h => o1 q (o2 q h)) (.cons (Dq.mono s2.fr _ v1) v2)⟩⟩
theorem e_tup {k : Nat} (h : AD X ρ es ρ1 ds) (hz : ds.length ≤ 1000000 := by exact Nat.le_of_ble_eq_true rfl) : ED X ρ (.Tuple es k pos) ρ1 (.tuple ds) :=
  (pe_tup h).weak fun σ H Q ⟨F, S, k⟩ => ⟨F, S, fun vs F1 H1 s1 o1 v1 => ⟨by rw [v1.length]; exact Nat.le_trans hz (by decide), fun p hp => by
    have st := s1.trans (Step.laid s1.sat (o := .tup vs) hp)
    exact k _ _ _ st o1 (.tup (.inl (.inl upd_same)) (DqA.mono (same_upd (s1.sat.sub.free hp)) _ v1))⟩⟩
theorem e_lst (h : AD X ρ es ρ1 ds) (hz : ds.length ≤ 1000000 := by exact Nat.le_of_ble_eq_true rfl) : ED X ρ (.List es pos) ρ1 (.list ds) :=
  (pe_lst h).weak fun σ H Q ⟨F, S, k⟩ => ⟨F, S, fun vs F1 H1 s1 o1 v1 => ⟨by rw [v1.length]; exact Nat.le_trans hz (by decide), fun p hp => by
    have st := s1.trans (Step.laid s1.sat (o := .lst vs) hp)
    exact k _ _ _ st o1 (.lst upd_same (DqA.mono (same_upd (s1.sat.sub.free hp)) _ v1))⟩⟩
/-- fresh behind a step is fresh ahead of it -/
theorem Step.fresh {K : PySem.W.Frag} {F F' H H' : Hp} {ρ' : Rho} {σ σ' : L2.St} (s : Step K ρ σ F H ρ' σ' F' H') {p : Addr} (hp : H' p = none) : H p = none ∧ ¬ Own ρ' σ' p := by
  have no : ¬ Own ρ' σ' p := fun z => (s.sat.ownF z).2 hp
  refine ⟨?_, no⟩
  cases e : H p with
  | none => rfl
  | some o => exact absurd hp (s.live p (by rw [e]; simp))
/-- a new list, held alone -/
theorem o_lst (h : AD X ρ es ρ1 ds) (hz : ds.length ≤ 1000000 := by exact Nat.le_of_ble_eq_true rfl) : EO X ρ (.List es pos) ρ1 ds :=
  (pe_lst h).weak fun σ H Q ⟨F, S, k⟩ => ⟨F, S, fun vs F1 H1 s1 o1 v1 => ⟨by rw [v1.length]; exact Nat.le_trans hz (by decide), fun p hp => by
    have st := s1.trans (Step.laidM s1.sat (o := .lst vs) hp)
    exact k _ _ _ st o1 ⟨p, .lst vs, rfl, ⟨.inl (s1.fresh hp).1, (s1.fresh hp).2⟩, s1.sat.sub.free hp, upd_same, v1⟩⟩⟩
/-- a value that came as one's own is data from now on -/
theorem Step.freeze {K : PySem.W.Frag} {F F' H H' : Hp} {ρ' : Rho} {σ σ' : L2.St} (s : Step K ρ σ F H ρ' σ' F' H') {p : Addr} {o : HO} (h1 : H p = none ∨ Own ρ σ p) (h2 : ¬ Own ρ' σ' p) (h3 : F' p = none) (h4 : H' p = some o) : Step K ρ σ F H ρ' σ' (upd F' p o) H' := by
  have e : Same F' (upd F' p o) := same_upd h3
  refine ⟨s.fr.trans e, fun q a b c => ?_, s.keep, s.live, ⟨s.sat.len, fun b u z => ?_, fun i c x a b => ?_, s.sat.inj⟩, s.own⟩
  · have : q ≠ p := fun z => by
      subst z
      rcases h1 with y | y
      · exact b y
      · exact c y
    rw [upd_ne this]
    exact s.new q a b c
  · by_cases hb : b = p
    · subst hb
      rw [upd_same] at z
      rw [h4]
      exact z
    · rw [upd_ne hb] at z
      exact s.sat.sub _ _ z
  · have q := s.sat.slot i c x a b
    cases c with
    | none => trivial
    | some c =>
      cases c with
      | dat d =>
        obtain ⟨v, q1, q2⟩ := q
        exact ⟨v, q1, q2.mono e⟩
      | own m =>
        obtain ⟨r, u, q1, q2, q3, q4⟩ := q
        have : r ≠ p := fun z => h2 ⟨i, _, m, a, rfl, by rw [b, q1, z]⟩
        exact ⟨r, u, q1, by rw [upd_ne this]; exact q2, q3, q4.mono e⟩
      | bor r m =>
        obtain ⟨u, q1, q2, q3, q4⟩ := q
        have : r ≠ p := fun z => h2 ⟨i, _, m, a, rfl, by rw [b, q1, z]⟩
        exact ⟨u, q1, by rw [upd_ne this]; exact q2, q3, q4.mono e⟩
      | scr ns =>
        obtain ⟨r, q1, q2⟩ := q
        exact ⟨r, q1, e.seq q2⟩
theorem e_own {l : List PyData} (h : EO X ρ e ρ1 l) : ED X ρ e ρ1 (.list l) := h.weak fun σ H Q ⟨F, S, k⟩ => ⟨F, S, fun v F1 H1 s1 o1 ⟨p, o, e1, ⟨e2, e3⟩, e4, e5, e6⟩ => by
  cases o with
  | lst xs =>
    subst e1
    exact k _ _ _ (s1.freeze e2 e3 e4 e5) o1 (.lst upd_same (DqA.mono (same_upd e4) _ e6))
  | _ => exact e6.elim⟩

/-! ### places -/
theorem DqA.atI {K : PySem.W.Frag} {F : Hp} {vs : List V} {i : Int} (h : DqA K F vs ds) (e : atI ds i = some d) : ∃ v, L2.atI vs i = some v ∧ Dq K F v d := by
  unfold L2.atI at e ⊢
  rw [h.length]
  cases q : ixN ds.length i with
  | none => rw [q] at e; cases e
  | some j =>
    rw [q] at e
    exact h.get' e
theorem e_ixL (ha : ED X ρ a ρ1 (.list ds)) (hb : ED X ρ1 b ρ2 (.int i)) (hi : atI ds i = some d) (hs : PlainIx b := by intro _ _; rfl) : ED X ρ (.Subscript a b pos) ρ2 d :=
  (pe_ix ix_list ha hb hs).weak fun σ H Q ⟨F, S, k⟩ => ⟨F, S, fun x F1 H1 s1 o1 v1 => ⟨F1, s1.sat, fun y F2 H2 s2 o2 v2 => by
    have v3 := Dq.mono s2.fr _ v1
    have v4 : Dq X.K F2 y (.int i) := v2
    cases v4
    cases v3 with
    | lst hs ha =>
      obtain ⟨v, q1, q2⟩ := ha.atI hi
      exact ⟨_, _, i, v, rfl, rfl, .inl (.inl (s2.sat.sub _ _ hs)), q1, k v F2 H2 (s1.trans s2) (fun q h => o1 q (o2 q h)) q2⟩⟩⟩
theorem e_ixT (ha : ED X ρ a ρ1 (.tuple ds)) (hb : ED X ρ1 b ρ2 (.int i)) (hi : atI ds i = some d) (hs : PlainIx b := by intro _ _; rfl) : ED X ρ (.Subscript a b pos) ρ2 d :=
  (pe_ix ix_tup ha hb hs).weak fun σ H Q ⟨F, S, k⟩ => ⟨F, S, fun x F1 H1 s1 o1 v1 => ⟨F1, s1.sat, fun y F2 H2 s2 o2 v2 => by
    have v3 := Dq.mono s2.fr _ v1
    have v4 : Dq X.K F2 y (.int i) := v2
    cases v4
    cases v3 with
    | tup hs ha =>
      obtain ⟨v, q1, q2⟩ := ha.atI hi
      exact ⟨_, _, i, v, rfl, rfl, sqT_same s2.sat.sub hs, q1, k v F2 H2 (s1.trans s2) (fun q h => o1 q (o2 q h)) q2⟩⟩⟩
/-- a place of a list that a name holds alone -/
theorem e_ixO (n : Nat) {x : Str} {cc : Cell} {l : List PyData} (h : ρ[n]? = some (some cc)) (hm : cc.mu = some (.lst l)) (hN : X.N[n]? = some x) (hv : Vis X.env.scope x) (hb : ED X ρ b ρ (.int i)) (hi : atI l i = some d) (hs : PlainIx b := by intro _ _; rfl)
    (hd : (x == ("__debug__" : Str)) = false := by decide) (hcd : (x == ("__classdict__" : Str)) = false := by decide) : ED X ρ (.Subscript (.Name x p2) b pos) ρ d :=
  (pe_ix ix_list (pe_var hN hv hd hcd) hb hs).weak fun σ H Q ⟨F, S, k⟩ => by
    obtain ⟨p, o, e1, e2, e3, e4⟩ := S.held h hm
    refine ⟨_, e1, F, S, fun y F2 H2 s2 o2 v2 => ?_⟩
    have v4 : Dq X.K F2 y (.int i) := v2
    cases v4
    obtain ⟨p', o', f1, f2, f3, f4⟩ := s2.sat.held h hm
    rw [e1] at f1
    cases f1
    cases o' with
    | lst xs =>
      obtain ⟨v, q1, q2⟩ := DqA.atI f4 hi
      exact ⟨p, xs, i, v, rfl, rfl, .inl (.inl f3), q1, k v F2 H2 s2 o2 q2⟩
    | _ => exact f4.elim
/-- a place of the script -/
theorem e_ixS (n : Nat) {x : Str} {ns : List Int} {m : Int} (h : ρ[n]? = some (some (.scr ns))) (hN : X.N[n]? = some x) (hv : Vis X.env.scope x) (hb : ED X ρ b ρ (.int i)) (hi : atI ns i = some m) (hs : PlainIx b := by intro _ _; rfl)
    (hd : (x == ("__debug__" : Str)) = false := by decide) (hcd : (x == ("__classdict__" : Str)) = false := by decide) : ED X ρ (.Subscript (.Name x p2) b pos) ρ (.int m) :=
  (pe_ix ix_list (pe_var hN hv hd hcd) hb hs).weak fun σ H Q ⟨F, S, k⟩ => by
    obtain ⟨p, e1, e2⟩ := S.scr h
    refine ⟨_, e1, F, S, fun y F2 H2 s2 o2 v2 => ?_⟩
    have v4 : Dq X.K F2 y (.int i) := v2
    cases v4
    refine ⟨p, ns.map V.int, i, .int m, rfl, rfl, (s2.fr.trans s2.sat.sub).seq e2, ?_, k _ F2 H2 s2 o2 (.int m)⟩
    unfold L2.atI at hi ⊢
    rw [List.length_map]
    cases q : ixN ns.length i with
    | none => rw [q] at hi; cases hi
    | some j =>
      rw [q] at hi
      have hi' : ns[j]? = some m := hi
      show (ns.map V.int)[j]? = some (.int m)
      rw [List.getElem?_map, hi']
      rfl

/-! ### slices -/
def cutD (ds : List PyData) (lo hi : Option Int) : List PyData := (ds.drop (HT.sIx ds.length 0 lo)).take (HT.sIx ds.length ds.length hi - HT.sIx ds.length 0 lo)
def tDO (K : PySem.W.Frag) (ρ ρ' : Rho) (o : Option Int) : TO := fun σ H Q => ∃ F, Sat K F ρ σ H ∧ ∀ F' H', Step K ρ σ F H ρ' σ F' H' → (∀ q, Own ρ' σ q → Own ρ σ q) → Q o H'
abbrev OD (X : Cx) (ρ : Rho) (o : Option Expr) (ρ' : Rho) (n : Option Int) : Prop := PO X o (tDO X.K ρ ρ' n)
theorem _root_.L2.PO.weak {o : Option Expr} {t t' : TO} (h : PO X o t) (k : ∀ σ H Q, t' σ H Q → t σ H Q) : PO X o t' := ⟨fun pins s σ H Q I q => h.run pins s σ H Q I (k σ H Q q)⟩
theorem o_none : OD X ρ none ρ none := po_none.weak fun σ H Q ⟨F, S, k⟩ => k F H (Step.refl S) own_id
theorem o_some (h : ED X ρ e ρ1 (.int i)) : OD X ρ (some e) ρ1 (some i) := (po_some h).weak fun σ H Q ⟨F, S, k⟩ => ⟨F, S, fun x F1 H1 s1 o1 v1 => by
  have q : Dq X.K F1 x (.int i) := v1
  cases q
  exact ⟨i, rfl, k F1 H1 s1 o1⟩⟩
theorem DqA.cut {K : PySem.W.Frag} {F : Hp} {vs : List V} (h : DqA K F vs ds) (lo hi : Option Int) : DqA K F (cutV vs lo hi) (cutD ds lo hi) := by
  unfold cutV cutD
  rw [h.length]
  exact (h.drop _).take _
theorem e_slL {lo hi : Option Expr} {m n : Option Int} (ha : ED X ρ a ρ1 (.list ds)) (hl : OD X ρ1 lo ρ2 m) (hh : OD X ρ2 hi ρ3 n) : ED X ρ (.Subscript a (.Slice lo hi none p2) pos) ρ3 (.list (cutD ds m n)) :=
  (pe_slice sl_list ha hl hh).weak fun σ H Q ⟨F, S, k⟩ => ⟨F, S, fun x F1 H1 s1 o1 v1 => ⟨F1, s1.sat, fun F2 H2 s2 o2 => ⟨F2, s2.sat, fun F3 H3 s3 o3 => by
    have v3 := Dq.mono (s2.fr.trans s3.fr) _ v1
    cases v3 with
    | lst hs ha =>
      refine ⟨_, _, rfl, .inl (.inl (s3.sat.sub _ _ hs)), fun p hp => ?_⟩
      exact k _ _ _ (Step.trans ((s1.trans s2).trans s3) (Step.laid s3.sat hp)) (fun q h => o1 q (o2 q (o3 q h))) (.lst upd_same (DqA.mono (same_upd (s3.sat.sub.free hp)) _ (ha.cut m n)))⟩⟩⟩
theorem e_slLc {lo hi : Option Expr} {m n : Option Int} {l : List PyData} (ha : ED X ρ a ρ1 (.list ds)) (hl : OD X ρ1 lo ρ2 m) (hh : OD X ρ2 hi ρ3 n) (h : cutD ds m n = l) : ED X ρ (.Subscript a (.Slice lo hi none p2) pos) ρ3 (.list l) := by
  rw [← h]
  exact e_slL ha hl hh
theorem cutV_whole {xs : List V} {m n : Option Int} (h : HT.sIx xs.length 0 m = 0 ∧ HT.sIx xs.length xs.length n = xs.length) : cutV xs m n = xs := by
  unfold cutV
  rw [h.1, h.2]
  simp
theorem e_slT {lo hi : Option Expr} {m n : Option Int} (ha : ED X ρ a ρ1 (.tuple ds)) (hl : OD X ρ1 lo ρ2 m) (hh : OD X ρ2 hi ρ3 n) : ED X ρ (.Subscript a (.Slice lo hi none p2) pos) ρ3 (.tuple (cutD ds m n)) :=
  (pe_slice sl_tupA ha hl hh).weak fun σ H Q ⟨F, S, k⟩ => ⟨F, S, fun x F1 H1 s1 o1 v1 => ⟨F1, s1.sat, fun F2 H2 s2 o2 => ⟨F2, s2.sat, fun F3 H3 s3 o3 => by
    have v3 := Dq.mono (s2.fr.trans s3.fr) _ v1
    cases v3 with
    | tup hs ha =>
      refine ⟨_, _, rfl, sqT_same s3.sat.sub hs, fun z => ?_, fun z p hp => ?_⟩
      · refine k _ _ _ ((s1.trans s2).trans s3) (fun q h => o1 q (o2 q (o3 q h))) (.tup hs ?_)
        have q := ha.cut m n
        rw [cutV_whole z] at q
        exact q
      · exact k _ _ _ (Step.trans ((s1.trans s2).trans s3) (Step.laid s3.sat hp)) (fun q h => o1 q (o2 q (o3 q h))) (.tup (.inl (.inl upd_same)) (DqA.mono (same_upd (s3.sat.sub.free hp)) _ (ha.cut m n)))⟩⟩⟩

/-! ### list + list, tuple + tuple, times -/
theorem e_catL (ha : ED X ρ a ρ1 (.list ds1)) (hb : ED X ρ1 b ρ2 (.list ds2)) (hz : ds1.length + ds2.length ≤ 1000000) : ED X ρ (.BinOp a .Add b pos) ρ2 (.list (ds1 ++ ds2)) :=
  (pe_op op_cat ha hb).weak fun σ H Q ⟨F, S, k⟩ => ⟨F, S, fun x F1 H1 s1 o1 v1 => ⟨F1, s1.sat, fun y F2 H2 s2 o2 v2 => by
    have v3 := Dq.mono s2.fr _ v1
    have v4 : Dq X.K F2 y (.list ds2) := v2
    cases v3 with
    | lst hs ha =>
      cases v4 with
      | lst hs' ha' =>
        refine ⟨_, _, _, _, rfl, rfl, s2.sat.sub _ _ hs, s2.sat.sub _ _ hs', by rw [ha.length, ha'.length]; exact Nat.le_trans hz (by decide), fun p hp => ?_⟩
        exact k _ _ _ (Step.trans (s1.trans s2) (Step.laid s2.sat hp)) (fun q h => o1 q (o2 q h)) (.lst upd_same (DqA.mono (same_upd (s2.sat.sub.free hp)) _ (ha.append ha')))⟩⟩
theorem e_catT (ha : ED X ρ a ρ1 (.tuple ds1)) (hb : ED X ρ1 b ρ2 (.tuple ds2)) (hz : ds1.length + ds2.length ≤ 1000000) : ED X ρ (.BinOp a .Add b pos) ρ2 (.tuple (ds1 ++ ds2)) :=
  (pe_op op_catA ha hb).weak fun σ H Q ⟨F, S, k⟩ => ⟨F, S, fun x F1 H1 s1 o1 v1 => ⟨F1, s1.sat, fun y F2 H2 s2 o2 v2 => by
    have v3 := Dq.mono s2.fr _ v1
    have v4 : Dq X.K F2 y (.tuple ds2) := v2
    have oo : ∀ q, Own ρ2 σ q → Own ρ σ q := fun q h => o1 q (o2 q h)
    cases v3 with
    | tup hs ha =>
      cases v4 with
      | tup hs' ha' =>
        refine ⟨_, _, _, _, rfl, rfl, sqT_same s2.sat.sub hs, sqT_same s2.sat.sub hs', by rw [ha.length, ha'.length]; exact Nat.le_trans hz (by decide), fun z => ?_, fun _ z => ?_, fun _ _ p hp => ?_⟩
        · subst z
          cases ha
          exact k _ _ _ (s1.trans s2) oo (.tup hs' ha')
        · subst z
          cases ha'
          exact k _ _ _ (s1.trans s2) oo (.tup hs (by rw [List.append_nil]; exact ha))
        · exact k _ _ _ (Step.trans (s1.trans s2) (Step.laid s2.sat hp)) oo (.tup (.inl (.inl upd_same)) (DqA.mono (same_upd (s2.sat.sub.free hp)) _ (ha.append ha')))⟩⟩
theorem e_repL (ha : ED X ρ a ρ1 (.list ds)) (hb : ED X ρ1 b ρ2 (.int i)) (h1 : -(2 ^ 63) ≤ i) (h2 : i < 2 ^ 63) (hz : ds.length * i.toNat ≤ 1000000) : ED X ρ (.BinOp a .Mult b pos) ρ2 (.list (List.replicate i.toNat ds).flatten) :=
  (pe_op op_rep ha hb).weak fun σ H Q ⟨F, S, k⟩ => ⟨F, S, fun x F1 H1 s1 o1 v1 => ⟨F1, s1.sat, fun y F2 H2 s2 o2 v2 => by
    have v3 := Dq.mono s2.fr _ v1
    have v4 : Dq X.K F2 y (.int i) := v2
    cases v4
    cases v3 with
    | lst hs ha =>
      refine ⟨_, i, _, rfl, rfl, s2.sat.sub _ _ hs, h1, h2, by rw [ha.length]; exact Nat.le_trans hz (by decide), fun p hp => ?_⟩
      exact k _ _ _ (Step.trans (s1.trans s2) (Step.laid s2.sat hp)) (fun q h => o1 q (o2 q h)) (.lst upd_same (DqA.mono (same_upd (s2.sat.sub.free hp)) _ (ha.repeat i.toNat)))⟩⟩
theorem e_catLc {l : List PyData} (ha : ED X ρ a ρ1 (.list ds1)) (hb : ED X ρ1 b ρ2 (.list ds2)) (hz : ds1.length + ds2.length ≤ 1000000) (h : ds1 ++ ds2 = l) : ED X ρ (.BinOp a .Add b pos) ρ2 (.list l) := by
  rw [← h]
  exact e_catL ha hb hz
theorem e_repLc {l : List PyData} (ha : ED X ρ a ρ1 (.list ds)) (hb : ED X ρ1 b ρ2 (.int i)) (h1 : -(2 ^ 63) ≤ i) (h2 : i < 2 ^ 63) (hz : ds.length * i.toNat ≤ 1000000) (h : (List.replicate i.toNat ds).flatten = l) : ED X ρ (.BinOp a .Mult b pos) ρ2 (.list l) := by
  rw [← h]
  exact e_repL ha hb h1 h2 hz
theorem e_repT (ha : ED X ρ a ρ1 (.tuple ds)) (hb : ED X ρ1 b ρ2 (.int i)) (h1 : 2 ≤ i) (h2 : i ≤ 1000) (h0 : ds ≠ []) (hz : ds.length ≤ 1000) : ED X ρ (.BinOp a .Mult b pos) ρ2 (.tuple (List.replicate i.toNat ds).flatten) :=
  (pe_op op_repT ha hb).weak fun σ H Q ⟨F, S, k⟩ => ⟨F, S, fun x F1 H1 s1 o1 v1 => ⟨F1, s1.sat, fun y F2 H2 s2 o2 v2 => by
    have v3 := Dq.mono s2.fr _ v1
    have v4 : Dq X.K F2 y (.int i) := v2
    cases v4
    cases v3 with
    | tup hs ha =>
      refine ⟨_, i, _, rfl, rfl, sqT_same s2.sat.sub hs, fun z => ?_, h1, h2, by rw [ha.length]; exact hz, fun p hp => ?_⟩
      · subst z
        cases ha
        exact h0 rfl
      exact k _ _ _ (Step.trans (s1.trans s2) (Step.laid s2.sat hp)) (fun q h => o1 q (o2 q h)) (.tup (.inl (.inl upd_same)) (DqA.mono (same_upd (s2.sat.sub.free hp)) _ (ha.repeat i.toNat)))⟩⟩
end
end Cl

set_option maxRecDepth 100000
namespace Cl
open PySem PySem.Spec PyProof.Rows L2
/-- the frozen part and the heap have grown -/
structure Grow (F H F' H' : Hp) : Prop where
  fr : Same F F'
  new : ∀ q, F q = none → H q ≠ none → F' q = none
  k : Same H H'
  s : Same F' H'
theorem Grow.refl {F H : Hp} (s : Same F H) : Grow F H F H := ⟨Same.refl F, fun _ h _ => h, Same.refl H, s⟩
theorem Grow.laid {F H : Hp} (s : Same F H) {p : Addr} {o : HO} (h : H p = none) : Grow F H (upd F p o) (upd H p o) :=
  ⟨same_upd (s.free h), fun q h1 h2 => by
    have : q ≠ p := fun z => h2 (by rw [z]; exact h)
    rw [upd_ne this]
    exact h1, same_upd h, same_laid s⟩
theorem Grow.step {K : PySem.W.Frag} {ρ : Rho} {σ : L2.St} {F H F' H' : Hp} (g : Grow F H F' H') (S : Sat K F ρ σ H) : Step K ρ σ F H ρ σ F' H' := Step.grow S g.fr g.new g.k g.s
theorem Grow.trans {F H F1 H1 F2 H2 : Hp} (a : Grow F H F1 H1) (b : Grow F1 H1 F2 H2) : Grow F H F2 H2 :=
  ⟨a.fr.trans b.fr, fun q h1 h2 => b.new q (a.new q h1 h2) (fun z => h2 (a.k.free z)), a.k.trans b.k, b.s⟩
/-- a call of f on data gives data -/
structure CallD (X : Cx) (f : Value) (ds : List PyData) (d : PyData) : Prop where
  ex : ∃ r, CallR X f r ∧ ∀ F H vs (Q : VK), Same F H → DqA X.K F vs ds → (∀ v F' H', Grow F H F' H' → Dq X.K F' v d → Q v H') → r vs H Q
section
variable {X : Cx} {ρ ρ1 ρ2 ρ3 : Rho} {a b c e : Expr} {es rest : List Expr} {d d1 d2 d3 : PyData} {ds ds1 ds2 : List PyData} {pos p2 p : Pos} {i j : Int} {u v : Bool} {x : Str}
theorem e_cb {r : List V → Hp → VK → Prop} (h : PE X e (tCB r (tDA X.K ρ ρ1 ds))) (hr : ∀ F H vs (Q : VK), Same F H → DqA X.K F vs ds → (∀ v F' H', Grow F H F' H' → Dq X.K F' v d → Q v H') → r vs H Q) : ED X ρ e ρ1 d :=
  h.weak fun σ H Q ⟨F, S, k⟩ => ⟨F, S, fun vs F1 H1 s1 o1 v1 => hr F1 H1 vs Q s1.sat.sub v1 fun v F2 H2 g hv => k v F2 H2 (s1.trans (g.step s1.sat)) o1 hv⟩
theorem e_bi {id : String} (hc : CallD X (.builtin id) ds d) (hg : Gl X x) (hm : X.mg x = none) (hv : bootBuiltins x = some (.builtin id)) (ha : AD X ρ (e :: es) ρ1 ds) (hn : x ≠ "__name__" := by decide) (hdb : (x == ("__debug__" : Str)) = false := by decide)
    (he : starEach (e :: es) X.env = (false, eval e X.env) :: starEach es X.env := by rfl) (hpl : (backTo pos (starEach es X.env)).any (·.1) = false := by rfl) : ED X ρ (.Call (.Name x p) (e :: es) [] pos) ρ1 d := by
  obtain ⟨r, h1, h2⟩ := hc.ex
  exact e_cb (pe_callB h1 hg hm hv ha hn hdb he hpl) h2
theorem e_bt {T : String} (hc : CallD X (.type T) ds d) (hg : Gl X x) (hm : X.mg x = none) (hv : bootBuiltins x = some (.type T)) (ha : AD X ρ (e :: es) ρ1 ds) (hn : x ≠ "__name__" := by decide) (hdb : (x == ("__debug__" : Str)) = false := by decide)
    (he : starEach (e :: es) X.env = (false, eval e X.env) :: starEach es X.env := by rfl) (hpl : (backTo pos (starEach es X.env)).any (·.1) = false := by rfl) : ED X ρ (.Call (.Name x p) (e :: es) [] pos) ρ1 d := by
  obtain ⟨r, h1, h2⟩ := hc.ex
  exact e_cb (pe_callTy h1 hg hm hv ha hn hdb he hpl) h2
theorem e_bf {id : String} (hc : CallD X (.builtin id) ds d) (hg : Gl X x) (hm : X.mg x = some (.builtin id)) (ha : AD X ρ (e :: es) ρ1 ds) (hdb : (x == ("__debug__" : Str)) = false := by decide)
    (he : starEach (e :: es) X.env = (false, eval e X.env) :: starEach es X.env := by rfl) (hpl : (backTo pos (starEach es X.env)).any (·.1) = false := by rfl) : ED X ρ (.Call (.Name x p) (e :: es) [] pos) ρ1 d := by
  obtain ⟨r, h1, h2⟩ := hc.ex
  exact e_cb (pe_callBfun h1 hg hm ha hdb he hpl) h2
theorem f_gcd : CallD X (.builtin "math.gcd") [.int i, .int j] (.int ((Nat.gcd i.natAbs j.natAbs : Nat) : Int)) := ⟨_, cr_gcd, fun F H vs Q s h k => by
  cases h with
  | cons h1 t =>
    cases h1
    cases t with
    | cons h2 t =>
      cases h2; cases t
      exact ⟨i, j, rfl, k _ F H (Grow.refl s) (.int _)⟩⟩
theorem f_abs : CallD X (.builtin "abs") [.int i] (.int (i.natAbs : Int)) := ⟨_, call_abs, fun F H vs Q s h k => by
  cases h with
  | cons h1 t =>
    cases h1; cases t
    have e : (if i < 0 then -i else i) = (i.natAbs : Int) := by split <;> omega
    refine ⟨i, rfl, ?_⟩
    rw [e]
    exact k _ F H (Grow.refl s) (.int _)⟩
theorem f_max (hc : X.calm = true) : CallD X (.builtin "max") [.int i, .int j] (.int (max i j)) := ⟨_, call_max2 hc, fun F H vs Q s h k => by
  cases h with
  | cons h1 t =>
    cases h1
    cases t with
    | cons h2 t =>
      cases h2; cases t
      have e : (if j > i then j else i) = max i j := by omega
      refine ⟨i, j, rfl, ?_⟩
      rw [e]
      exact k _ F H (Grow.refl s) (.int _)⟩
theorem f_min (hc : X.calm = true) : CallD X (.builtin "min") [.int i, .int j] (.int (min i j)) := ⟨_, call_min2 hc, fun F H vs Q s h k => by
  cases h with
  | cons h1 t =>
    cases h1
    cases t with
    | cons h2 t =>
      cases h2; cases t
      have e : (if j < i then j else i) = min i j := by omega
      refine ⟨i, j, rfl, ?_⟩
      rw [e]
      exact k _ F H (Grow.refl s) (.int _)⟩
theorem f_int : CallD X (.type "int") [.int i] (.int i) := ⟨_, call_int1, fun F H vs Q s h k => by
  cases h with
  | cons h1 t =>
    cases h1; cases t
    exact .inl ⟨i, rfl, k _ F H (Grow.refl s) (.int _)⟩⟩
theorem f_intB : CallD X (.type "int") [.bool u] (.int (if u then 1 else 0)) := ⟨_, call_int1, fun F H vs Q s h k => by
  cases h with
  | cons h1 t =>
    cases h1; cases t
    exact .inr ⟨u, rfl, k _ F H (Grow.refl s) (.int _)⟩⟩
theorem f_lenL : CallD X (.builtin "len") [.list ds] (.int ds.length) := ⟨_, call_len, fun F H vs Q s h k => by
  cases h with
  | cons h1 t =>
    cases h1 with
    | lst hs ha =>
      cases t
      exact ⟨_, ds.length, rfl, .inl ⟨_, .inl (.inl (s _ _ hs)), ha.length.symm⟩, k _ F H (Grow.refl s) (.int _)⟩⟩
theorem f_lenT : CallD X (.builtin "len") [.tuple ds] (.int ds.length) := ⟨_, call_len, fun F H vs Q s h k => by
  cases h with
  | cons h1 t =>
    cases h1 with
    | tup hs ha =>
      cases t
      exact ⟨_, ds.length, rfl, .inr ⟨_, sqT_same s hs, ha.length.symm⟩, k _ F H (Grow.refl s) (.int _)⟩⟩
theorem f_lenS {z : Str} (hz : z.length ≤ 1000000) : CallD X (.builtin "len") [.str z] (.int z.length) := ⟨_, call_len, fun F H vs Q s h k => by
  cases h with
  | cons h1 t =>
    cases h1; cases t
    exact ⟨_, z.length, rfl, ⟨Nat.le_trans hz (by decide), rfl⟩, k _ F H (Grow.refl s) (.int _)⟩⟩
theorem f_listL : CallD X (.type "list") [.list ds] (.list ds) := ⟨_, call_list_of, fun F H vs Q s h k => by
  cases h with
  | cons h1 t =>
    cases h1 with
    | lst hs ha =>
      cases t
      exact ⟨_, _, rfl, .inl (.inl (.inl (s _ _ hs))), fun p hp => k _ _ _ (Grow.laid s hp) (.lst upd_same (DqA.mono (same_upd (s.free hp)) _ ha))⟩⟩
theorem f_listT : CallD X (.type "list") [.tuple ds] (.list ds) := ⟨_, call_list_of, fun F H vs Q s h k => by
  cases h with
  | cons h1 t =>
    cases h1 with
    | tup hs ha =>
      cases t
      exact ⟨_, _, rfl, .inr (sqT_same s hs), fun p hp => k _ _ _ (Grow.laid s hp) (.lst upd_same (DqA.mono (same_upd (s.free hp)) _ ha))⟩⟩
theorem f_tupL : CallD X (.type "tuple") [.list ds] (.tuple ds) := ⟨_, call_tuple_of, fun F H vs Q s h k => by
  cases h with
  | cons h1 t =>
    cases h1 with
    | lst hs ha =>
      cases t
      exact ⟨_, _, rfl, .inl ⟨.inl (.inl (s _ _ hs)), fun p hp => k _ _ _ (Grow.laid s hp) (.tup (.inl (.inl upd_same)) (DqA.mono (same_upd (s.free hp)) _ ha))⟩⟩⟩
theorem f_tupT : CallD X (.type "tuple") [.tuple ds] (.tuple ds) := ⟨_, call_tuple_of, fun F H vs Q s h k => by
  cases h with
  | cons h1 t =>
    cases h1 with
    | tup hs ha =>
      cases t
      exact ⟨_, _, rfl, .inr ⟨sqT_same s hs, k _ _ _ (Grow.refl s) (.tup hs ha)⟩⟩⟩
theorem dqA_bools {K : PySem.W.Frag} {F : Hp} : ∀ {bs : List Bool} {vs : List V}, DqA K F vs (bs.map .bool) → vs = bs.map .bl
  | [], _, h => by cases h; rfl
  | b :: bs, _, h => by
    cases h with
    | cons h1 t =>
      cases h1
      rw [dqA_bools (bs := bs) t]
      rfl
theorem dqA_ints {K : PySem.W.Frag} {F : Hp} : ∀ {bs : List Int} {vs : List V}, DqA K F vs (bs.map .int) → vs = bs.map .int
  | [], _, h => by cases h; rfl
  | b :: bs, _, h => by
    cases h with
    | cons h1 t =>
      cases h1
      rw [dqA_ints (bs := bs) t]
      rfl
theorem f_all {bs : List Bool} (hc : X.calm = true) (hd : ds = bs.map .bool) : CallD X (.builtin "all") [.list ds] (.bool (bs.all id)) := ⟨_, cr_all hc, fun F H vs Q s h k => by
  subst hd
  cases h with
  | cons h1 t =>
    cases h1 with
    | lst hs ha =>
      cases t
      rw [dqA_bools ha] at hs
      exact ⟨_, bs, rfl, .inl (.inl (s _ _ hs)), k _ F H (Grow.refl s) (.bl _)⟩⟩
theorem f_any {bs : List Bool} (hc : X.calm = true) (hd : ds = bs.map .bool) : CallD X (.builtin "any") [.list ds] (.bool (bs.any id)) := ⟨_, cr_any hc, fun F H vs Q s h k => by
  subst hd
  cases h with
  | cons h1 t =>
    cases h1 with
    | lst hs ha =>
      cases t
      rw [dqA_bools ha] at hs
      exact ⟨_, bs, rfl, .inl (.inl (s _ _ hs)), k _ F H (Grow.refl s) (.bl _)⟩⟩
theorem divp_small {i j : Int} (h : 0 < j) (hb : j.natAbs.log2 < 9000) : CDivP i j := by
  refine ⟨h, ?_⟩
  unfold Builtin.divisionGoesByPylong
  have hd : ¬ ((if j == 0 then 0 else j.natAbs.log2 / 30 + 1) > 300) := by
    split
    · omega
    · omega
  show (decide _ && decide _) = false
  rw [decide_eq_false hd]
  rfl
theorem f_divmod (h : 0 < j) (hb : j.natAbs.log2 < 9000) : CallD X (.builtin "divmod") [.int i, .int j] (.tuple [.int (i / j), .int (i % j)]) := ⟨_, call_divmodW, fun F H vs Q s hh k => by
  cases hh with
  | cons h1 t =>
    cases h1
    cases t with
    | cons h2 t =>
      cases h2; cases t
      exact ⟨i, j, rfl, divp_small h hb, fun p hp => k _ _ _ (Grow.laid s hp) (.tup (.inl (.inl upd_same)) (.cons (.int _) (.cons (.int _) .nil)))⟩⟩
/-- repr of data -/
theorem cr_repr (hg : X.A.guards = some []) (hu : X.A.units + 64 < cLine) : CallR X (.builtin "repr") (fun vs H Q => ∃ a d, vs = [.ref a] ∧ Dq X.K H (.ref a) d ∧ d.showable = true ∧ d.hasDict = false ∧ d.depth ≤ 60 ∧ d.shown.length ≤ sizeLine ∧ Q (.str d.shown) H) := by
  intro pins s σ H vs us Q I r h
  obtain ⟨a, d, rfl, hd, h1, h2, h3, h4, q⟩ := h
  cases r with
  | cons r1 t =>
    cases t
    cases r1
    obtain ⟨as, rd⟩ := Dq.rd I d _ _ hd rfl
    refine repr_of_reads' rd h1 (PySem.PyData.noDict_hsm h2) hg (by omega) (fun _ _ e => e) (fun h' u tk hk => ?_) h4
    exact ⟨.str d.shown, H, I.kept hk, ⟨u, rfl⟩, q⟩
end
end Cl
namespace Cl
open PySem PySem.Spec PyProof.Rows L2
def CDivX (_ j : Int) : Prop := j ≠ 0 ∧ j.natAbs.log2 < 9000
section
variable {X : Cx} {ρ ρ1 ρ2 : Rho} {a b : Expr} {pos : Pos} {i j : Int}
theorem op_fdivX : OpR X (binaryOp .FloorDiv) (rI CDivX fun i j => .int (i.fdiv j)) := opI fun i j _ _ _ _ _ hc q => floordiv_int hc.1 q (.inl (PyProof.noPylong_of_log2 hc.2))
theorem e_fdivX (hc : CDivX i j) (ha : ED X ρ a ρ1 (.int i)) (hb : ED X ρ1 b ρ2 (.int j)) : ED X ρ (.BinOp a .FloorDiv b pos) ρ2 (.int (i.fdiv j)) := e_ii op_fdivX (fun _ => .int _) hc ha hb
end
end Cl

set_option maxRecDepth 100000
namespace Cl
open PySem PySem.Spec PyProof.Rows L2
/-! ### defs whose callers are known not to stand within a repr (the hand layer's room does not tell it) -/
structure FnG (P : Program) (w : World) (K : PySem.W.Frag) (mg : Str → Option Value) (base : Heap) (CX : CXT) (k : Nat) (f : Addr) (fd : FuncData) (ps : List Str) (sp : Sp) : Prop where
  len : ∀ vs H Q E, sp vs H Q E → vs.length = ps.length
  run : ∀ (A : Around) (outer : List Env) (s : Shared) (H : Hp) (args : Args) (us : List Value) (vs : List V) (Q : VK) (E : XK), Room k A → A.guards = some [] → Env0 P w K mg base A outer s H →
    BindsTo s fd args (ps.zip us) → Vals vs us → sp vs H Q E → codeAny (model P w) A (.call (.ref f) args) (CR CX outer P w H s Q E) s
section
variable {P : Program} {w : World} {K : PySem.W.Frag} {mg : Str → Option Value} {base : Heap} {CX : CXT} {j k : Nat} {f : Addr} {fd : FuncData} {ps N : List Str} {sp : Sp} {x qual : Str} {st : Stmt}
theorem FnG.mono (G : FnG P w K mg base CX j f fd ps sp) (h : j ≤ k) : FnG P w K mg base CX k f fd ps sp :=
  ⟨G.len, fun A o s H ar us vs Q E room => G.run A o s H ar us vs Q E (room.mono h)⟩
theorem guards_deeper {A : Around} {env : Env} (h : A.guards = some []) : (A.deeper env).guards = some [] := h
theorem fn_body (F : Fun K x qual st f fd) (Sc : FnScope N ps (defScope st)) (len : ∀ vs H Q E, sp vs H Q E → vs.length = ps.length)
    (body : ∀ (cdv : Value) (A : Around) (outer : List Env) (s : Shared) (H : Hp) (vs : List V) (Q : VK) (E : XK), Room k (A.deeper (envOfC qual (defScope st) s.heap.objs.size f cdv)) → A.guards = some [] → sp vs H Q E →
      ∃ t, PSs (cxOf CX P w K mg base N qual (defScope st) f cdv A outer s H E) (defBody st) t ∧ t { nx := fun _ H' => Q .non H', rt := Q } (start N vs) H) : FnG P w K mg base CX (k + 1) f fd ps sp := by
  obtain ⟨_, _, _, _, _, _, cdv, _, _, rfl, lk, hcode⟩ := F.ex
  constructor
  · exact len
  intro A outer s H args us vs Q E room grd env0 bnd rel pr
  have nl := len _ _ _ _ pr
  have kin : K.In s.heap := env0.mod.kin.keeps fun b o e => (env0.bs b o e).1
  have nlim : s.heap.NoLimit := env0.mod.nolimit.keeps fun b o e => (env0.bs b o e).1
  have kinds : ∀ y ∈ ps.zip us, (defScope st).names.lookup y.1 = some .local ∨ ((defScope st).names.lookup y.1 = some .cell ∧ ((cellsFrom (s.heap.objs.size + 1) (defScope st).names []).lookup y.1).isSome = true) := by
    intro y hy
    have par := Sc.par y.1 (List.of_mem_zip hy).1
    rcases par with p1 | p2
    · exact Or.inl p1
    · exact Or.inr ⟨p2, PySem.W.cellsFrom_some _ _ _ (Or.inl p2)⟩
  apply codeAny_call_function room.depth (kin _ _ lk) rfl Sc.co Sc.gen rfl (PySem.W.codeRec_of kin hcode)
  apply bnd
  apply wpAny_newFunctionEnv_cells Sc.kind kinds
  intro env henv s1 hin
  subst henv
  refine ⟨nlim.keeps hin.toInCall.keep, ?_⟩
  apply codeAny_func
  obtain ⟨t, ht, hq⟩ := body cdv A outer s H vs Q E (room.deeper _) grd pr
  have start0 : Inv (cxOf CX P w K mg base N qual (defScope st) f cdv A outer s H E) [] (start N vs) H s1 := inv_start Sc room.hd env0 nl rel hin
  have fin : ∀ {σ' : L2.St} {H' : Hp} {s' : Shared} {v : V} {u : Value}, Inv (cxOf CX P w K mg base N qual (defScope st) f cdv A outer s H E) [] σ' H' s' → RelV v u → Q v H' → CE outer P w H s Q u s' := by
    intro σ' H' s' v u J rv q
    exact ⟨v, H', J.os, J.bare, J.base, J.hok, rv, q⟩
  refine wpAny_mono (ht.run [] s1 (start N vs) H _ start0 hq) ?_ ?_
  · intro fl s' hs
    cases fl with
    | ret u =>
      obtain ⟨v, _, H', J, rv, q⟩ := hs
      exact fin J rv q
    | next =>
      obtain ⟨_, H', J, q⟩ := hs
      exact fin (v := .non) (u := Value.none) J rfl q
    | brk => exact hs.elim fun _ z => z.elim fun _ y => y.2.elim
    | cont => exact hs.elim fun _ z => z.elim fun _ y => y.2.elim
  · intro e s' hs
    exact hs
end

/-! ### calls -/
section
variable {X : Cx} {CX : CXT} {k : Nat} {f : Addr} {fd : FuncData} {ps ks : List Str} {sp : Sp} {dvs : List V} {dfl : List Value} {E : XK} {x : Str} {p pos : Pos} {e : Expr} {es : List Expr} {ta t tk : TA} {kws : List Keyword}
variable {g : List Value → List Value → List Value} {gV : List V → List V → List V}
theorem CR.end_ {pins : List (Addr × Obj)} {σ : L2.St} {H : Hp} {s s' : Shared} {Q : VK} {r : Result} (I : Inv X pins σ H s) (px : Passes CX X E) (h : CR CX X.stack X.prog X.w H s Q E r s') :
    (match r with | .ok (.ret u) => EP X pins σ Q u s' | .ok _ => False | .error e => X.xe e s') := by
  cases r with
  | error e => exact px pins σ H s e s' I h
  | ok fl =>
    cases fl with
    | ret u => exact I.after h
    | next => exact h
    | brk => exact h
    | cont => exact h
theorem run_g {pins : List (Addr × Obj)} {σ : L2.St} {H : Hp} {s : Shared} {Q : VK} {us ws : List Value} {vs : List V} (G : FnG X.prog X.w X.K X.mg X.base CX k f fd ps sp) (room : Room k X.A) (grd : X.A.guards = some []) (bn : BindsTo s fd ⟨us, ks.zip ws⟩ (ps.zip us'))
    (px : Passes CX X E) (I : Inv X pins σ H s) (r : Vals vs us') (h : sp vs H Q E) : wpAny (model X.prog X.w) X.A (call (.ref f) us (ks.zip ws)) (EP X pins σ Q) X.xe s := by
  have c := G.run X.A X.stack s H ⟨us, ks.zip ws⟩ us' vs Q E room grd I.env0 bn r h
  apply wpAny_call
  apply codeAny_mono c
  intro r s' hq
  have q := CR.end_ I px hq
  cases r with
  | error e => exact q
  | ok fl =>
    cases fl with
    | ret u => exact q
    | next => exact q.elim
    | brk => exact q.elim
    | cont => exact q.elim
theorem g_call (G : FnG X.prog X.w X.K X.mg X.base CX k f fd ps sp) (room : Room k X.A) (grd : X.A.guards = some []) (gl : Gl X x) (hm : X.mg x = some (.ref f)) (kp : PySem.W.keepIn X.K (.ref f) = true) (bn : Binds X.K fd ps dfl) (hd : Vals dvs dfl) (px : Passes CX X E)
    (ha : PA X (e :: es) t) (hdb : (x == ("__debug__" : Str)) = false := by decide) (he : starEach (e :: es) X.env = (false, eval e X.env) :: starEach es X.env := by rfl) (hpl : (backTo pos (starEach es X.env)).any (·.1) = false := by rfl) :
    PE X (.Call (.Name x p) (e :: es) [] pos) (tCall sp dvs E t) := by
  constructor
  intro pins s σ H Q I h
  apply wpAny_Call_Name_kw
  apply ld_glob I gl hm _ hdb
  refine PySem.W.callWith_K (h₀ := X.base) I.ok.mod.kin kp (thn (ha.run pos pins s σ H _ I h) ?_) he hpl
  rintro us s1 ⟨vs, H1, I1, r, q⟩
  have r2 : Vals (vs ++ dvs) (us ++ dfl) := r.append hd
  exact ⟨I1.kIn, run_g (ks := []) (ws := []) G room grd (bn s1 us I1.kIn (by rw [← r2.length]; exact G.len _ _ _ _ q)) px I1 r2 q⟩
theorem g_call0 (G : FnG X.prog X.w X.K X.mg X.base CX k f fd ps sp) (room : Room k X.A) (grd : X.A.guards = some []) (gl : Gl X x) (hm : X.mg x = some (.ref f)) (kp : PySem.W.keepIn X.K (.ref f) = true) (bn : Binds X.K fd ps dfl) (hd : Vals dvs dfl) (px : Passes CX X E)
    (hdb : (x == ("__debug__" : Str)) = false := by decide) : PE X (.Call (.Name x p) [] [] pos) (tCall sp dvs E tNil) := by
  constructor
  intro pins s σ H Q I h
  apply wpAny_Call_Name_kw
  apply ld_glob I gl hm _ hdb
  have r2 : Vals ([] ++ dvs) ([] ++ dfl) := hd
  exact PySem.W.callWith_K0 I.kIn kp (run_g (ks := []) (ws := []) G room grd (bn s [] I.kIn (by rw [← r2.length]; exact G.len _ _ _ _ h)) px I r2 h)
theorem g_callK (G : FnG X.prog X.w X.K X.mg X.base CX k f fd ps sp) (room : Room k X.A) (grd : X.A.guards = some []) (gl : Gl X x) (hm : X.mg x = some (.ref f)) (kp : PySem.W.keepIn X.K (.ref f) = true) (kb : KBinds X.K fd ps ks g gV) (px : Passes CX X E)
    (ha : PA X (e :: es) t) (hkw : PK X kws tk) (hall : (backToKw pos (keywordEach kws X.env)).all (·.1.isSome) = true := by rfl) (hks : (backToKw pos (keywordEach kws X.env)).filterMap (·.1) = ks := by rfl)
    (hdb : (x == ("__debug__" : Str)) = false := by decide) (he : starEach (e :: es) X.env = (false, eval e X.env) :: starEach es X.env := by rfl)
    (hpl : ((backTo pos (starEach (e :: es) X.env)).any (·.1) || (backToKw pos (keywordEach kws X.env)).any (·.1.isNone)) = false := by rfl) :
    PE X (.Call (.Name x p) (e :: es) kws pos) (tCallK sp gV E t tk) := by
  constructor
  intro pins s σ H Q I h
  apply wpAny_Call_Name_kw
  apply ld_glob I gl hm _ hdb
  refine PySem.W.callWith_KW (h₀ := X.base) I.ok.mod.kin kp hall (thn (ha.run pos pins s σ H _ I h) ?_) hpl he
  rintro us s1 ⟨vs, H1, I1, r, q⟩
  refine thn (hkw.run pos pins s1 σ H1 _ I1 q) ?_
  rintro ws s2 ⟨zs, H2, I2, rz, q2⟩
  rw [hks]
  have r2 := kb.rel r rz
  exact ⟨I2.kIn, run_g G room grd (kb.to s2 us ws I2.kIn (by rw [← r2.length]; exact G.len _ _ _ _ q2)) px I2 r2 q2⟩
end
end Cl

set_option maxRecDepth 100000
namespace Cl
open PySem PySem.Spec PyProof.Rows L2
/-! ### what a def promises of cells -/
abbrev Spec := List Cell → Cell → List Cell → Prop
def spOf (K : PySem.W.Frag) (S : Spec) : Sp := fun vs H Q _ => ∃ cs r cs', S cs r cs' ∧ ∃ F, Sat K F (cs.map some) (vs.map some) H ∧
  ∀ v F' H', Step K (cs.map some) (vs.map some) F H (cs'.map some) (vs.map some) F' H' → (∀ q, Own (cs'.map some) (vs.map some) q → Own (cs.map some) (vs.map some) q) → Val K F' H' (fun p => H p = none) v r → Q v H'
theorem nilArgs (sp : Sp) (vs : List V) (H : Hp) (Q : VK) (E : XK) (h : sp vs H Q E) : sp (vs ++ []) H Q E := by
  rw [List.append_nil]
  exact h
/-- data in, data out -/
def pureS (R : List PyData → PyData → Prop) : Spec := fun cs r cs' => ∃ ds d, R ds d ∧ cs = ds.map .dat ∧ r = .dat d ∧ cs' = cs
/-- data in, a new list out -/
def newS (R : List PyData → List PyData → Prop) : Spec := fun cs r cs' => ∃ ds l, R ds l ∧ cs = ds.map .dat ∧ r = .own (.lst l) ∧ cs' = cs
/-- a list lent in the first place, which is changed -/
def potS (R : List PyData → List PyData → List PyData → PyData → Prop) : Spec := fun cs r cs' => ∃ p m ds m' d, R m ds m' d ∧ cs = .bor p (.lst m) :: ds.map .dat ∧ r = .dat d ∧ cs' = .bor p (.lst m') :: ds.map .dat
/-- the script in the first place -/
def scrS (R : List Int → List PyData → Cell → Prop) : Spec := fun cs r cs' => ∃ ns ds, R ns ds r ∧ cs = .scr ns :: ds.map .dat ∧ cs' = cs
section
variable {K : PySem.W.Frag} {F F' H H' : Hp} {ρ ρ' : Rho} {σ σ' : L2.St} {ds : List PyData} {vs : List V}
theorem DqA.slots (h : DqA K F vs ds) {i : Nat} {c : Option Cell} {x : Option V} (e1 : ((ds.map Cell.dat).map some)[i]? = some c) (e2 : (vs.map some)[i]? = some x) : SlotOk K F H c x := by
  rw [List.map_map, List.getElem?_map] at e1
  rw [List.getElem?_map] at e2
  cases q : ds[i]? with
  | none => rw [q] at e1; cases e1
  | some d =>
    rw [q] at e1
    cases e1
    obtain ⟨v, h1, h2⟩ := h.get' q
    rw [h1] at e2
    cases e2
    exact ⟨v, rfl, h2⟩
theorem noHeld {i : Nat} {q : Addr} : ¬ Held ((ds.map Cell.dat).map some) σ i q := by
  rintro ⟨c, m, e1, e2, _⟩
  rw [List.map_map, List.getElem?_map] at e1
  cases z : ds[i]? with
  | none => rw [z] at e1; cases e1
  | some d =>
    rw [z] at e1
    cases e1
    cases e2
theorem sat_dats (h : DqA K F vs ds) (s : Same F H) : Sat K F ((ds.map Cell.dat).map some) (vs.map some) H :=
  ⟨by rw [List.length_map, List.length_map, List.length_map]; exact h.length, s, fun _ _ _ e1 e2 => h.slots e1 e2, fun _ _ _ h _ => (noHeld h).elim⟩
theorem Step.ofDats {F0 H0 : Hp} {ρ0 : Rho} {σ0 : L2.St} (S : Sat K F0 ρ0 σ0 H0) (st : Step K ((ds.map Cell.dat).map some) (vs.map some) F0 H0 ρ' σ' F' H') : Grow F0 H0 F' H' :=
  ⟨st.fr, fun q h1 h2 => st.new q h1 h2 fun ⟨_, z⟩ => noHeld z, fun q o h => st.keep q o h fun ⟨_, z⟩ => noHeld z, st.sat.sub⟩
end
section
variable {X : Cx} {k : Nat} {f : Addr} {fd : FuncData} {ps ks : List Str} {ρ ρ1 ρ2 : Rho} {x y : Str} {p pos px : Pos} {e : Expr} {es : List Expr} {kws : List Keyword} {ds : List PyData} {d : PyData} {l : List PyData}
/-- f(e, ..): data -/
theorem e_call {R : List PyData → PyData → Prop} (G : FnG X.prog X.w X.K X.mg X.base CX0 k f fd ps (spOf X.K (pureS R))) (room : Room k X.A) (grd : X.A.guards = some []) (gl : Gl X x) (hm : X.mg x = some (.ref f)) (kp : PySem.W.keepIn X.K (.ref f) = true)
    (bn : Binds X.K fd ps []) (ha : AD X ρ (e :: es) ρ1 ds) (hR : R ds d) (hdb : (x == ("__debug__" : Str)) = false := by decide) (he : starEach (e :: es) X.env = (false, eval e X.env) :: starEach es X.env := by rfl)
    (hpl : (backTo pos (starEach es X.env)).any (·.1) = false := by rfl) : ED X ρ (.Call (.Name x p) (e :: es) [] pos) ρ1 d :=
  (g_call G room grd gl hm kp bn .nil pass0 ha hdb he hpl).weak fun σ H Q ⟨F, S, kk⟩ => ⟨F, S, fun vs F1 H1 s1 o1 v1 => by
    refine nilArgs (spOf X.K _) vs H1 Q _ ?_
    refine ⟨_, _, _, ⟨ds, d, hR, rfl, rfl, rfl⟩, F1, sat_dats v1 s1.sat.sub, fun v F2 H2 st _ hv => ?_⟩
    exact kk v F2 H2 (s1.trans ((Step.ofDats s1.sat st).step s1.sat)) o1 hv⟩
theorem o_call {R : List PyData → List PyData → Prop} (G : FnG X.prog X.w X.K X.mg X.base CX0 k f fd ps (spOf X.K (newS R))) (room : Room k X.A) (grd : X.A.guards = some []) (gl : Gl X x) (hm : X.mg x = some (.ref f)) (kp : PySem.W.keepIn X.K (.ref f) = true)
    (bn : Binds X.K fd ps []) (ha : AD X ρ (e :: es) ρ1 ds) (hR : R ds l) (hdb : (x == ("__debug__" : Str)) = false := by decide) (he : starEach (e :: es) X.env = (false, eval e X.env) :: starEach es X.env := by rfl)
    (hpl : (backTo pos (starEach es X.env)).any (·.1) = false := by rfl) : EO X ρ (.Call (.Name x p) (e :: es) [] pos) ρ1 l :=
  (g_call G room grd gl hm kp bn .nil pass0 ha hdb he hpl).weak fun σ H Q ⟨F, S, kk⟩ => ⟨F, S, fun vs F1 H1 s1 o1 v1 => by
    refine nilArgs (spOf X.K _) vs H1 Q _ ?_
    refine ⟨_, _, _, ⟨ds, l, hR, rfl, rfl, rfl⟩, F1, sat_dats v1 s1.sat.sub, fun v F2 H2 st _ hv => ?_⟩
    have s2 := s1.trans ((Step.ofDats s1.sat st).step s1.sat)
    obtain ⟨q, o, e1, e2, e3, e4, e5⟩ := hv
    exact kk v F2 H2 s2 o1 ⟨q, o, e1, ⟨.inl (s1.fresh e2).1, fun z => (s1.sat.ownF z).2 e2⟩, e3, e4, e5⟩⟩
/-- keywords -/
abbrev KD (X : Cx) (ρ : Rho) (kws : List Keyword) (ρ' : Rho) (ds : List PyData) : Prop := PK X kws (tDA X.K ρ ρ' ds)
theorem _root_.L2.PK.weak {t t' : TA} (h : PK X kws t) (k : ∀ σ H Q, t' σ H Q → t σ H Q) : PK X kws t' := ⟨fun pos pins s σ H Q I q => h.run pos pins s σ H Q I (k σ H Q q)⟩
theorem k_nil : KD X ρ [] ρ [] := pk_nil.weak fun σ H Q ⟨F, S, k⟩ => k [] F H (Step.refl S) own_id .nil
theorem k_cons {nm : Option Str} {kpos : Pos} (h : ED X ρ e ρ1 d) (t : KD X ρ1 kws ρ2 ds) : KD X ρ (⟨nm, e, kpos⟩ :: kws) ρ2 (d :: ds) :=
  (pk_cons h t).weak fun σ H Q ⟨F, S, k⟩ => ⟨F, S, fun x F1 H1 s1 o1 v1 => ⟨F1, s1.sat, fun vs F2 H2 s2 o2 v2 => k _ F2 H2 (s1.trans s2) (fun q h => o1 q (o2 q h)) (.cons (Dq.mono s2.fr _ v1) v2)⟩⟩
variable {g : List Value → List Value → List Value} {gV : List V → List V → List V}
theorem g_callK0 {sp : Sp} {E : XK} {tk : TA} {CX : CXT} (G : FnG X.prog X.w X.K X.mg X.base CX k f fd ps sp) (room : Room k X.A) (grd : X.A.guards = some []) (gl : Gl X x) (hm : X.mg x = some (.ref f)) (kp : PySem.W.keepIn X.K (.ref f) = true) (kb : KBinds X.K fd ps ks g gV) (px : Passes CX X E)
    (hkw : PK X kws tk) (hall : (backToKw pos (keywordEach kws X.env)).all (·.1.isSome) = true := by rfl) (hks : (backToKw pos (keywordEach kws X.env)).filterMap (·.1) = ks := by rfl)
    (hdb : (x == ("__debug__" : Str)) = false := by decide)
    (hpl : ((backTo pos (starEach [] X.env)).any (·.1) || (backToKw pos (keywordEach kws X.env)).any (·.1.isNone)) = false := by rfl) :
    PE X (.Call (.Name x p) [] kws pos) (tCallK sp gV E tNil tk) := by
  constructor
  intro pins s σ H Q I h
  apply wpAny_Call_Name_kw
  apply ld_glob I gl hm _ hdb
  refine PySem.W.callWith_KW0 (h₀ := X.base) I.ok.mod.kin kp hall ?_ hpl
  refine thn (hkw.run pos pins s σ H _ I h) ?_
  rintro ws s2 ⟨zs, H2, I2, rz, q2⟩
  rw [hks]
  have r2 := kb.rel (.nil : Vals [] []) rz
  exact ⟨I2.kIn, run_g G room grd (kb.to s2 [] ws I2.kIn (by rw [← r2.length]; exact G.len _ _ _ _ q2)) px I2 r2 q2⟩
/-- an arrangement of the arguments by a list of places -/
def perm {α : Type} (ix : List Nat) (us ws : List α) : List α := ix.filterMap fun i => (us ++ ws)[i]?
theorem perm_rel {ix : List Nat} {vs zs : List V} {us ws : List Value} (a : Vals vs us) (b : Vals zs ws) : Vals (perm ix vs zs) (perm ix us ws) := by
  have h := a.append b
  unfold perm
  induction ix with
  | nil => exact .nil
  | cons i r ih =>
    rw [List.filterMap_cons, List.filterMap_cons]
    cases q : (vs ++ zs)[i]? with
    | none =>
      rw [h.none_of q]
      exact ih
    | some v =>
      obtain ⟨u, h1, h2⟩ := h.get q
      rw [h1]
      exact .cons h2 ih
theorem perm_dqA {K : PySem.W.Frag} {F : Hp} {ix : List Nat} {vs zs : List V} {us ws : List PyData} (a : DqA K F vs us) (b : DqA K F zs ws) : DqA K F (perm ix vs zs) (perm ix us ws) := by
  have h := a.append b
  unfold perm
  induction ix with
  | nil => exact .nil
  | cons i r ih =>
    rw [List.filterMap_cons, List.filterMap_cons]
    cases q : (us ++ ws)[i]? with
    | none =>
      have : (vs ++ zs)[i]? = none := by
        rw [List.getElem?_eq_none_iff] at q ⊢
        rw [h.length]
        exact q
      rw [this]
      exact ih
    | some v =>
      obtain ⟨u, h1, h2⟩ := h.get' q
      rw [h1]
      exact .cons h2 ih
/-- no places, so many keywords -/
def permK {α : Type} (ix : List Nat) (m : Nat) (us ws : List α) : List α := if us.length = 0 ∧ ws.length = m then perm ix us ws else []
theorem permK_rel {ix : List Nat} {m : Nat} {vs zs : List V} {us ws : List Value} (a : Vals vs us) (b : Vals zs ws) : Vals (permK ix m vs zs) (permK ix m us ws) := by
  unfold permK
  rw [a.length, b.length]
  split
  · exact perm_rel a b
  · exact .nil
theorem permK_dqA {K : PySem.W.Frag} {F : Hp} {ix : List Nat} {m : Nat} {vs zs : List V} {us ws : List PyData} (a : DqA K F vs us) (b : DqA K F zs ws) : DqA K F (permK ix m vs zs) (permK ix m us ws) := by
  unfold permK
  rw [a.length, b.length]
  split
  · exact perm_dqA a b
  · exact .nil
theorem permK_len {α : Type} {ix : List Nat} {m k : Nat} {us ws : List α} (h : (permK ix m us ws).length = k) (hk : 0 < k) : us = [] ∧ ws.length = m := by
  unfold permK at h
  split at h
  · rename_i q
    exact ⟨List.eq_nil_of_length_eq_zero q.1, q.2⟩
  · have : (0 : Nat) = k := h
    omega
theorem kbinds_of {K : PySem.W.Frag} {fd : FuncData} {ps ks : List Str} {ix : List Nat} {m : Nat} (hp : 0 < ps.length) (h : ∀ ws : List Value, ws.length = m → bindArgs fd ⟨[], ks.zip ws⟩ = pure (ps.zip (permK ix m [] ws))) : KBinds K fd ps ks (permK ix m) (permK ix m) :=
  ⟨fun s us ws _ hl => by
    obtain ⟨h1, h2⟩ := permK_len hl hp
    subst h1
    exact .of_eq (h ws h2), fun a b => permK_rel a b⟩
theorem e_callK0 {ix : List Nat} {m : Nat} {R : List PyData → PyData → Prop} {ds' : List PyData} (G : FnG X.prog X.w X.K X.mg X.base CX0 k f fd ps (spOf X.K (pureS R))) (room : Room k X.A) (grd : X.A.guards = some []) (gl : Gl X x) (hm : X.mg x = some (.ref f)) (kp : PySem.W.keepIn X.K (.ref f) = true)
    (kb : KBinds X.K fd ps ks (permK ix m) (permK ix m)) (hkw : KD X ρ kws ρ1 ds) (hp : permK ix m [] ds = ds') (hR : R ds' d) (hall : (backToKw pos (keywordEach kws X.env)).all (·.1.isSome) = true := by rfl) (hks : (backToKw pos (keywordEach kws X.env)).filterMap (·.1) = ks := by rfl)
    (hdb : (x == ("__debug__" : Str)) = false := by decide)
    (hpl : ((backTo pos (starEach [] X.env)).any (·.1) || (backToKw pos (keywordEach kws X.env)).any (·.1.isNone)) = false := by rfl) : ED X ρ (.Call (.Name x p) [] kws pos) ρ1 d := by
  subst hp
  exact (g_callK0 G room grd gl hm kp kb pass0 hkw hall hks hdb hpl).weak fun σ H Q ⟨F, S, kk⟩ => ⟨F, S, fun vs F1 H1 s1 o1 v1 => by
    refine ⟨_, _, _, ⟨_, d, hR, rfl, rfl, rfl⟩, F1, sat_dats (permK_dqA .nil v1) s1.sat.sub, fun v F2 H2 st _ hv => ?_⟩
    exact kk v F2 H2 (s1.trans ((Step.ofDats s1.sat st).step s1.sat)) o1 hv⟩
theorem o_callK0 {ix : List Nat} {m : Nat} {R : List PyData → List PyData → Prop} {ds' : List PyData} (G : FnG X.prog X.w X.K X.mg X.base CX0 k f fd ps (spOf X.K (newS R))) (room : Room k X.A) (grd : X.A.guards = some []) (gl : Gl X x) (hm : X.mg x = some (.ref f)) (kp : PySem.W.keepIn X.K (.ref f) = true)
    (kb : KBinds X.K fd ps ks (permK ix m) (permK ix m)) (hkw : KD X ρ kws ρ1 ds) (hp : permK ix m [] ds = ds') (hR : R ds' l) (hall : (backToKw pos (keywordEach kws X.env)).all (·.1.isSome) = true := by rfl) (hks : (backToKw pos (keywordEach kws X.env)).filterMap (·.1) = ks := by rfl)
    (hdb : (x == ("__debug__" : Str)) = false := by decide)
    (hpl : ((backTo pos (starEach [] X.env)).any (·.1) || (backToKw pos (keywordEach kws X.env)).any (·.1.isNone)) = false := by rfl) : EO X ρ (.Call (.Name x p) [] kws pos) ρ1 l := by
  subst hp
  exact (g_callK0 G room grd gl hm kp kb pass0 hkw hall hks hdb hpl).weak fun σ H Q ⟨F, S, kk⟩ => ⟨F, S, fun vs F1 H1 s1 o1 v1 => by
    refine ⟨_, _, _, ⟨_, l, hR, rfl, rfl, rfl⟩, F1, sat_dats (permK_dqA .nil v1) s1.sat.sub, fun v F2 H2 st _ hv => ?_⟩
    have s2 := s1.trans ((Step.ofDats s1.sat st).step s1.sat)
    obtain ⟨q, o, e1, e2, e3, e4, e5⟩ := hv
    exact kk v F2 H2 s2 o1 ⟨q, o, e1, ⟨.inl (s1.fresh e2).1, fun z => (s1.sat.ownF z).2 e2⟩, e3, e4, e5⟩⟩
end

/-! ### a thing lent -/
section
variable {K : PySem.W.Frag} {F F' H H' : Hp} {ρ ρ' : Rho} {σ σ' : L2.St} {ds : List PyData} {vs : List V} {q : Addr} {m m' : Mu} {n : Nat} {c : Cell}
theorem own_bor (h : Own ((Cell.bor q m :: ds.map Cell.dat).map some) ((V.ref q :: vs).map some) p) : p = q := by
  obtain ⟨i, c, m1, e1, e2, e3⟩ := h
  cases i with
  | zero =>
    have : some (some (V.ref q)) = some (some (V.ref p)) := e3
    cases this
    rfl
  | succ i => exact (noHeld (ds := ds) (σ := vs.map some) (i := i) (q := p) ⟨c, m1, by simpa using e1, e2, by simpa using e3⟩).elim
theorem bor_own : Own ((Cell.bor q m :: ds.map Cell.dat).map some) ((V.ref q :: vs).map some) q := ⟨0, _, m, rfl, rfl, rfl⟩
theorem sat_bor (h : DqA K F vs ds) (s : Same F H) (h1 : F q = none) {o : HO} (h2 : H q = some o) (h3 : MuOk K F m o) : Sat K F ((Cell.bor q m :: ds.map Cell.dat).map some) ((V.ref q :: vs).map some) H := by
  refine ⟨?_, s, fun i c x e1 e2 => ?_, fun i j r a b => ?_⟩
  · simp only [List.map_cons, List.length_cons, List.length_map]
    rw [h.length]
  · cases i with
    | zero =>
      cases e1
      cases e2
      exact ⟨o, rfl, h1, h2, h3⟩
    | succ i => exact h.slots (i := i) (by simpa using e1) (by simpa using e2)
  · have z : ∀ i, Held ((Cell.bor q m :: ds.map Cell.dat).map some) ((V.ref q :: vs).map some) i r → i = 0 := fun i a => by
      cases i with
      | zero => rfl
      | succ i =>
        obtain ⟨c, m1, e1, e2, e3⟩ := a
        exact (noHeld (ds := ds) (σ := vs.map some) (i := i) (q := r) ⟨c, m1, by simpa using e1, e2, by simpa using e3⟩).elim
    rw [z i a, z j b]
theorem mu_put (h : c.mu = some m) : (c.put m').mu = some m' := by
  cases c with
  | dat d => cases h
  | own _ => rfl
  | bor _ _ => rfl
  | scr _ => cases h
/-- the slot n holds another thing at the same place -/
theorem held_put (h : ρ[n]? = some (some c)) (hm : c.mu = some m) {i : Nat} {r : Addr} : Held (ρ.set n (some (c.put m'))) σ i r ↔ Held ρ σ i r := by
  constructor
  · rintro ⟨c1, m1, e1, e2, e3⟩
    by_cases e : n = i
    · subst e
      exact ⟨c, m, h, hm, e3⟩
    · rw [List.getElem?_set_ne e] at e1
      exact ⟨c1, m1, e1, e2, e3⟩
  · rintro ⟨c1, m1, e1, e2, e3⟩
    by_cases e : n = i
    · subst e
      exact ⟨c.put m', m', by rw [List.getElem?_set_self (List.getElem?_eq_some_iff.mp h).1], mu_put hm, e3⟩
    · exact ⟨c1, m1, by rw [List.getElem?_set_ne e]; exact e1, e2, e3⟩
theorem own_put (h : ρ[n]? = some (some c)) (hm : c.mu = some m) {r : Addr} : Own (ρ.set n (some (c.put m'))) σ r ↔ Own ρ σ r :=
  ⟨fun ⟨i, z⟩ => ⟨i, (held_put h hm).mp z⟩, fun ⟨i, z⟩ => ⟨i, (held_put h hm).mpr z⟩⟩
/-- the thing of the slot n is changed, at q, and the frozen part and the heap grow -/
theorem Step.changed (S : Sat K F ρ σ H) (h : ρ[n]? = some (some c)) (hm : c.mu = some m) (hq : σ[n]? = some (some (.ref q))) (fr : Same F F') (new : ∀ r, F r = none → H r ≠ none → r ≠ q → F' r = none) (keep : ∀ r o, H r = some o → r ≠ q → H' r = some o)
    (sub : Same F' H') {o' : HO} (h1 : F' q = none) (h2 : H' q = some o') (h3 : MuOk K F' m' o') : Step K ρ σ F H (ρ.set n (some (c.put m'))) σ F' H' := by
  have oq : Own ρ σ q := ⟨n, c, m, h, hm, hq⟩
  refine ⟨fr, fun r a b z => new r a b fun e => z (by rw [e]; exact oq), fun r o a z => keep r o a fun e => z (by rw [e]; exact oq), fun r a => ?_, ⟨by rw [List.length_set]; exact S.len, sub, fun i c1 x e1 e2 => ?_, fun i j r a b => S.inj i j r ((held_put h hm).mp a) ((held_put h hm).mp b)⟩, fun r z => .inl ((own_put h hm).mp z)⟩
  · by_cases e : r = q
    · rw [e, h2]
      simp
    · cases z : H r with
      | none => exact absurd z a
      | some o => rw [keep r o z e]; simp
  · by_cases e : n = i
    · subst e
      rw [List.getElem?_set_self (List.getElem?_eq_some_iff.mp h).1] at e1
      cases e1
      rw [hq] at e2
      cases e2
      have sl := S.slot n _ _ h hq
      cases c with
      | dat d => cases hm
      | scr ns => cases hm
      | own m1 => exact ⟨q, o', rfl, h1, h2, h3⟩
      | bor p1 m1 =>
        obtain ⟨_, e3, _⟩ := sl
        cases e3
        exact ⟨o', rfl, h1, h2, h3⟩
    · rw [List.getElem?_set_ne e] at e1
      have sl := S.slot i _ _ e1 e2
      cases c1 with
      | none => trivial
      | some c1 =>
        cases c1 with
        | dat d =>
          obtain ⟨v, q1, q2⟩ := sl
          exact ⟨v, q1, q2.mono fr⟩
        | scr ns =>
          obtain ⟨a, q1, q2⟩ := sl
          exact ⟨a, q1, fr.seq q2⟩
        | own m1 =>
          obtain ⟨r, u, q1, q2, q3, q4⟩ := sl
          have ne : r ≠ q := fun z => e (S.inj n i q ⟨c, m, h, hm, hq⟩ ⟨_, m1, e1, rfl, by rw [e2, q1, z]⟩)
          exact ⟨r, u, q1, new r q2 (by rw [q3]; simp) ne, keep r u q3 ne, q4.mono fr⟩
        | bor r m1 =>
          obtain ⟨u, q1, q2, q3, q4⟩ := sl
          have ne : r ≠ q := fun z => e (S.inj n i q ⟨c, m, h, hm, hq⟩ ⟨_, m1, e1, rfl, by rw [e2, q1, z]⟩)
          exact ⟨u, q1, new r q2 (by rw [q3]; simp) ne, keep r u q3 ne, q4.mono fr⟩
theorem Step.lent (S : Sat K F ρ σ H) (h : ρ[n]? = some (some c)) (hm : c.mu = some m) (hq : σ[n]? = some (some (.ref q)))
    (st : Step K ((Cell.bor q m :: ds.map Cell.dat).map some) ((V.ref q :: vs).map some) F H ((Cell.bor q m' :: ds.map Cell.dat).map some) ((V.ref q :: vs).map some) F' H') : Step K ρ σ F H (ρ.set n (some (c.put m'))) σ F' H' := by
  obtain ⟨o, e1, e2, e3, e4⟩ := st.sat.slot 0 _ _ rfl rfl
  exact Step.changed S h hm hq st.fr (fun r a b z => st.new r a b fun y => z (own_bor y)) (fun r o a z => st.keep r o a fun y => z (own_bor y)) st.sat.sub e2 e3 e4
end
section
variable {X : Cx} {k n : Nat} {f : Addr} {fd : FuncData} {ps ks : List Str} {ρ ρ1 ρ2 : Rho} {x y : Str} {p pos px : Pos} {e : Expr} {es : List Expr} {kws : List Keyword} {ds : List PyData} {d : PyData} {l m0 m m' : List PyData} {c c1 : Cell}
/-- f(x, e, ..), x a list that is lent -/
theorem e_callP (n : Nat) {R : List PyData → List PyData → List PyData → PyData → Prop} (G : FnG X.prog X.w X.K X.mg X.base CX0 k f fd ps (spOf X.K (potS R))) (room : Room k X.A) (grd : X.A.guards = some []) (gl : Gl X x) (hm : X.mg x = some (.ref f)) (kp : PySem.W.keepIn X.K (.ref f) = true)
    (bn : Binds X.K fd ps []) (h0 : ρ[n]? = some (some c)) (hc : c.mu = some (.lst m0)) (ha : AD X ρ es ρ1 ds) (h1 : ρ1[n]? = some (some c1)) (hc1 : c1.mu = some (.lst m)) (hR : R m ds m' d) (hN : X.N[n]? = some y) (hv : Vis X.env.scope y)
    (hd1 : (y == ("__debug__" : Str)) = false := by decide) (hcd : (y == ("__classdict__" : Str)) = false := by decide)
    (hdb : (x == ("__debug__" : Str)) = false := by decide) (he : starEach (.Name y px :: es) X.env = (false, eval (.Name y px) X.env) :: starEach es X.env := by rfl)
    (hpl : (backTo pos (starEach es X.env)).any (·.1) = false := by rfl) : ED X ρ (.Call (.Name x p) (.Name y px :: es) [] pos) (ρ1.set n (some (c1.put (.lst m')))) d :=
  (g_call G room grd gl hm kp bn .nil pass0 (pa_cons (pe_var hN hv hd1 hcd) ha he) hdb he hpl).weak fun σ H Q ⟨F, S, kk⟩ => by
    obtain ⟨q, o, e1, e2, e3, e4⟩ := S.held h0 hc
    refine ⟨_, e1, F, S, fun vs F1 H1 s1 o1 v1 => ?_⟩
    obtain ⟨q', o', f1, f2, f3, f4⟩ := s1.sat.held h1 hc1
    rw [e1] at f1
    cases f1
    refine nilArgs (spOf X.K _) (V.ref q :: vs) H1 Q _ ?_
    refine ⟨_, _, _, ⟨q, m, ds, m', d, hR, rfl, rfl, rfl⟩, F1, ?_, fun v F2 H2 st _ hv => ?_⟩
    · exact sat_bor v1 s1.sat.sub f2 f3 f4
    · exact kk v F2 H2 (s1.trans (Step.lent s1.sat h1 hc1 e1 st)) (fun r z => o1 r ((own_put h1 hc1).mp z)) hv
/-- f(x, e, ..), x the script -/
theorem c_callS (n : Nat) {R : List Int → List PyData → Cell → Prop} {ns : List Int} {r : Cell} (G : FnG X.prog X.w X.K X.mg X.base CX0 k f fd ps (spOf X.K (scrS R))) (room : Room k X.A) (grd : X.A.guards = some []) (gl : Gl X x) (hm : X.mg x = some (.ref f)) (kp : PySem.W.keepIn X.K (.ref f) = true)
    (bn : Binds X.K fd ps []) (h0 : ρ[n]? = some (some (.scr ns))) (ha : AD X ρ es ρ1 ds) (hR : R ns ds r) (hN : X.N[n]? = some y) (hv : Vis X.env.scope y)
    (hd1 : (y == ("__debug__" : Str)) = false := by decide) (hcd : (y == ("__classdict__" : Str)) = false := by decide)
    (hdb : (x == ("__debug__" : Str)) = false := by decide) (he : starEach (.Name y px :: es) X.env = (false, eval (.Name y px) X.env) :: starEach es X.env := by rfl)
    (hpl : (backTo pos (starEach es X.env)).any (·.1) = false := by rfl) : PE X (.Call (.Name x p) (.Name y px :: es) [] pos) (tD X.K ρ ρ1 r) :=
  (g_call G room grd gl hm kp bn .nil pass0 (pa_cons (pe_var hN hv hd1 hcd) ha he) hdb he hpl).weak fun σ H Q ⟨F, S, kk⟩ => by
    obtain ⟨q, e1, e2⟩ := S.scr h0
    refine ⟨_, e1, F, S, fun vs F1 H1 s1 o1 v1 => ?_⟩
    refine nilArgs (spOf X.K _) (V.ref q :: vs) H1 Q _ ?_
    have nh : ∀ i r, ¬ Held ((Cell.scr ns :: ds.map Cell.dat).map some) ((V.ref q :: vs).map some) i r := fun i r => by
      rintro ⟨c, m1, a1, a2, a3⟩
      cases i with
      | zero =>
        cases a1
        cases a2
      | succ i => exact noHeld (ds := ds) (σ := vs.map some) (i := i) (q := r) ⟨c, m1, by simpa using a1, a2, by simpa using a3⟩
    refine ⟨_, _, _, ⟨ns, ds, hR, rfl, rfl⟩, F1, ⟨?_, s1.sat.sub, fun i c x a1 a2 => ?_, fun i j r a _ => (nh i r a).elim⟩, fun v F2 H2 st _ hv => ?_⟩
    · simp only [List.map_cons, List.length_cons, List.length_map]
      rw [v1.length]
    · cases i with
      | zero =>
        cases a1
        cases a2
        exact ⟨q, rfl, s1.fr.seq e2⟩
      | succ i => exact v1.slots (i := i) (by simpa using a1) (by simpa using a2)
    · have g : Grow F1 H1 F2 H2 := ⟨st.fr, fun r a b => st.new r a b fun ⟨i, z⟩ => nh i r z, fun r o a => st.keep r o a fun ⟨i, z⟩ => nh i r z, st.sat.sub⟩
      refine kk v F2 H2 (s1.trans (g.step s1.sat)) o1 ?_
      cases r with
      | dat d => exact hv
      | own mm =>
        obtain ⟨r, o, b1, b2, b3, b4, b5⟩ := hv
        exact ⟨r, o, b1, ⟨.inl (s1.fresh b2).1, fun z => (s1.sat.ownF z).2 b2⟩, b3, b4, b5⟩
      | bor _ _ => exact hv
      | scr _ => exact hv
end
end Cl

set_option maxRecDepth 100000
namespace Cl
open PySem PySem.Spec PyProof.Rows L2
/-! ### statements -/
inductive Out where
  | nx (ρ : Rho)
  | rt (c : Cell) (bs : List (Addr × Mu))
  | bk (ρ : Rho)
  | ct (ρ : Rho)
def Goes (K : PySem.W.Frag) (o : Out) (D : Ends) (ρ : Rho) (σ : L2.St) (F H : Hp) : Prop :=
  match o with
  | .nx ρ' => ∀ σ' F' H', Step K ρ σ F H ρ' σ' F' H' → D.nx σ' H'
  | .rt c bs => ∀ v ρ' σ' F' H', Step K ρ σ F H ρ' σ' F' H' → (∀ q ∈ bs, ∃ j : Nat, ρ'[j]? = some (some (.bor q.1 q.2))) → Val K F' H' (fun p => (H p = none ∨ Own ρ σ p) ∧ ¬ Own ρ' σ' p) v c → D.rt v H'
  | .bk ρ' => ∀ σ' F' H', Step K ρ σ F H ρ' σ' F' H' → D.bk σ' H'
  | .ct ρ' => ∀ σ' F' H', Step K ρ σ F H ρ' σ' F' H' → D.ct σ' H'
theorem Val.imp {K : PySem.W.Frag} {F H : Hp} {N N' : Addr → Prop} {v : V} {c : Cell} (h : Val K F H N v c) (k : ∀ p, N p → N' p) : Val K F H N' v c := by
  cases c with
  | dat d => exact h
  | own m =>
    obtain ⟨p, o, h1, h2, h3⟩ := h
    exact ⟨p, o, h1, k p h2, h3⟩
  | bor _ _ => exact h
  | scr _ => exact h
/-- what was so far nobody's or mine -/
theorem Step.mine {K : PySem.W.Frag} {F F1 H H1 : Hp} {ρ ρ1 : Rho} {σ σ1 : L2.St} (a : Step K ρ σ F H ρ1 σ1 F1 H1) {p : Addr} (h : H1 p = none ∨ Own ρ1 σ1 p) : H p = none ∨ Own ρ σ p := by
  rcases h with h | h
  · exact .inl (a.fresh h).1
  · rcases a.own p h with h | h
    · exact .inr h
    · exact .inl h
theorem Goes.step {K : PySem.W.Frag} {o : Out} {D : Ends} {ρ ρ1 : Rho} {σ σ1 : L2.St} {F H F1 H1 : Hp} (a : Step K ρ σ F H ρ1 σ1 F1 H1) (g : Goes K o D ρ σ F H) : Goes K o D ρ1 σ1 F1 H1 := by
  cases o with
  | nx ρ' => exact fun σ' F' H' b => g σ' F' H' (a.trans b)
  | rt c bs => exact fun v ρ' σ' F' H' b hb hv => g v ρ' σ' F' H' (a.trans b) hb (hv.imp fun p hp => ⟨a.mine hp.1, hp.2⟩)
  | bk ρ' => exact fun σ' F' H' b => g σ' F' H' (a.trans b)
  | ct ρ' => exact fun σ' F' H' b => g σ' F' H' (a.trans b)
def tS (K : PySem.W.Frag) (ρ : Rho) (o : Out) : TS := fun D σ H => ∃ F, Sat K F ρ σ H ∧ Goes K o D ρ σ F H
abbrev SD (X : Cx) (ρ : Rho) (st : Stmt) (o : Out) : Prop := PS X st (tS X.K ρ o)
abbrev SDs (X : Cx) (ρ : Rho) (sts : List Stmt) (o : Out) : Prop := PSs X sts (tS X.K ρ o)
def Out.stops : Out → Bool
  | .nx _ => false
  | _ => true
section
variable {X : Cx} {ρ ρ1 ρ2 ρ3 : Rho} {st : Stmt} {sts a b : List Stmt} {o : Out} {e e1 e2 c : Expr} {d d1 d2 : PyData} {l l1 : List PyData} {pos p p2 p3 : Pos} {u : Bool} {x y : Str} {cc c1 : Cell}
theorem ss_nil : SDs X ρ [] (.nx ρ) := pss_nil.weak fun D σ H ⟨F, S, g⟩ => g σ F H (Step.refl S)
theorem ss_one (h : SD X ρ st o) : SDs X ρ [st] o := pss_one h
theorem ss_cons (h : SD X ρ st (.nx ρ1)) (t : SDs X ρ1 sts o) : SDs X ρ (st :: sts) o :=
  (pss_cons h t).weak fun D σ H ⟨F, S, g⟩ => ⟨F, S, fun σ1 F1 H1 s1 => ⟨F1, s1.sat, g.step s1⟩⟩
theorem ss_stop (h : SD X ρ st o) (hs : o.stops = true := by rfl) : SDs X ρ (st :: sts) o :=
  (pss_cons h pss_never).weak fun D σ H ⟨F, S, g⟩ => ⟨F, S, by
    cases o with
    | nx ρ' => cases hs
    | rt c bs => exact g
    | bk ρ' => exact g
    | ct ρ' => exact g⟩
theorem s_ret {bs : List (Addr × Mu)} (h : ED X ρ e ρ1 d) (hb : ∀ q ∈ bs, ∃ j : Nat, ρ1[j]? = some (some (.bor q.1 q.2)) := by exact fun _ h => nomatch h) : SD X ρ (.Return (some e) pos) (.rt (.dat d) bs) := (ps_ret h).weak fun D σ H ⟨F, S, g⟩ => ⟨F, S, fun v F1 H1 s1 o1 hv => g v ρ1 σ F1 H1 s1 hb hv⟩
theorem s_retO {bs : List (Addr × Mu)} (h : EO X ρ e ρ1 l) (hb : ∀ q ∈ bs, ∃ j : Nat, ρ1[j]? = some (some (.bor q.1 q.2)) := by exact fun _ h => nomatch h) : SD X ρ (.Return (some e) pos) (.rt (.own (.lst l)) bs) := (ps_ret h).weak fun D σ H ⟨F, S, g⟩ => ⟨F, S, fun v F1 H1 s1 o1 hv => g v ρ1 σ F1 H1 s1 hb hv⟩
theorem s_retN {bs : List (Addr × Mu)} (hb : ∀ q ∈ bs, ∃ j : Nat, ρ[j]? = some (some (.bor q.1 q.2)) := by exact fun _ h => nomatch h) : SD X ρ (.Return none pos) (.rt (.dat .none) bs) := ps_retN.weak fun D σ H ⟨F, S, g⟩ => g .non ρ σ F H (Step.refl S) hb .non
theorem one_bor {ρ : Rho} {p : Addr} {m : Mu} (j : Nat) (h : ρ[j]? = some (some (.bor p m))) : ∀ q ∈ [(p, m)], ∃ j : Nat, ρ[j]? = some (some (.bor q.1 q.2)) := fun q hq => by
  have e := List.mem_singleton.mp hq
  subst e
  exact ⟨j, h⟩
theorem s_pass : SD X ρ (.Pass pos) (.nx ρ) := ps_pass.weak fun D σ H ⟨F, S, g⟩ => g σ F H (Step.refl S)
theorem s_expr (h : ED X ρ e ρ1 d) (hs : swapsWith e none pos.line X.env = pure false := by rfl) : SD X ρ (.Expr e pos) (.nx ρ1) := (ps_expr h hs).weak fun D σ H ⟨F, S, g⟩ => ⟨F, S, fun v F1 H1 s1 o1 hv => g σ F1 H1 s1⟩
theorem s_if (hc : TD X ρ c ρ1 u) (ha : u = true → SDs X ρ1 a o) (hb : u = false → SDs X ρ1 b o) : SD X ρ (.If c a b pos) o := by
  cases u with
  | true => exact (ps_if hc (ha rfl) pss_never).weak fun D σ H ⟨F, S, g⟩ => ⟨F, S, fun F1 H1 s1 o1 => iteT ⟨F1, s1.sat, g.step s1⟩⟩
  | false => exact (ps_if hc pss_never (hb rfl)).weak fun D σ H ⟨F, S, g⟩ => ⟨F, S, fun F1 H1 s1 o1 => iteF ⟨F1, s1.sat, g.step s1⟩⟩
theorem s_ifT (hc : TD X ρ c ρ1 true) (ha : SDs X ρ1 a o) : SD X ρ (.If c a b pos) o := s_if hc (fun _ => ha) fun h => by cases h
theorem s_ifF (hc : TD X ρ c ρ1 false) (hb : SDs X ρ1 b o) : SD X ρ (.If c a b pos) o := s_if hc (fun h => by cases h) fun _ => hb
/-- two ways -/
theorem ss_split (hc : TD X ρ c ρ1 u) (hT : u = true → TD X ρ c ρ1 true → SDs X ρ (.If c a b pos :: sts) o) (hF : u = false → TD X ρ c ρ1 false → SDs X ρ (.If c a b pos :: sts) o) : SDs X ρ (.If c a b pos :: sts) o := by
  cases u with
  | true => exact hT rfl hc
  | false => exact hF rfl hc
theorem o_conv {o o' : Out} (h : SDs X ρ sts o) (e : o = o') : SDs X ρ sts o' := by rw [← e]; exact h
theorem s_brk : SD X ρ (.Break pos) (.bk ρ) := ps_break.weak fun D σ H ⟨F, S, g⟩ => g σ F H (Step.refl S)
theorem s_cont : SD X ρ (.Continue pos) (.ct ρ) := ps_continue.weak fun D σ H ⟨F, S, g⟩ => g σ F H (Step.refl S)

/-! ### stores to names -/
section
variable {K : PySem.W.Frag} {F F' H H' : Hp} {σ σ' : L2.St} {n : Nat}
theorem Held.ofSet {cn : Option Cell} {v : Option V} (hn : ∀ c, cn = some c → c.mu = none) {i : Nat} {q : Addr} (h : Held (ρ.set n cn) (σ.set n v) i q) : Held ρ σ i q ∧ i ≠ n := by
  obtain ⟨c, m, e1, e2, e3⟩ := h
  by_cases e : n = i
  · subst e
    rw [List.getElem?_set] at e1
    rw [if_pos rfl] at e1
    split at e1
    · cases e1
      rw [hn c rfl] at e2
      cases e2
    · cases e1
  · rw [List.getElem?_set_ne e] at e1 e3
    exact ⟨⟨c, m, e1, e2, e3⟩, fun z => e z.symm⟩
theorem Step.setD (S : Sat K F ρ σ H) {v : V} (hv : Dq K F v d) : Step K ρ σ F H (ρ.set n (some (.dat d))) (σ.set n (some v)) F H := by
  have z : ∀ c, some (Cell.dat d) = some c → c.mu = none := fun c e => by cases e; rfl
  refine ⟨Same.refl F, fun _ a _ _ => a, fun _ _ a _ => a, fun _ a => a, ⟨by rw [List.length_set, List.length_set]; exact S.len, S.sub, fun i c x a b => ?_, fun i j q a b => S.inj i j q (Held.ofSet z a).1 (Held.ofSet z b).1⟩, fun q ⟨i, a⟩ => .inl ⟨i, (Held.ofSet z a).1⟩⟩
  by_cases e : n = i
  · subst e
    rw [List.getElem?_set, if_pos rfl] at a b
    split at a
    · split at b
      · cases a
        cases b
        exact ⟨v, rfl, hv⟩
      · cases b
    · cases a
  · rw [List.getElem?_set_ne e] at a b
    exact S.slot i c x a b
/-- a slot is forgotten -/
theorem Step.forget (S : Sat K F ρ σ H) : Step K ρ σ F H (ρ.set n none) σ F H := by
  have z : ∀ {i q}, Held (ρ.set n none) σ i q → Held ρ σ i q := fun {i q} ⟨c, m, e1, e2, e3⟩ => by
    by_cases e : n = i
    · subst e
      rw [List.getElem?_set, if_pos rfl] at e1
      split at e1 <;> cases e1
    · rw [List.getElem?_set_ne e] at e1
      exact ⟨c, m, e1, e2, e3⟩
  refine ⟨Same.refl F, fun _ a _ _ => a, fun _ _ a _ => a, fun _ a => a, ⟨by rw [List.length_set]; exact S.len, S.sub, fun i c x a b => ?_, fun i j q a b => S.inj i j q (z a) (z b)⟩, fun q ⟨i, a⟩ => .inl ⟨i, z a⟩⟩
  by_cases e : n = i
  · subst e
    rw [List.getElem?_set, if_pos rfl] at a
    split at a
    · cases a
      trivial
    · cases a
  · rw [List.getElem?_set_ne e] at a
    exact S.slot i c x a b
theorem Step.setO (S : Sat K F ρ σ H) {p : Addr} {ho : HO} {m : Mu} (h1 : ¬ Own ρ σ p) (h2 : F p = none) (h3 : H p = some ho) (h4 : MuOk K F m ho) (hp : ∀ H0 : Hp, True) : Sat K F (ρ.set n (some (.own m))) (σ.set n (some (.ref p))) H ∧ ∀ q, Own (ρ.set n (some (.own m))) (σ.set n (some (.ref p))) q → Own ρ σ q ∨ q = p := by
  have z : ∀ {i q}, Held (ρ.set n (some (.own m))) (σ.set n (some (.ref p))) i q → (Held ρ σ i q ∧ i ≠ n) ∨ (i = n ∧ q = p) := fun {i q} ⟨c, m1, e1, e2, e3⟩ => by
    by_cases e : n = i
    · subst e
      rw [List.getElem?_set, if_pos rfl] at e3
      split at e3
      · cases e3
        exact .inr ⟨rfl, rfl⟩
      · cases e3
    · rw [List.getElem?_set_ne e] at e1 e3
      exact .inl ⟨⟨c, m1, e1, e2, e3⟩, fun z => e z.symm⟩
  refine ⟨⟨by rw [List.length_set, List.length_set]; exact S.len, S.sub, fun i c x a b => ?_, fun i j q a b => ?_⟩, fun q ⟨i, a⟩ => ?_⟩
  · by_cases e : n = i
    · subst e
      rw [List.getElem?_set, if_pos rfl] at a b
      split at a
      · split at b
        · cases a
          cases b
          exact ⟨p, ho, rfl, h2, h3, h4⟩
        · cases b
      · cases a
    · rw [List.getElem?_set_ne e] at a b
      exact S.slot i c x a b
  · rcases z a with ⟨a1, ai⟩ | ⟨ai, aq⟩
    · rcases z b with ⟨b1, bi⟩ | ⟨bi, bq⟩
      · exact S.inj i j q a1 b1
      · exact (h1 ⟨i, by rw [← bq]; exact a1⟩).elim
    · rcases z b with ⟨b1, bi⟩ | ⟨bi, bq⟩
      · exact (h1 ⟨j, by rw [← aq]; exact b1⟩).elim
      · rw [ai, bi]
  · rcases z a with ⟨a, _⟩ | ⟨_, q⟩
    · exact .inl ⟨i, a⟩
    · exact .inr q
end
theorem Step.into {K : PySem.W.Frag} {F H F1 H1 : Hp} {σ σ1 : L2.St} {n : Nat} (s1 : Step K ρ σ F H ρ1 σ1 F1 H1) {v : V} {m : Mu} (hv : Val K F1 H1 (fun p => (H p = none ∨ Own ρ σ p) ∧ ¬ Own ρ1 σ1 p) v (.own m)) : Step K ρ σ F H (ρ1.set n (some (.own m))) (σ1.set n (some v)) F1 H1 := by
  obtain ⟨p, o, h0, ⟨h1, h2⟩, h3, h4, h5⟩ := hv
  subst h0
  obtain ⟨a, b⟩ := Step.setO (n := n) s1.sat h2 h3 h4 h5 fun _ => trivial
  refine ⟨s1.fr, s1.new, s1.keep, s1.live, a, fun q z => ?_⟩
  rcases b q z with y | y
  · exact s1.own q y
  · subst y
    rcases h1 with h | h
    · exact .inr h
    · exact .inl h
theorem s_set (n : Nat) (h : ED X ρ e ρ1 d) (nd : X.N.Nodup) (hN : X.N[n]? = some x) (hx : Loc X.env.scope x) (hs : swapsWith e (some (.Name x p)) pos.line X.env = pure false := by rfl) (hf : X.fn x = true ∨ X.env.scope.names.lookup x = some .local := by first | exact .inl rfl | exact .inr rfl | assumption) :
    SD X ρ (.Assign [.Name x p] e pos) (.nx (ρ1.set n (some (.dat d)))) := (ps_set nd hN hx h hs hf).weak fun D σ H ⟨F, S, g⟩ => ⟨F, S, fun v F1 H1 s1 o1 hv => g _ _ _ (s1.trans (Step.setD s1.sat hv))⟩
theorem s_setO (n : Nat) (h : EO X ρ e ρ1 l) (nd : X.N.Nodup) (hN : X.N[n]? = some x) (hx : Loc X.env.scope x) (hs : swapsWith e (some (.Name x p)) pos.line X.env = pure false := by rfl) (hf : X.fn x = true ∨ X.env.scope.names.lookup x = some .local := by first | exact .inl rfl | exact .inr rfl | assumption) :
    SD X ρ (.Assign [.Name x p] e pos) (.nx (ρ1.set n (some (.own (.lst l))))) := (ps_set nd hN hx h hs hf).weak fun D σ H ⟨F, S, g⟩ => ⟨F, S, fun v F1 H1 s1 o1 hv => g _ _ _ (s1.into hv)⟩
/-- a, b = e1, e2: two locals, without a tuple -/
theorem s_par (n m : Nat) {kt k2 : Nat} {pt pt2 px py : Pos} (hc : X.calm = true) (ha : ED X ρ e1 ρ1 d1) (hb : ED X ρ1 e2 ρ2 d2) (nd : X.N.Nodup) (hN : X.N[n]? = some x) (hM : X.N[m]? = some y) (hnm : n ≠ m) (hx : X.env.scope.names.lookup x = some .local)
    (hy : X.env.scope.names.lookup y = some .local) (hw : swappedStores [.Tuple [.Name x px, .Name y py] kt pt] (.Tuple [e1, e2] k2 pt2) X.env = pure (some [x, y])) (hq : starEach [e1, e2] X.env = (false, eval e1 X.env) :: starEach [e2] X.env := by rfl) (hq2 : starEach [e2] X.env = (false, eval e2 X.env) :: starEach [] X.env := by rfl)
    (hs : swapsWithSole [.Tuple [.Name x px, .Name y py] kt pt] (.Tuple [e1, e2] k2 pt2) pos.line X.env = pure false := by rfl) :
    SD X ρ (.Assign [.Tuple [.Name x px, .Name y py] kt pt] (.Tuple [e1, e2] k2 pt2) pos) (.nx ((ρ2.set n (some (.dat d1))).set m (some (.dat d2)))) :=
  (ps_par hc nd hN hM hnm hx hy (a_cons ha (a_cons hb a_nil hq2) hq) hw hs).weak fun D σ H ⟨F, S, g⟩ => ⟨F, S, fun vs F1 H1 s1 o1 hv => by
    cases hv with
    | cons h1 t =>
      cases t with
      | cons h2 t =>
        cases t
        have t1 := s1.trans (Step.setD (n := n) s1.sat h1)
        exact ⟨_, _, rfl, g _ _ _ (t1.trans (Step.setD (n := m) t1.sat h2))⟩⟩
theorem s_parO (n m : Nat) {kt k2 : Nat} {pt pt2 px py : Pos} (hc : X.calm = true) (ha : ED X ρ e1 ρ1 d1) (hb : EO X ρ1 e2 ρ2 l) (nd : X.N.Nodup) (hN : X.N[n]? = some x) (hM : X.N[m]? = some y) (hnm : n ≠ m) (hx : X.env.scope.names.lookup x = some .local)
    (hy : X.env.scope.names.lookup y = some .local) (hw : swappedStores [.Tuple [.Name x px, .Name y py] kt pt] (.Tuple [e1, e2] k2 pt2) X.env = pure (some [x, y])) (hq : starEach [e1, e2] X.env = (false, eval e1 X.env) :: starEach [e2] X.env := by rfl) (hq2 : starEach [e2] X.env = (false, eval e2 X.env) :: starEach [] X.env := by rfl)
    (hs : swapsWithSole [.Tuple [.Name x px, .Name y py] kt pt] (.Tuple [e1, e2] k2 pt2) pos.line X.env = pure false := by rfl) :
    SD X ρ (.Assign [.Tuple [.Name x px, .Name y py] kt pt] (.Tuple [e1, e2] k2 pt2) pos) (.nx ((ρ2.set n (some (.dat d1))).set m (some (.own (.lst l))))) :=
  (ps_par hc nd hN hM hnm hx hy (pa_cons ha (pa_cons hb pa_nil hq2) hq) hw hs).weak fun D σ H ⟨F, S, g⟩ => ⟨F, S, fun v1 F1 H1 s1 o1 h1 => ⟨F1, s1.sat, fun v2 F2 H2 s2 o2 h2 => by
    have t1 := (s1.trans s2).trans (Step.setD (n := n) (d := d1) s2.sat (Dq.mono s2.fr _ h1))
    refine ⟨_, _, rfl, g _ _ _ (t1.into (n := m) (Val.imp h2 fun q hq => ⟨s1.mine hq.1, fun ⟨i, z⟩ => hq.2 ⟨i, (Held.ofSet (fun c e => by cases e; rfl) z).1⟩⟩))⟩⟩⟩
/-- targets -/
def Same0 (vs : List Nat) (σ σ' : L2.St) : Prop := σ'.length = σ.length ∧ ∀ i, i ∉ vs → σ'[i]? = σ[i]?
def tG (K : PySem.W.Frag) (vs : List Nat) (ρ : Rho) (d : PyData) (ρ' : Rho) : TG := fun v σ H Q => ∃ F, Sat K F ρ σ H ∧ Dq K F v d ∧ ∀ σ' F' H', Step K ρ σ F H ρ' σ' F' H' → Same0 vs σ σ' → (∀ q, Own ρ' σ' q → Own ρ σ q) → Q σ' H'
def tGs (K : PySem.W.Frag) (vs : List Nat) (ρ : Rho) (ds : List PyData) (ρ' : Rho) : TGs := fun us σ H Q => ∃ F, Sat K F ρ σ H ∧ DqA K F us ds ∧ ∀ σ' F' H', Step K ρ σ F H ρ' σ' F' H' → Same0 vs σ σ' → (∀ q, Own ρ' σ' q → Own ρ σ q) → Q σ' H'
abbrev GD (X : Cx) (vs : List Nat) (ρ : Rho) (tg : Expr) (d : PyData) (ρ' : Rho) : Prop := PG X tg (tG X.K vs ρ d ρ')
abbrev GDs (X : Cx) (vs : List Nat) (ρ : Rho) (tg : List Expr) (ds : List PyData) (ρ' : Rho) : Prop := PGs X tg (tGs X.K vs ρ ds ρ')
theorem _root_.L2.PG.weak {tg : Expr} {t t' : TG} (h : PG X tg t) (k : ∀ v σ H Q, t' v σ H Q → t v σ H Q) : PG X tg t' := ⟨fun pins s σ H v u Q I r q => h.run pins s σ H v u Q I r (k v σ H Q q)⟩
theorem _root_.L2.PGs.weak {tg : List Expr} {t t' : TGs} (h : PGs X tg t) (k : ∀ v σ H Q, t' v σ H Q → t v σ H Q) : PGs X tg t' := ⟨fun pins s σ H v u Q I r q => h.run pins s σ H v u Q I r (k v σ H Q q)⟩
theorem Same0.trans {vs us : List Nat} {σ σ1 σ2 : L2.St} (a : Same0 vs σ σ1) (b : Same0 us σ1 σ2) : Same0 (vs ++ us) σ σ2 :=
  ⟨b.1.trans a.1, fun i h => (b.2 i fun z => h (List.mem_append_right _ z)).trans (a.2 i fun z => h (List.mem_append_left _ z))⟩
theorem g_name (n : Nat) (nd : X.N.Nodup) (hN : X.N[n]? = some x) (hx : Loc X.env.scope x) (hf : X.fn x = true ∨ X.env.scope.names.lookup x = some .local := by first | exact .inl rfl | exact .inr rfl | assumption) : GD X [n] ρ (.Name x p) d (ρ.set n (some (.dat d))) :=
  (pg_name nd hN hx hf).weak fun v σ H Q ⟨F, S, hv, k⟩ => k _ F H (Step.setD S hv) ⟨List.length_set, fun i hi => List.getElem?_set_ne fun z => hi (by rw [z]; exact List.mem_singleton.mpr rfl)⟩ fun q ⟨i, z⟩ => ⟨i, (Held.ofSet (fun c e => by cases e; rfl) z).1⟩
theorem gs_nil : GDs X [] ρ [] [] ρ := pgs_nil.weak fun v σ H Q ⟨F, S, hv, k⟩ => by
  cases hv
  exact ⟨rfl, k σ F H (Step.refl S) ⟨rfl, fun _ _ => rfl⟩ own_id⟩
theorem gs_cons {vs us : List Nat} {tg : Expr} {tgs : List Expr} {ds : List PyData} (h : GD X vs ρ tg d ρ1) (t : GDs X us ρ1 tgs ds ρ2) (hs : (assignEach (tg :: tgs) X.env).map (·.2) = assign tg X.env :: (assignEach tgs X.env).map (·.2) := by rfl) : GDs X (vs ++ us) ρ (tg :: tgs) (d :: ds) ρ2 :=
  (pgs_cons h t hs).weak fun v σ H Q ⟨F, S, hv, k⟩ => by
    cases hv with
    | cons h1 t1 => exact ⟨_, _, rfl, F, S, h1, fun σ1 F1 H1 s1 e1 o1 => ⟨F1, s1.sat, DqA.mono s1.fr _ t1, fun σ2 F2 H2 s2 e2 o2 => k σ2 F2 H2 (s1.trans s2) (e1.trans e2) fun q h => o1 q (o2 q h)⟩⟩
theorem g_tup {vs : List Nat} {es : List Expr} {kk : Nat} {ds : List PyData} (hc : X.calm = true) (h : GDs X vs ρ es ds ρ1) (hn : (assignEach es X.env).length = ds.length := by rfl) (hst : (assignEach es X.env).findIdx? (·.1) = none := by rfl) : GD X vs ρ (.Tuple es kk pos) (.tuple ds) ρ1 :=
  (pg_tup hc h hn hst).weak fun v σ H Q ⟨F, S, hv, k⟩ => by
    cases hv with
    | tup hs ha => exact ⟨_, _, rfl, sqT_same S.sub hs, ha.length, F, S, ha, k⟩
/-- x[i] = .., x a list held alone -/
theorem g_sub (n : Nat) {i : Int} {j : Nat} {ei : Expr} (h : ρ[n]? = some (some cc)) (hm : cc.mu = some (.lst l)) (hN : X.N[n]? = some x) (hv : Vis X.env.scope x) (hb : ED X ρ ei ρ (.int i)) (hj : ixN l.length i = some j)
    (hd : (x == ("__debug__" : Str)) = false := by decide) (hcd : (x == ("__classdict__" : Str)) = false := by decide) (ha : ∀ v, assign (.Subscript (.Name x p) ei pos) X.env v = (do
      let ov ← holding [v] (eval (.Name x p) X.env)
      let iv ← holding [v, ov] (eval ei X.env)
      standAt pos
      holding [v, ov, iv] (setItem ov iv v)
      release [v, ov, iv] []) := by intro _; rfl) : GD X [] ρ (.Subscript (.Name x p) ei pos) d (ρ.set n (some (cc.put (.lst (l.set j d))))) :=
  (pg_sub (pe_var hN hv hd hcd) hb set_list ha).weak fun v σ H Q ⟨F, S, hv, k⟩ => by
    obtain ⟨q, o, e1, e2, e3, e4⟩ := S.held h hm
    refine ⟨_, e1, F, S, fun y F2 H2 s2 o2 v2 => ?_⟩
    have v4 : Dq X.K F2 y (.int i) := v2
    cases v4
    obtain ⟨q', o', f1, f2, f3, f4⟩ := s2.sat.held h hm
    rw [e1] at f1
    cases f1
    cases o' with
    | lst xs =>
      have f5 : DqA X.K F2 xs l := f4
      refine ⟨q, xs, i, j, rfl, rfl, f3, by rw [f5.length]; exact hj, ?_⟩
      refine k σ F2 _ (s2.trans (Step.changed (q := q) (m' := .lst (l.set j d)) s2.sat h hm e1 (Same.refl F2) (fun r a _ _ => a) (fun r o a ne => by rw [upd_ne ne]; exact a) (fun b u z => ?_) f2 upd_same (f5.set (Dq.mono s2.fr _ hv) j))) ⟨rfl, fun _ _ => rfl⟩ fun r z => o2 r ((own_put h hm).mp z)
      have ne : b ≠ q := fun w => by rw [w, f2] at z; cases z
      rw [upd_ne ne]
      exact s2.sat.sub _ _ z
    | _ => exact f4.elim
theorem s_asg {vs : List Nat} {tg : Expr} (h : ED X ρ e ρ1 d) (hg : GD X vs ρ1 tg d ρ2) (hs : swapsWithSole [tg] e pos.line X.env = pure false := by rfl) (hw : swappedStores [tg] e X.env = pure none := by rfl) (h1 : (assignEach [tg] X.env).map (·.2) = [assign tg X.env] := by rfl) : SD X ρ (.Assign [tg] e pos) (.nx ρ2) :=
  (ps_asg h hg hs hw h1).weak fun D σ H ⟨F, S, g⟩ => ⟨F, S, fun v F1 H1 s1 o1 hv => ⟨F1, s1.sat, hv, fun σ2 F2 H2 s2 _ _ => g σ2 F2 H2 (s1.trans s2)⟩⟩

/-- a list that a name holds alone is handed on -/
theorem e_move (n : Nat) (h : ρ[n]? = some (some (.own (.lst l)))) (hN : X.N[n]? = some x) (hv : Vis X.env.scope x) (hd : (x == ("__debug__" : Str)) = false := by decide) (hcd : (x == ("__classdict__" : Str)) = false := by decide) :
    EO X ρ (.Name x pos) (ρ.set n none) l := (pe_var hN hv hd hcd).weak fun σ H Q ⟨F, S, k⟩ => by
  obtain ⟨q, o, e1, e2, e3, e4⟩ := S.held h rfl
  have s1 := Step.forget (n := n) S
  refine ⟨_, e1, k _ F H s1 (fun r z => ?_) ⟨q, o, rfl, ⟨.inr ⟨n, _, _, h, rfl, e1⟩, ?_⟩, e2, e3, e4⟩⟩
  · obtain ⟨i, c, m, a, b, d⟩ := z
    by_cases w : n = i
    · subst w
      rw [List.getElem?_set, if_pos rfl] at a
      split at a <;> cases a
    · rw [List.getElem?_set_ne w] at a
      exact ⟨i, c, m, a, b, d⟩
  · rintro ⟨i, c, m, a, b, d⟩
    by_cases w : n = i
    · subst w
      rw [List.getElem?_set, if_pos rfl] at a
      split at a <;> cases a
    · rw [List.getElem?_set_ne w] at a
      exact w (S.inj n i q ⟨_, _, h, rfl, e1⟩ ⟨c, m, a, b, d⟩)
/-! ### methods of a list held alone -/
theorem e_meth1 (n : Nat) {id : String} {nm : Str} {l' : List PyData} {r : V → List V → Hp → VK → Prop} {es : List Expr} {ds : List PyData} {apos : Pos} (slot : Slot "list" nm id) (hty : typeOf (.builtin id) = pure (.type "method_descriptor")) (hr : MtM X id r)
    (h : ρ[n]? = some (some cc)) (hm : cc.mu = some (.lst l)) (hN : X.N[n]? = some x) (hv : Vis X.env.scope x) (ha : AD X ρ (e :: es) ρ1 ds) (h1 : ρ1[n]? = some (some c1)) (hm1 : c1.mu = some (.lst l1))
    (k : ∀ F H q xs vs (Q : VK), Same F H → H q = some (.lst xs) → DqA X.K F xs l1 → DqA X.K F vs ds → (∀ v ys, DqA X.K F ys l' → Dq X.K F v d → Q v (upd H q (.lst ys))) → r (.ref q) vs H Q)
    (hd : (x == ("__debug__" : Str)) = false := by decide) (hcd : (x == ("__classdict__" : Str)) = false := by decide)
    (hbase : attributeBase (.Name x p) nm X.env (eval (.Name x p) X.env) = eval (.Name x p) X.env := by rfl)
    (hfew : ((backTo pos (starEach (e :: es) X.env)).all (fun x => !x.1) && (backToKw pos (keywordEach [] X.env)).all (fun x => x.1.isSome)
      && decide ((e :: es).length + ([] : List Keyword).length + (if ([] : List Keyword).isEmpty then 0 else 1) < 30)) = true := by rfl)
    (hline : (apos.endLine == pos.line) = true := by rfl) (he : starEach (e :: es) X.env = (false, eval e X.env) :: starEach es X.env := by rfl) (hpl : (backTo pos (starEach es X.env)).any (·.1) = false := by rfl) :
    ED X ρ (.Call (.Attribute (.Name x p) nm apos) (e :: es) [] pos) (ρ1.set n (some (c1.put (.lst l')))) d := by
  refine (pe_bm PySem.F.plainAttrs_list slot hty hr (pe_var hN hv hd hcd) ha hbase hfew hline he hpl).weak fun σ H Q ⟨F, S, kk⟩ => ?_
  obtain ⟨q, o, e1, e2, e3, e4⟩ := S.held h hm
  cases o with
  | lst xs0 =>
    refine ⟨_, e1, .inl ⟨rfl, xs0, .inl (.inl e3)⟩, F, S, fun vs F2 H2 s2 o2 v2 => ?_⟩
    obtain ⟨q', o', f1, f2, f3, f4⟩ := s2.sat.held h1 hm1
    rw [e1] at f1
    cases f1
    cases o' with
    | lst xs =>
      refine k F2 H2 q xs vs Q s2.sat.sub f3 f4 v2 fun v ys hy hv => ?_
      refine kk v F2 _ (s2.trans (Step.changed (q := q) (m' := .lst l') s2.sat h1 hm1 e1 (Same.refl F2) (fun r a _ _ => a) (fun r o a ne => by rw [upd_ne ne]; exact a) (fun b u z => ?_) f2 upd_same hy)) (fun r z => o2 r ((own_put h1 hm1).mp z)) hv
      have ne : b ≠ q := fun w => by rw [w, f2] at z; cases z
      rw [upd_ne ne]
      exact s2.sat.sub _ _ z
    | _ => exact f4.elim
  | _ => exact e4.elim
theorem sz1 {n : Nat} (h : n < 1000000) : n < sizeLine := Nat.lt_of_lt_of_le h (by decide)
variable {apos : Pos} {i : Int} {es : List Expr}
theorem e_append (n : Nat) (h : ρ[n]? = some (some cc)) (hm : cc.mu = some (.lst l)) (hN : X.N[n]? = some x) (hv : Vis X.env.scope x) (ha : ED X ρ e ρ1 d) (h1 : ρ1[n]? = some (some c1)) (hm1 : c1.mu = some (.lst l1)) (hz : l1.length < 1000000)
    (hd : (x == ("__debug__" : Str)) = false := by decide) (hcd : (x == ("__classdict__" : Str)) = false := by decide)
    (hbase : attributeBase (.Name x p) "append" X.env (eval (.Name x p) X.env) = eval (.Name x p) X.env := by rfl)
    (hfew : ((backTo pos (starEach [e] X.env)).all (fun x => !x.1) && (backToKw pos (keywordEach [] X.env)).all (fun x => x.1.isSome)
      && decide ([e].length + ([] : List Keyword).length + (if ([] : List Keyword).isEmpty then 0 else 1) < 30)) = true := by rfl)
    (hline : (apos.endLine == pos.line) = true := by rfl) (he : starEach [e] X.env = (false, eval e X.env) :: starEach [] X.env := by rfl) (hpl : (backTo pos (starEach [] X.env)).any (·.1) = false := by rfl) :
    ED X ρ (.Call (.Attribute (.Name x p) "append" apos) [e] [] pos) (ρ1.set n (some (c1.put (.lst (l1 ++ [d]))))) .none :=
  e_meth1 n PySem.F.slot_list_append PySem.F.type_list_append mt_append h hm hN hv (a_cons ha a_nil he) h1 hm1 (fun F H q xs vs Q s hq hx hvs k => by
    cases hvs with
    | cons g1 t =>
      cases t
      exact ⟨q, xs, _, rfl, rfl, hq, sz1 (by rw [hx.length]; exact hz), k _ _ (hx.append (.cons g1 .nil)) .non⟩) hd hcd hbase hfew hline he hpl
theorem e_extend (n : Nat) {l2 : List PyData} (h : ρ[n]? = some (some cc)) (hm : cc.mu = some (.lst l)) (hN : X.N[n]? = some x) (hv : Vis X.env.scope x) (ha : ED X ρ e ρ1 (.list l2)) (h1 : ρ1[n]? = some (some c1)) (hm1 : c1.mu = some (.lst l1)) (hz : l1.length + l2.length < 1000000)
    (hd : (x == ("__debug__" : Str)) = false := by decide) (hcd : (x == ("__classdict__" : Str)) = false := by decide)
    (hbase : attributeBase (.Name x p) "extend" X.env (eval (.Name x p) X.env) = eval (.Name x p) X.env := by rfl)
    (hfew : ((backTo pos (starEach [e] X.env)).all (fun x => !x.1) && (backToKw pos (keywordEach [] X.env)).all (fun x => x.1.isSome)
      && decide ([e].length + ([] : List Keyword).length + (if ([] : List Keyword).isEmpty then 0 else 1) < 30)) = true := by rfl)
    (hline : (apos.endLine == pos.line) = true := by rfl) (he : starEach [e] X.env = (false, eval e X.env) :: starEach [] X.env := by rfl) (hpl : (backTo pos (starEach [] X.env)).any (·.1) = false := by rfl) :
    ED X ρ (.Call (.Attribute (.Name x p) "extend" apos) [e] [] pos) (ρ1.set n (some (c1.put (.lst (l1 ++ l2))))) .none :=
  e_meth1 n PySem.F.slot_list_extend PySem.F.type_list_extend mt_extend h hm hN hv (a_cons ha a_nil he) h1 hm1 (fun F H q xs vs Q s hq hx hvs k => by
    cases hvs with
    | cons g1 t =>
      cases t
      cases g1 with
      | lst hs ha => exact ⟨q, _, xs, _, rfl, rfl, hq, s _ _ hs, Nat.le_of_lt (sz1 (by rw [hx.length, ha.length]; exact hz)), k _ _ (hx.append ha) .non⟩) hd hcd hbase hfew hline he hpl
theorem e_insert (n : Nat) {e2 : Expr} (h : ρ[n]? = some (some cc)) (hm : cc.mu = some (.lst l)) (hN : X.N[n]? = some x) (hv : Vis X.env.scope x) (ha : AD X ρ [e, e2] ρ1 [.int i, d]) (h1 : ρ1[n]? = some (some c1)) (hm1 : c1.mu = some (.lst l1)) (hz : l1.length < 1000000) (hi : 0 ≤ i ∧ i < 2 ^ 63)
    (hd : (x == ("__debug__" : Str)) = false := by decide) (hcd : (x == ("__classdict__" : Str)) = false := by decide)
    (hbase : attributeBase (.Name x p) "insert" X.env (eval (.Name x p) X.env) = eval (.Name x p) X.env := by rfl)
    (hfew : ((backTo pos (starEach [e, e2] X.env)).all (fun x => !x.1) && (backToKw pos (keywordEach [] X.env)).all (fun x => x.1.isSome)
      && decide ([e, e2].length + ([] : List Keyword).length + (if ([] : List Keyword).isEmpty then 0 else 1) < 30)) = true := by rfl)
    (hline : (apos.endLine == pos.line) = true := by rfl) (he : starEach [e, e2] X.env = (false, eval e X.env) :: starEach [e2] X.env := by rfl) (hpl : (backTo pos (starEach [e2] X.env)).any (·.1) = false := by rfl) :
    ED X ρ (.Call (.Attribute (.Name x p) "insert" apos) [e, e2] [] pos) (ρ1.set n (some (c1.put (.lst (l1.take i.toNat ++ [d] ++ l1.drop i.toNat))))) .none :=
  e_meth1 n PySem.F.slot_list_insert PySem.F.type_list_insert mt_insert h hm hN hv ha h1 hm1 (fun F H q xs vs Q s hq hx hvs k => by
    cases hvs with
    | cons g1 t =>
      cases g1
      cases t with
      | cons g2 t =>
        cases t
        exact ⟨q, xs, i, _, rfl, rfl, hq, sz1 (by rw [hx.length]; exact hz), hi.1, hi.2, k _ _ (((hx.take _).append (.cons g2 .nil)).append (hx.drop _)) .non⟩) hd hcd hbase hfew hline he hpl
theorem e_popAt (n : Nat) {j : Nat} (h : ρ[n]? = some (some cc)) (hm : cc.mu = some (.lst l)) (hN : X.N[n]? = some x) (hv : Vis X.env.scope x) (ha : ED X ρ e ρ1 (.int i)) (h1 : ρ1[n]? = some (some c1)) (hm1 : c1.mu = some (.lst l1)) (hi : -(2 ^ 63) ≤ i ∧ i < 2 ^ 63) (hj : seqIndex? i l1.length = some j) (hg : l1[j]? = some d)
    (hd : (x == ("__debug__" : Str)) = false := by decide) (hcd : (x == ("__classdict__" : Str)) = false := by decide)
    (hbase : attributeBase (.Name x p) "pop" X.env (eval (.Name x p) X.env) = eval (.Name x p) X.env := by rfl)
    (hfew : ((backTo pos (starEach [e] X.env)).all (fun x => !x.1) && (backToKw pos (keywordEach [] X.env)).all (fun x => x.1.isSome)
      && decide ([e].length + ([] : List Keyword).length + (if ([] : List Keyword).isEmpty then 0 else 1) < 30)) = true := by rfl)
    (hline : (apos.endLine == pos.line) = true := by rfl) (he : starEach [e] X.env = (false, eval e X.env) :: starEach [] X.env := by rfl) (hpl : (backTo pos (starEach [] X.env)).any (·.1) = false := by rfl) :
    ED X ρ (.Call (.Attribute (.Name x p) "pop" apos) [e] [] pos) (ρ1.set n (some (c1.put (.lst (l1.eraseIdx j))))) d :=
  e_meth1 n PySem.F.slot_list_pop PySem.F.type_list_pop mt_popAt h hm hN hv (a_cons ha a_nil he) h1 hm1 (fun F H q xs vs Q s hq hx hvs k => by
    cases hvs with
    | cons g1 t =>
      cases g1
      cases t
      obtain ⟨v, b1, b2⟩ := hx.get' hg
      exact ⟨q, xs, i, j, v, rfl, rfl, hq, hi.1, hi.2, by rw [hx.length]; exact hj, b1, k _ _ (hx.eraseIdx j) b2⟩) hd hcd hbase hfew hline he hpl
end
end Cl

set_option maxRecDepth 100000
namespace Cl
open PySem PySem.Spec PyProof.Rows L2
/-! ### while -/
/-- what a while comes to, turn by turn -/
inductive WhD (X : Cx) (c : Expr) (body : List Stmt) (o : Out) : Nat → Rho → Prop where
  | stop {m : Nat} {ρ ρ1 : Rho} (h : TD X ρ c ρ1 false) (e : o = .nx ρ1) : WhD X c body o m ρ
  | turn {m : Nat} {ρ ρ1 ρ2 : Rho} (h : TD X ρ c ρ1 true) (b : SDs X ρ1 body (.nx ρ2)) (r : WhD X c body o m ρ2) : WhD X c body o (m + 1) ρ
  | cont {m : Nat} {ρ ρ1 ρ2 : Rho} (h : TD X ρ c ρ1 true) (b : SDs X ρ1 body (.ct ρ2)) (r : WhD X c body o m ρ2) : WhD X c body o (m + 1) ρ
  | ret {m : Nat} {ρ ρ1 : Rho} {r : Cell} {bs : List (Addr × Mu)} (h : TD X ρ c ρ1 true) (b : SDs X ρ1 body (.rt r bs)) (e : o = .rt r bs) : WhD X c body o m ρ
  | brk {m : Nat} {ρ ρ1 ρ2 : Rho} (h : TD X ρ c ρ1 true) (b : SDs X ρ1 body (.bk ρ2)) (e : o = .nx ρ2) : WhD X c body o m ρ
section
variable {X : Cx} {ρ ρ1 ρ2 : Rho} {c : Expr} {body : List Stmt} {o : Out} {pos : Pos}
/-- all that a while's test and body do, told at once for every place of it -/
structure Turns (X : Cx) (c : Expr) (body : List Stmt) (o : Out) (tc : TT) (tb : TS) : Prop where
  c : PT X c tc
  b : PSs X body tb
theorem pt_all {X : Cx} {e : Expr} : ∃ t : TT, PT X e t ∧ ∀ ρ ρ' b, TD X ρ e ρ' b → ∀ σ H Q, tDT X.K ρ ρ' b σ H Q → t σ H Q := by
  refine ⟨fun σ H Q => ∃ t, PT X e t ∧ t σ H Q, ⟨fun pins s σ H Q I ⟨t, h, q⟩ => h.run pins s σ H Q I q⟩, fun ρ ρ' b h σ H Q q => ⟨_, h, q⟩⟩
theorem pss_all {X : Cx} {sts : List Stmt} : ∃ t : TS, PSs X sts t ∧ ∀ t', PSs X sts t' → ∀ D σ H, t' D σ H → t D σ H :=
  ⟨fun D σ H => ∃ t, PSs X sts t ∧ t D σ H, ⟨fun pins s σ H D I ⟨t, h, q⟩ => h.run pins s σ H D I q⟩, fun t h D σ H q => ⟨t, h, q⟩⟩
theorem s_while {m : Nat} (h : WhD X c body o m ρ) (hp : PassesOwn (model X.prog X.w) X.A X.env X.xe) : SD X ρ (.While c body [] pos) o := by
  obtain ⟨tc, hc, kc⟩ := pt_all (X := X) (e := c)
  obtain ⟨tb, hb, kb⟩ := pss_all (X := X) (sts := body)
  refine (ps_while hp hc hb).weak fun D σ H ⟨F, S, g⟩ => ?_
  refine ⟨fun n σ H => ∃ ρ, WhD X c body o n ρ ∧ tS X.K ρ o D σ H, ⟨m, ρ, h, F, S, g⟩, ?_⟩
  rintro n σ H ⟨ρ, h, F, S, g⟩
  cases h with
  | stop hh e =>
    subst e
    exact kc _ _ _ hh σ H _ ⟨F, S, fun F1 H1 s1 o1 => iteF (g σ F1 H1 s1)⟩
  | turn hh b r => exact kc _ _ _ hh σ H _ ⟨F, S, fun F1 H1 s1 o1 => iteT ⟨_, fun _ _ z => z, kb _ b _ _ _ ⟨F1, s1.sat, fun σ2 F2 H2 s2 => ⟨_, Nat.lt_succ_self _, _, r, F2, s2.sat, g.step (s1.trans s2)⟩⟩⟩⟩
  | cont hh b r => exact kc _ _ _ hh σ H _ ⟨F, S, fun F1 H1 s1 o1 => iteT ⟨_, fun _ _ z => z, kb _ b _ _ _ ⟨F1, s1.sat, fun σ2 F2 H2 s2 => ⟨_, Nat.lt_succ_self _, _, r, F2, s2.sat, g.step (s1.trans s2)⟩⟩⟩⟩
  | ret hh b e =>
    subst e
    exact kc _ _ _ hh σ H _ ⟨F, S, fun F1 H1 s1 o1 => iteT ⟨_, fun _ _ z => z, kb _ b _ _ _ ⟨F1, s1.sat, fun v ρ2 σ2 F2 H2 s2 hb hv => (g.step s1) v ρ2 σ2 F2 H2 s2 hb hv⟩⟩⟩
  | brk hh b e =>
    subst e
    exact kc _ _ _ hh σ H _ ⟨F, S, fun F1 H1 s1 o1 => iteT ⟨_, fun _ _ z => z, kb _ b _ _ _ ⟨F1, s1.sat, fun σ2 F2 H2 s2 => g σ2 F2 H2 (s1.trans s2)⟩⟩⟩
end

/-! ### what is walked -/
def Yd (K : PySem.W.Frag) (F : Hp) (ds : List PyData) : Nat → Hp → V → Hp → Prop := fun i H v H' => ∀ F2, Same F F2 → Same F2 H → ∃ F3, Grow F2 H F3 H' ∧ ∃ d, ds[i]? = some d ∧ Dq K F3 v d
def tI (K : PySem.W.Frag) (ρ ρ' : Rho) (ds : List PyData) : TI := fun σ H R => ∃ F, Sat K F ρ σ H ∧
  ∀ J F' H', Step K ρ σ F H ρ' σ F' H' → (∀ q, Own ρ' σ q → Own ρ σ q) → Walk J ds.length (fun H2 => Same F' H2) (Yd K F' ds) → R J H'
abbrev ID (X : Cx) (ρ : Rho) (tg iter : Expr) (ρ' : Rho) (ds : List PyData) : Prop := PI X tg iter (tI X.K ρ ρ' ds)
theorem _root_.L2.PI.weak {X : Cx} {tg iter : Expr} {t t' : TI} (h : PI X tg iter t) (k : ∀ σ H Q, t' σ H Q → t σ H Q) : PI X tg iter t' := ⟨fun pins s σ H R I q => h.run pins s σ H R I (k σ H R q)⟩
section
variable {X : Cx} {ρ ρ1 ρ2 : Rho} {tg iter e e2 : Expr} {ds ds1 ds2 : List PyData} {d : PyData} {pos p : Pos} {es : List Expr} {i j : Int}
theorem yd_at {K : PySem.W.Frag} {F : Hp} {xs : List V} (h : DqA K F xs ds) {i : Nat} {H H' : Hp} {v : V} (y : YAt xs i H v H') : Yd K F ds i H v H' := fun F2 a b => by
  obtain ⟨rfl, e⟩ := y
  obtain ⟨d, e1, e2⟩ := h.get e
  exact ⟨F2, Grow.refl b, d, e1, e2.mono a⟩
theorem i_list (h : ED X ρ iter ρ1 (.list ds)) : ID X ρ tg iter ρ1 ds := (pi_list h).weak fun σ H R ⟨F, S, k⟩ => ⟨F, S, fun v F1 H1 s1 o1 hv => by
  have q : Dq X.K F1 v (.list ds) := hv
  cases q with
  | lst hs ha =>
    refine ⟨_, rfl, ⟨_, .inl (.inl (s1.sat.sub _ _ hs))⟩, k _ F1 H1 s1 o1 ?_⟩
    rw [← ha.length]
    exact walk_list.mono (fun H2 z => .inl (.inl (z _ _ hs))) fun i H2 v H3 _ _ y => yd_at ha y⟩
theorem i_tup (h : ED X ρ iter ρ1 (.tuple ds)) : ID X ρ tg iter ρ1 ds := (pi_tup h).weak fun σ H R ⟨F, S, k⟩ => ⟨F, S, fun v F1 H1 s1 o1 hv => by
  have q : Dq X.K F1 v (.tuple ds) := hv
  cases q with
  | tup hs ha =>
    refine ⟨_, rfl, ⟨_, sqT_same s1.sat.sub hs⟩, k _ F1 H1 s1 o1 ?_⟩
    rw [← ha.length]
    exact walk_tup.mono (fun H2 z => sqT_same z hs) fun i H2 v H3 _ _ y => yd_at ha y⟩
def rangeD (lo : Int) (n : Nat) : List PyData := (List.range n).map fun (i : Nat) => .int (lo + (i : Int))
theorem rangeD_len {lo : Int} {n : Nat} : (rangeD lo n).length = n := by unfold rangeD; rw [List.length_map, List.length_range]
theorem i_range1 (hg : Gl X "range") (hm : X.mg "range" = none) (h : AD X ρ [e] ρ1 [.int j]) (hj : -(2 ^ 62) ≤ j ∧ j < 2 ^ 62) (hs : starEach [e] X.env = [(false, eval e X.env)] := by rfl) : ID X ρ tg (.Call (.Name "range" p) [e] [] pos) ρ1 (rangeD 0 j.toNat) :=
  (pi_range1 hg hm h hs).weak fun σ H R ⟨F, S, k⟩ => ⟨F, S, fun vs F1 H1 s1 o1 hv => by
    cases hv with
    | cons h1 t =>
      cases h1; cases t
      refine ⟨j, rfl, hj.1, hj.2, k _ F1 H1 s1 o1 ?_⟩
      rw [rangeD_len]
      refine walk_range.mono (fun _ _ => trivial) fun i H2 v H3 hi _ y F2 a b => ?_
      obtain ⟨rfl, rfl⟩ := y
      refine ⟨F2, Grow.refl b, .int (0 + (i : Int)), ?_, .int _⟩
      unfold rangeD
      rw [List.getElem?_map, List.getElem?_range hi]
      rfl⟩
theorem i_range2 (hg : Gl X "range") (hm : X.mg "range" = none) (h : AD X ρ [e, e2] ρ1 [.int i, .int j]) (hj : -(2 ^ 62) ≤ i ∧ i < 2 ^ 62 ∧ -(2 ^ 62) ≤ j ∧ j < 2 ^ 62) (hs : starEach [e, e2] X.env = [(false, eval e X.env), (false, eval e2 X.env)] := by rfl) (hs2 : starEach [e2] X.env = [(false, eval e2 X.env)] := by rfl) : ID X ρ tg (.Call (.Name "range" p) [e, e2] [] pos) ρ1 (rangeD i (j - i).toNat) :=
  (pi_range2 hg hm h hs hs2).weak fun σ H R ⟨F, S, k⟩ => ⟨F, S, fun vs F1 H1 s1 o1 hv => by
    cases hv with
    | cons h1 t =>
      cases h1
      cases t with
      | cons h2 t =>
        cases h2; cases t
        refine ⟨i, j, rfl, hj, k _ F1 H1 s1 o1 ?_⟩
        rw [rangeD_len]
        refine walk_range.mono (fun _ _ => trivial) fun n H2 v H3 hi _ y F2 a b => ?_
        obtain ⟨rfl, rfl⟩ := y
        refine ⟨F2, Grow.refl b, .int (i + (n : Int)), ?_, .int _⟩
        unfold rangeD
        rw [List.getElem?_map, List.getElem?_range hi]
        rfl⟩
def pairD (ds es : List PyData) : List PyData := List.zipWith (fun a b => .tuple [a, b]) ds es
theorem yd_pair {K : PySem.W.Frag} {F : Hp} {f g : Nat → Option V} {i : Nat} {H H' : Hp} {v : V} {ps : List PyData} (y : YPair f g i H v H')
    (h : ∀ x y F2, f i = some x → g i = some y → Same F F2 → ∃ a b, ps[i]? = some (.tuple [a, b]) ∧ Dq K F2 x a ∧ Dq K F2 y b) : Yd K F ps i H v H' := fun F2 a b => by
  obtain ⟨T, x, y, rfl, nT, rfl, e1, e2⟩ := y
  obtain ⟨d1, d2, q, q1, q2⟩ := h x y F2 e1 e2 a
  have e := same_upd (o := .tup [x, y]) (b.free nT)
  exact ⟨_, Grow.laid b nT, _, q, .tup (.inl (.inl upd_same)) (.cons (q1.mono e) (.cons (q2.mono e) .nil))⟩
theorem zip_get {ps qs : List PyData} {i : Nat} {a b : PyData} (h1 : ps[i]? = some a) (h2 : qs[i]? = some b) : (pairD ps qs)[i]? = some (.tuple [a, b]) := by
  unfold pairD
  rw [List.getElem?_zipWith, h1, h2]
theorem i_zipL {elts : List Expr} {kk : Nat} {tpos : Pos} (hg : Gl X "zip") (hm : X.mg "zip" = none) (h : AD X ρ [e, e2] ρ1 [.list ds1, .list ds2]) (hs : starEach [e, e2] X.env = (false, eval e X.env) :: starEach [e2] X.env := by rfl) (hpl : (backTo pos (starEach [e2] X.env)).any (·.1) = false := by rfl) : ID X ρ (.Tuple elts kk tpos) (.Call (.Name "zip" p) [e, e2] [] pos) ρ1 (pairD ds1 ds2) :=
  (pi_zip hg hm h hs hpl).weak fun σ H R ⟨F, S, k⟩ => ⟨F, S, fun vs F1 H1 s1 o1 hv => by
    cases hv with
    | cons h1 t =>
      cases t with
      | cons h2 t =>
        cases t
        cases h1 with
        | lst hs ha =>
          cases h2 with
          | lst hs' ha' =>
            refine ⟨_, _, _, _, rfl, .inl (.inl (s1.sat.sub _ _ hs)), .inl (.inl (s1.sat.sub _ _ hs')), k _ F1 H1 s1 o1 ?_⟩
            refine (walk_zip (n := (pairD ds1 ds2).length) ?_).mono (fun H2 z => ⟨.inl (.inl (z _ _ hs)), .inl (.inl (z _ _ hs'))⟩) fun i H2 v H3 _ _ y => yd_pair y fun x y F2 e1 e2 a => ?_
            · unfold pairD
              rw [List.length_zipWith, ha.length, ha'.length]
            · obtain ⟨d1, q1, q2⟩ := ha.get e1
              obtain ⟨d2, q3, q4⟩ := ha'.get e2
              exact ⟨d1, d2, zip_get q1 q3, q2.mono a, q4.mono a⟩⟩
theorem i_enum {elts : List Expr} {kk : Nat} {tpos : Pos} (hg : Gl X "enumerate") (hm : X.mg "enumerate" = none) (h : AD X ρ [e] ρ1 [.list ds]) (hs : starEach [e] X.env = [(false, eval e X.env)] := by rfl) : ID X ρ (.Tuple elts kk tpos) (.Call (.Name "enumerate" p) [e] [] pos) ρ1 (pairD (rangeD 0 ds.length) ds) :=
  (pi_enum hg hm h hs).weak fun σ H R ⟨F, S, k⟩ => ⟨F, S, fun vs F1 H1 s1 o1 hv => by
    cases hv with
    | cons h1 t =>
      cases t
      cases h1 with
      | lst hs ha =>
        refine ⟨_, _, rfl, .inl (.inl (s1.sat.sub _ _ hs)), k _ F1 H1 s1 o1 ?_⟩
        have hl : (pairD (rangeD 0 ds.length) ds).length = ds.length := by
          unfold pairD
          rw [List.length_zipWith, rangeD_len, Nat.min_self]
        rw [hl, ← ha.length]
        refine walk_enum.mono (fun H2 z => .inl (.inl (z _ _ hs))) fun i H2 v H3 hi _ y => yd_pair y fun x y F2 e1 e2 a => ?_
        obtain ⟨d2, q3, q4⟩ := ha.get e2
        cases e1
        refine ⟨.int (i : Nat), d2, zip_get ?_ q3, .int _, q4.mono a⟩
        unfold rangeD
        rw [List.getElem?_map, List.getElem?_range hi]
        show some (PyData.int (0 + (i : Int))) = _
        rw [Int.zero_add]⟩
end

/-! ### for -/
inductive ForD (X : Cx) (tg : Expr) (vs : List Nat) (body : List Stmt) (o : Out) : List PyData → Rho → Prop where
  | nil {ρ : Rho} (e : o = .nx ρ) : ForD X tg vs body o [] ρ
  | next {d : PyData} {ds : List PyData} {ρ ρ1 ρ2 : Rho} (h : GD X vs ρ tg d ρ1) (b : SDs X ρ1 body (.nx ρ2)) (r : ForD X tg vs body o ds ρ2) : ForD X tg vs body o (d :: ds) ρ
  | cont {d : PyData} {ds : List PyData} {ρ ρ1 ρ2 : Rho} (h : GD X vs ρ tg d ρ1) (b : SDs X ρ1 body (.ct ρ2)) (r : ForD X tg vs body o ds ρ2) : ForD X tg vs body o (d :: ds) ρ
  | ret {d : PyData} {ds : List PyData} {ρ ρ1 : Rho} {r : Cell} {bs : List (Addr × Mu)} (h : GD X vs ρ tg d ρ1) (b : SDs X ρ1 body (.rt r bs)) (e : o = .rt r bs) : ForD X tg vs body o (d :: ds) ρ
  | brk {d : PyData} {ds : List PyData} {ρ ρ1 ρ2 : Rho} (h : GD X vs ρ tg d ρ1) (b : SDs X ρ1 body (.bk ρ2)) (e : o = .nx ρ2) : ForD X tg vs body o (d :: ds) ρ
theorem pg_all {X : Cx} {e : Expr} : ∃ t : TG, PG X e t ∧ ∀ t', PG X e t' → ∀ v σ H Q, t' v σ H Q → t v σ H Q :=
  ⟨fun v σ H Q => ∃ t, PG X e t ∧ t v σ H Q, ⟨fun pins s σ H v u Q I r ⟨t, h, q⟩ => h.run pins s σ H v u Q I r q⟩, fun t h v σ H Q q => ⟨t, h, q⟩⟩
section
variable {X : Cx} {ρ ρ1 ρ2 : Rho} {tg iter : Expr} {vs : List Nat} {body : List Stmt} {o : Out} {ds : List PyData} {pos : Pos}
theorem s_for (hi : ID X ρ tg iter ρ1 ds) (hf : ForD X tg vs body o ds ρ1) (hp : PassesOwn (model X.prog X.w) X.A X.env X.xe) (hc : X.calm = true) (hs : ∀ x, foldedSetIterable iter X.env x = pure x := by intro _; rfl) : SD X ρ (.For tg iter body [] pos) o := by
  obtain ⟨tg', hg, kg⟩ := pg_all (X := X) (e := tg)
  obtain ⟨tb, hb, kb⟩ := pss_all (X := X) (sts := body)
  refine (ps_for hp hc hi hg hb hs).weak fun D σ H ⟨F, S, g⟩ => ⟨F, S, fun J F1 H1 s1 o1 w => ?_⟩
  refine for_it w (fun i σ H => ∃ ρ F, Sat X.K F ρ σ H ∧ Same F1 F ∧ ForD X tg vs body o (ds.drop i) ρ ∧ Goes X.K o D ρ σ F H) ⟨ρ1, F1, s1.sat, Same.refl _, hf, g.step s1⟩ (fun i σ H _ ⟨ρ, F, S, e, _⟩ => e.trans S.sub) ?_ ?_
  · rintro i x σ H H' hi ⟨ρ, F, S, e, f, g⟩ y
    obtain ⟨F3, gr, d, hd, hx⟩ := y F e S.sub
    have st := gr.step S
    have ed : ds.drop i = d :: ds.drop (i + 1) := by
      obtain ⟨h1, h2⟩ := List.getElem?_eq_some_iff.mp hd
      rw [← h2]
      exact List.drop_eq_getElem_cons h1
    rw [ed] at f
    cases f with
    | next h b r => exact kg _ h _ _ _ _ ⟨F3, st.sat, hx, fun σ2 F4 H4 s2 _ _ => kb _ b _ _ _ ⟨F4, s2.sat, fun σ5 F5 H5 s5 => ⟨_, F5, s5.sat, ((e.trans gr.fr).trans s2.fr).trans s5.fr, r, g.step ((st.trans s2).trans s5)⟩⟩⟩
    | cont h b r => exact kg _ h _ _ _ _ ⟨F3, st.sat, hx, fun σ2 F4 H4 s2 _ _ => kb _ b _ _ _ ⟨F4, s2.sat, fun σ5 F5 H5 s5 => ⟨_, F5, s5.sat, ((e.trans gr.fr).trans s2.fr).trans s5.fr, r, g.step ((st.trans s2).trans s5)⟩⟩⟩
    | ret h b z =>
      subst z
      exact kg _ h _ _ _ _ ⟨F3, st.sat, hx, fun σ2 F4 H4 s2 _ _ => kb _ b _ _ _ ⟨F4, s2.sat, fun v ρ5 σ5 F5 H5 s5 hb hv => (g.step (st.trans s2)) v ρ5 σ5 F5 H5 s5 hb hv⟩⟩
    | brk h b z =>
      subst z
      exact kg _ h _ _ _ _ ⟨F3, st.sat, hx, fun σ2 F4 H4 s2 _ _ => kb _ b _ _ _ ⟨F4, s2.sat, fun σ5 F5 H5 s5 => g σ5 F5 H5 ((st.trans s2).trans s5)⟩⟩
  · rintro σ H ⟨ρ, F, S, e, f, g⟩
    rw [List.drop_length] at f
    cases f with
    | nil z =>
      subst z
      exact g σ F H (Step.refl S)
end
end Cl

set_option maxRecDepth 100000
namespace Cl
open PySem PySem.Spec PyProof.Rows L2
/-! ### comprehensions -/
/-- the slots vs forgotten -/
def forgetR (ρ : Rho) : List Nat → Rho
  | [] => ρ
  | v :: vs => (forgetR ρ vs).set v none
section
variable {K : PySem.W.Frag} {F F' H H' : Hp} {ρ ρ' : Rho} {σ σ' : L2.St}
theorem forgetR_len (ρ : Rho) : ∀ vs, (forgetR ρ vs).length = ρ.length
  | [] => rfl
  | v :: vs => by
    unfold forgetR
    rw [List.length_set, forgetR_len ρ vs]
theorem forgetR_out {i : Nat} : ∀ {vs : List Nat}, i ∉ vs → (forgetR ρ vs)[i]? = ρ[i]?
  | [], _ => rfl
  | v :: vs, h => by
    unfold forgetR
    rw [List.getElem?_set_ne fun z => h (by rw [z]; exact List.mem_cons_self), forgetR_out fun z => h (List.mem_cons_of_mem _ z)]
theorem forgetR_in {i : Nat} {c : Option Cell} : ∀ {vs : List Nat}, i ∈ vs → (forgetR ρ vs)[i]? = some c → c = none
  | v :: vs, h, e => by
    unfold forgetR at e
    by_cases z : v = i
    · subst z
      rw [List.getElem?_set, if_pos rfl] at e
      split at e
      · cases e
        rfl
      · cases e
    · rw [List.getElem?_set_ne z] at e
      rcases List.mem_cons.mp h with q | q
      · exact absurd q.symm z
      · exact forgetR_in q e
theorem Step.forgetS (S : Sat K F ρ σ H) : ∀ vs, Step K ρ σ F H (forgetR ρ vs) σ F H
  | [] => Step.refl S
  | v :: vs => (Step.forgetS S vs).trans (Step.forget (Step.forgetS S vs).sat)
/-- where the slots vs are forgotten, what stands in them does not matter -/
theorem Sat.slots (S : Sat K F (forgetR ρ vs) σ H) (e : Same0 vs σ σ') : Sat K F (forgetR ρ vs) σ' H := by
  have z : ∀ {i q}, Held (forgetR ρ vs) σ' i q → Held (forgetR ρ vs) σ i q := fun {i q} ⟨c, m, e1, e2, e3⟩ => by
    by_cases h : i ∈ vs
    · cases forgetR_in h e1
    · exact ⟨c, m, e1, e2, by rw [← e.2 i h]; exact e3⟩
  refine ⟨by rw [e.1]; exact S.len, S.sub, fun i c x a b => ?_, fun i j q a b => S.inj i j q (z a) (z b)⟩
  by_cases h : i ∈ vs
  · cases forgetR_in h a
    trivial
  · rw [e.2 i h] at b
    exact S.slot i c x a b
theorem own_slots (e : Same0 vs σ σ') {q : Addr} (h : Own (forgetR ρ vs) σ' q) : Own (forgetR ρ vs) σ q := by
  obtain ⟨i, c, m, e1, e2, e3⟩ := h
  by_cases h : i ∈ vs
  · cases forgetR_in h e1
  · exact ⟨i, c, m, e1, e2, by rw [← e.2 i h]; exact e3⟩
theorem Same0.symm {vs : List Nat} (e : Same0 vs σ σ') : Same0 vs σ' σ := ⟨e.1.symm, fun i h => (e.2 i h).symm⟩
theorem same0_wipe (σ : L2.St) (vs : List Nat) : Same0 vs σ (wipe σ vs) := ⟨wipe_length σ vs, fun i h => wipe_out h⟩
theorem wipe_in {i : Nat} {x : Option V} : ∀ {vs : List Nat}, i ∈ vs → (wipe σ vs)[i]? = some x → x = none
  | v :: vs, h, e => by
    unfold wipe at e
    by_cases z : v = i
    · subst z
      rw [List.getElem?_set, if_pos rfl] at e
      split at e
      · cases e
        rfl
      · cases e
    · rw [List.getElem?_set_ne z] at e
      rcases List.mem_cons.mp h with q | q
      · exact absurd q.symm z
      · exact wipe_in q e
theorem wipe_eq {vs : List Nat} (e : Same0 vs σ σ') : wipe σ' vs = wipe σ vs := by
  refine List.ext_getElem? fun i => ?_
  by_cases h : i ∈ vs
  · have l1 : (wipe σ' vs).length = (wipe σ vs).length := by rw [wipe_length, wipe_length, e.1]
    cases q1 : (wipe σ' vs)[i]? with
    | none =>
      have : (wipe σ vs)[i]? = none := by
        rw [List.getElem?_eq_none_iff] at q1 ⊢
        rw [← l1]
        exact q1
      rw [this]
    | some x =>
      cases wipe_in h q1
      cases q2 : (wipe σ vs)[i]? with
      | none =>
        have : (wipe σ' vs)[i]? = none := by
          rw [List.getElem?_eq_none_iff] at q2 ⊢
          rw [l1]
          exact q2
        rw [this] at q1
        cases q1
      | some y =>
        cases wipe_in h q2
        rfl
  · rw [wipe_out h, wipe_out h, e.2 i h]
theorem wipe_wipe (σ : L2.St) (vs : List Nat) : wipe (wipe σ vs) vs = wipe σ vs := wipe_eq (same0_wipe σ vs)
end
/-- of every block of the comprehension whose scope is sc -/
abbrev Bk (X : Cx) (sc : Scope) (φ : Cx → Prop) : Prop := ∀ (s : Shared) (H : Hp) (C : Addr) (cl : List (Str × Addr)) (fp : List Addr), φ (X.blk s H sc (compEnvC sc cl C X.env) fp)
/-- the tests of a comprehension -/
abbrev TsD (X : Cx) (ρ : Rho) (ifs : List Expr) (ρ' : Rho) (b : Bool) : Prop := PTs X ifs (tDT X.K ρ ρ' b)
theorem ts_nil {X : Cx} {ρ : Rho} : TsD X ρ [] ρ true := ⟨fun pins s σ H Q I ⟨F, S, k⟩ => pts_nil.run pins s σ H Q I (k F H (Step.refl S) own_id)⟩
theorem ts_one {X : Cx} {ρ ρ1 : Rho} {e : Expr} {b : Bool} (h : TD X ρ e ρ1 b) : TsD X ρ [e] ρ1 b := pts_one h
inductive LcD (X : Cx) (sc : Scope) (vs : List Nat) (tg : Expr) (ifs : List Expr) (elt : Expr) : List PyData → Rho → List PyData → Rho → Prop where
  | nil {ρ : Rho} : LcD X sc vs tg ifs elt [] ρ [] ρ
  | keep {d y : PyData} {ds l : List PyData} {ρ ρ1 ρ2 ρ3 ρ' : Rho} (g : Bk X sc fun B => GD B vs ρ tg d ρ1) (t : Bk X sc fun B => TsD B ρ1 ifs ρ2 true) (e : Bk X sc fun B => ED B ρ2 elt ρ3 y)
      (r : LcD X sc vs tg ifs elt ds (forgetR ρ3 vs) l ρ') : LcD X sc vs tg ifs elt (d :: ds) ρ (y :: l) ρ'
  | skip {d : PyData} {ds l : List PyData} {ρ ρ1 ρ2 ρ' : Rho} (g : Bk X sc fun B => GD B vs ρ tg d ρ1) (t : Bk X sc fun B => TsD B ρ1 ifs ρ2 false)
      (r : LcD X sc vs tg ifs elt ds (forgetR ρ2 vs) l ρ') : LcD X sc vs tg ifs elt (d :: ds) ρ l ρ'
theorem LcD.len {X : Cx} {sc : Scope} {vs : List Nat} {tg elt : Expr} {ifs : List Expr} {ds l : List PyData} {ρ ρ' : Rho} (h : LcD X sc vs tg ifs elt ds ρ l ρ') : l.length ≤ ds.length := by
  induction h with
  | nil => exact Nat.le_refl _
  | keep _ _ _ _ ih => exact Nat.succ_le_succ ih
  | skip _ _ _ ih => exact Nat.le_succ_of_le ih
theorem pts_all {X : Cx} {es : List Expr} : ∃ t : TT, PTs X es t ∧ ∀ t', PTs X es t' → ∀ σ H Q, t' σ H Q → t σ H Q :=
  ⟨fun σ H Q => ∃ t, PTs X es t ∧ t σ H Q, ⟨fun pins s σ H Q I ⟨t, h, q⟩ => h.run pins s σ H Q I q⟩, fun t h σ H Q q => ⟨t, h, q⟩⟩
section
variable {X : Cx} {sc : Scope} {vs : List Nat} {tg elt iter : Expr} {ifs : List Expr} {ds l : List PyData} {ρ ρ1 ρ' : Rho} {own : List (Str × Nat)} {pos : Pos}
/-- the reading of a comprehension's turns -/
theorem lc_goes (h : LcD X sc vs tg ifs elt ds (forgetR ρ1 vs) l ρ') (hz : ds.length ≤ 1000000) {σ : L2.St} {F H F1 H1 : Hp} (S : Sat X.K F ρ σ H) (s1 : Step X.K ρ σ F H ρ1 σ F1 H1) (o1 : ∀ q, Own ρ1 σ q → Own ρ σ q) {J : It} (w : Walk J ds.length (fun H2 => Same F1 H2) (Yd X.K F1 ds))
    {g : TG} {tt : TT} {te : TE} (kg : ∀ ρ d ρ1, (Bk X sc fun B => GD B vs ρ tg d ρ1) → ∀ v σ H Q, tG X.K vs ρ d ρ1 v σ H Q → g v σ H Q) (kt : ∀ ρ ρ1 b, (Bk X sc fun B => TsD B ρ ifs ρ1 b) → ∀ σ H Q, tDT X.K ρ ρ1 b σ H Q → tt σ H Q)
    (ke : ∀ ρ ρ1 d, (Bk X sc fun B => ED B ρ elt ρ1 d) → ∀ σ H Q, tD X.K ρ ρ1 (.dat d) σ H Q → te σ H Q) {D : Addr} (hD : H1 D = none) {Qd : Hp → Prop}
    (fin : ∀ F2 H2 xs, Step X.K ρ σ F H ρ' σ F2 H2 → (∀ q, Own ρ' σ q → Own ρ σ q) → H2 D = some (.lst xs) → F2 D = none → H D = none → DqA X.K F2 xs l → Qd H2) :
    ∃ W : Nat → Nat → Hp → Prop, (∃ m, W 0 m (upd H1 D (.lst []))) ∧ ∀ i m H, W i m H →
      (J.stop i H ∧ Qd H) ∨ (J.go i H ∧ ∃ Nx : Hp → Prop, (∀ H', Nx H' → ∃ m', m' < m ∧ W (i + 1) m' H') ∧ ∀ x H', J.yld i H x H' → g x (wipe σ vs) H' fun σ2 H2 => wipe σ2 vs = wipe σ vs ∧ tt σ2 H2 fun b H3 =>
        if b = true then te σ2 H3 fun y H4 => ∃ acc, H4 D = some (.lst acc) ∧ acc.length < sizeLine ∧ Nx (upd H4 D (.lst (acc ++ [y]))) else Nx H3) := by
  have h0 : H D = none ∧ ¬ Own ρ1 σ D := s1.fresh hD
  refine lc_it w (fun i H2 => ∃ ρi F2 done xs rest, Step X.K ρ σ F H (forgetR ρi vs) σ F2 H2 ∧ (∀ q, Own (forgetR ρi vs) σ q → Own ρ σ q) ∧ Same F1 F2 ∧ H2 D = some (.lst xs) ∧ F2 D = none ∧ DqA X.K F2 xs done ∧ l = done ++ rest ∧ done.length ≤ i ∧ LcD X sc vs tg ifs elt (ds.drop i) (forgetR ρi vs) rest ρ')
    ⟨ρ1, F1, [], [], l, ?_, ?_, Same.refl _, upd_same, s1.sat.sub.free hD, .nil, rfl, Nat.le_refl _, h⟩ (fun i H2 _ ⟨_, F2, _, _, _, st, _, e, _⟩ => e.trans st.sat.sub) ?_ ?_
  · have t := s1.trans (Step.laidM s1.sat (o := .lst []) hD)
    exact t.trans (Step.forgetS t.sat vs)
  · intro q z
    obtain ⟨i, c, m, e1, e2, e3⟩ := z
    by_cases y : i ∈ vs
    · cases forgetR_in y e1
    · rw [forgetR_out y] at e1
      exact o1 q ⟨i, c, m, e1, e2, e3⟩
  · rintro i x H2 H3 hi ⟨ρi, F2, done, xs, rest, st, oo, e, eD, fD, ha, rfl, hl, hr⟩ y
    obtain ⟨F3, gr, d, hd, hx⟩ := y F2 e st.sat.sub
    have ed : ds.drop i = d :: ds.drop (i + 1) := by
      obtain ⟨h1, h2⟩ := List.getElem?_eq_some_iff.mp hd
      rw [← h2]
      exact List.drop_eq_getElem_cons h1
    rw [ed] at hr
    have gs := gr.step st.sat
    have sw : Sat X.K F3 (forgetR ρi vs) (wipe σ vs) H3 := gs.sat.slots (same0_wipe σ vs)
    -- from a state of the block back to the outer one
    have nD : ¬ Own (forgetR ρi vs) (wipe σ vs) D := fun z => (S.ownF (oo D (own_slots (same0_wipe σ vs) z))).2 h0.1
    have dD : H3 D = some (.lst xs) := gs.keep D _ eD fun z => (S.ownF (oo D z)).2 h0.1
    have back : ∀ {ρ4 : Rho} {σ4 : L2.St} {F4 H4 : Hp}, Step X.K (forgetR ρi vs) (wipe σ vs) F3 H3 ρ4 σ4 F4 H4 → Same0 vs (wipe σ vs) σ4 → (∀ q, Own ρ4 σ4 q → Own (forgetR ρi vs) (wipe σ vs) q) →
        Step X.K ρ σ F H (forgetR ρ4 vs) σ F4 H4 ∧ (∀ q, Own (forgetR ρ4 vs) σ q → Own ρ σ q) ∧ H4 D = some (.lst xs) ∧ F4 D = none := by
      intro ρ4 σ4 F4 H4 s4 e4 o4
      have e5 : Same0 vs σ4 σ := ⟨by rw [e4.1, wipe_length], fun i h => by rw [e4.2 i h, wipe_out h]⟩
      have s5 := s4.trans (Step.forgetS s4.sat vs)
      have sat5 : Sat X.K F4 (forgetR ρ4 vs) σ H4 := s5.sat.slots e5
      have own5 : ∀ q, Own (forgetR ρ4 vs) σ q → Own (forgetR ρi vs) σ q := fun q z => by
        have z1 : Own (forgetR ρ4 vs) σ4 q := own_slots e5 z
        obtain ⟨i, c, m, a1, a2, a3⟩ := z1
        by_cases y : i ∈ vs
        · cases forgetR_in y a1
        · rw [forgetR_out y] at a1
          exact own_slots (same0_wipe σ vs) (o4 q ⟨i, c, m, a1, a2, a3⟩)
      have own6 : ∀ q, Own (forgetR ρi vs) (wipe σ vs) q → Own (forgetR ρi vs) σ q := fun q z => own_slots (same0_wipe σ vs) z
      have st5 : Step X.K (forgetR ρi vs) σ F3 H3 (forgetR ρ4 vs) σ F4 H4 :=
        ⟨s5.fr, fun q a b c => s5.new q a b fun z => c (own6 q z), fun q o a c => s5.keep q o a fun z => c (own6 q z), s5.live, sat5, fun q z => .inl (own5 q z)⟩
      refine ⟨(st.trans gs).trans st5, fun q z => oo q (own5 q z), s5.keep D _ dD nD, s5.new D ?_ (by rw [dD]; simp) nD⟩
      exact gs.new D fD (by rw [eD]; simp) fun z => (S.ownF (oo D z)).2 h0.1
    have e3 : Same F1 F3 := e.trans gr.fr
    cases hr with
    | @keep _ y1 _ l2 _ ρ1' ρ2' ρ3' _ hg ht he hrr =>
      refine kg _ _ _ hg x (wipe σ vs) H3 _ ⟨F3, sw, hx, fun σ4 F4 H4 s4 e4 o4 => ⟨(wipe_eq e4).trans (wipe_wipe σ vs), kt _ _ _ ht σ4 H4 _ ⟨F4, s4.sat, fun F5 H5 s5 o5 => iteT (ke _ _ _ he σ4 H5 _ ⟨F5, s5.sat, fun v F6 H6 s6 o6 hv => ?_⟩)⟩⟩⟩
      obtain ⟨b1, b2, b3, b4⟩ := back ((s4.trans s5).trans s6) e4 fun q z => o4 q (o5 q (o6 q z))
      have fr6 : Same F2 F6 := gr.fr.trans (((s4.trans s5).trans s6).fr)
      have nD6 : ¬ Own (forgetR ρ3' vs) σ D := fun z => (S.ownF (b2 D z)).2 h0.1
      refine ⟨xs, b3, sz1 (by rw [ha.length]; omega), ρ3', F6, done ++ [y1], xs ++ [v], l2, ?_, b2, e.trans fr6, upd_same, b4, (DqA.mono fr6 _ ha).append (.cons hv .nil), by rw [List.append_assoc]; rfl, by rw [List.length_append, List.length_singleton]; omega, hrr⟩
      refine ⟨b1.fr, b1.new, fun q o a c => ?_, fun q a => ?_, ⟨b1.sat.len, fun b u z => ?_, fun i c x a b => ?_, b1.sat.inj⟩, b1.own⟩
      · rw [upd_ne (ne_of_none a h0.1)]
        exact b1.keep q o a c
      · by_cases z : q = D
        · rw [z, upd_same]; simp
        · rw [upd_ne z]; exact b1.live q a
      · have ne : b ≠ D := fun w => by rw [w, b4] at z; cases z
        rw [upd_ne ne]
        exact b1.sat.sub _ _ z
      · have sl := b1.sat.slot i c x a b
        cases c with
        | none => trivial
        | some c =>
          cases c with
          | dat d => exact sl
          | scr ns => exact sl
          | own m =>
            obtain ⟨r, u, q1, q2, q3, q4⟩ := sl
            have ne : r ≠ D := fun w => nD6 ⟨i, _, m, a, rfl, by rw [b, q1, w]⟩
            exact ⟨r, u, q1, q2, by rw [upd_ne ne]; exact q3, q4⟩
          | bor r m =>
            obtain ⟨u, q1, q2, q3, q4⟩ := sl
            have ne : r ≠ D := fun w => nD6 ⟨i, _, m, a, rfl, by rw [b, q1, w]⟩
            exact ⟨u, q1, q2, by rw [upd_ne ne]; exact q3, q4⟩
    | skip hg ht hrr =>
      refine kg _ _ _ hg x (wipe σ vs) H3 _ ⟨F3, sw, hx, fun σ4 F4 H4 s4 e4 o4 => ⟨(wipe_eq e4).trans (wipe_wipe σ vs), kt _ _ _ ht σ4 H4 _ ⟨F4, s4.sat, fun F5 H5 s5 o5 => iteF ?_⟩⟩⟩
      obtain ⟨b1, b2, b3, b4⟩ := back (s4.trans s5) e4 fun q z => o4 q (o5 q z)
      have fr6 : Same F2 F5 := gr.fr.trans ((s4.trans s5).fr)
      exact ⟨_, F5, done, xs, rest, b1, b2, e.trans fr6, b3, b4, DqA.mono fr6 _ ha, rfl, Nat.le_succ_of_le hl, hrr⟩
  · rintro H2 ⟨ρi, F2, done, xs, rest, st, oo, e, eD, fD, ha, rfl, hl, hr⟩
    rw [List.drop_length] at hr
    cases hr
    rw [List.append_nil] at fin
    exact fin F2 H2 xs st oo eD fD h0.1 ha
def gAll (X : Cx) (sc : Scope) (tg : Expr) : TG := fun v σ H Q => ∃ t, (Bk X sc fun B => PG B tg t) ∧ t v σ H Q
def tAll (X : Cx) (sc : Scope) (ifs : List Expr) : TT := fun σ H Q => ∃ t, (Bk X sc fun B => PTs B ifs t) ∧ t σ H Q
def eAll (X : Cx) (sc : Scope) (elt : Expr) : TE := fun σ H Q => ∃ t, (Bk X sc fun B => PE B elt t) ∧ t σ H Q
/-- [elt for tg in iter if ..] -/
theorem o_lc (hc : X.calm = true) (nd : X.N.Nodup) (hi : ID X ρ tg iter ρ1 ds) (ok : BlkOk X.N X.env.scope sc own) (hv : own.map (·.2) = vs) (h : LcD X sc vs tg ifs elt ds (forgetR ρ1 vs) l ρ') (hz : ds.length ≤ 1000000)
    (hs : ∀ x, foldedSetIterable iter X.env x = pure x := by intro _; rfl) : EO X ρ (.ListComp elt [⟨tg, iter, ifs, 0⟩] sc pos) ρ' l := by
  subst hv
  refine (pe_lc (g := gAll X sc tg) (tt := tAll X sc ifs) (te := eAll X sc elt) hc nd hi ok
    (fun s H C cl fp => ⟨fun pins s σ H v u Q I r ⟨t, h, q⟩ => (h _ _ _ _ _).run pins s σ H v u Q I r q⟩) (fun s H C cl fp => ⟨fun pins s σ H Q I ⟨t, h, q⟩ => (h _ _ _ _ _).run pins s σ H Q I q⟩)
    (fun s H C cl fp => ⟨fun pins s σ H Q I ⟨t, h, q⟩ => (h _ _ _ _ _).run pins s σ H Q I q⟩) hs).weak fun σ H Q ⟨F, S, k⟩ => ⟨F, S, fun J F1 H1 s1 o1 w D hD => ?_⟩
  exact lc_goes (g := gAll X sc tg) (tt := tAll X sc ifs) (te := eAll X sc elt) h hz S s1 o1 w (fun ρ d ρ1 b v σ H Q q => ⟨_, b, q⟩) (fun ρ ρ1 b' b σ H Q q => ⟨_, b, q⟩) (fun ρ ρ1 d b σ H Q q => ⟨_, b, q⟩) hD
    fun F2 H2 xs st oo e fD hD0 ha => k (.ref D) F2 H2 st oo ⟨D, .lst xs, rfl, ⟨.inl hD0, fun z => (S.ownF (oo D z)).2 hD0⟩, fD, e, ha⟩
theorem e_lc (hc : X.calm = true) (nd : X.N.Nodup) (hi : ID X ρ tg iter ρ1 ds) (ok : BlkOk X.N X.env.scope sc own) (hv : own.map (·.2) = vs) (h : LcD X sc vs tg ifs elt ds (forgetR ρ1 vs) l ρ') (hz : ds.length ≤ 1000000)
    (hs : ∀ x, foldedSetIterable iter X.env x = pure x := by intro _; rfl) : ED X ρ (.ListComp elt [⟨tg, iter, ifs, 0⟩] sc pos) ρ' (.list l) := e_own (o_lc hc nd hi ok hv h hz hs)
/-- name = [..], the name a local, on one line -/
theorem c_setLc (n : Nat) {y : Str} {py spos : Pos} (hc : X.calm = true) (nd : X.N.Nodup) (hy : X.N[n]? = some y) (hyl : X.env.scope.names.lookup y = some .local) (hsw : swapsWith (.ListComp elt [⟨tg, iter, ifs, 0⟩] sc pos) (some (.Name y py)) spos.line X.env = pure true)
    (hi : ID X ρ tg iter ρ1 ds) (ok : BlkOk X.N X.env.scope sc own) (hv : own.map (·.2) = vs) (h : LcD X sc vs tg ifs elt ds (forgetR ρ1 vs) l ρ') (hz : ds.length ≤ 1000000) (hs : ∀ x, foldedSetIterable iter X.env x = pure x := by intro _; rfl) :
    SD X ρ (.Assign [.Name y py] (.ListComp elt [⟨tg, iter, ifs, 0⟩] sc pos) spos) (.nx (ρ'.set n (some (.own (.lst l))))) := by
  subst hv
  refine (ps_setLc (g := gAll X sc tg) (tt := tAll X sc ifs) (te := eAll X sc elt) hc nd hy hyl hsw hi ok
    (fun s H C cl fp => ⟨fun pins s σ H v u Q I r ⟨t, h, q⟩ => (h _ _ _ _ _).run pins s σ H v u Q I r q⟩) (fun s H C cl fp => ⟨fun pins s σ H Q I ⟨t, h, q⟩ => (h _ _ _ _ _).run pins s σ H Q I q⟩)
    (fun s H C cl fp => ⟨fun pins s σ H Q I ⟨t, h, q⟩ => (h _ _ _ _ _).run pins s σ H Q I q⟩) hs).weak fun D σ H ⟨F, S, k⟩ => ⟨F, S, fun J F1 H1 s1 o1 w L hD => ?_⟩
  exact lc_goes (g := gAll X sc tg) (tt := tAll X sc ifs) (te := eAll X sc elt) h hz S s1 o1 w (fun ρ d ρ1 b v σ H Q q => ⟨_, b, q⟩) (fun ρ ρ1 b' b σ H Q q => ⟨_, b, q⟩) (fun ρ ρ1 d b σ H Q q => ⟨_, b, q⟩) hD
    fun F2 H2 xs st oo e fD hD0 ha => k _ F2 H2 (st.into (n := n) (v := .ref L) (m := .lst l) ⟨L, .lst xs, rfl, ⟨.inl hD0, fun z => (S.ownF (oo L z)).2 hD0⟩, fD, e, ha⟩)
/-- the same, data from now on -/
theorem Step.fixed {K : PySem.W.Frag} {ρ ρ' : Rho} {σ σ' : L2.St} {F H F' H' : Hp} {n : Nat} {l : List PyData} (s : Step K ρ σ F H ρ' σ' F' H') (h : ρ'[n]? = some (some (.own (.lst l)))) : ∃ F2, Step K ρ σ F H (ρ'.set n (some (.dat (.list l)))) σ' F2 H' := by
  obtain ⟨p, o, e1, e2, e3, e4⟩ := s.sat.held h rfl
  cases o with
  | lst xs =>
    have s2 := s.trans (Step.forget (n := n) s.sat)
    have np : ¬ Own (ρ'.set n none) σ' p := fun ⟨i, c, m, a, b, d⟩ => by
      by_cases z : n = i
      · subst z
        rw [List.getElem?_set, if_pos rfl] at a
        split at a <;> cases a
      · rw [List.getElem?_set_ne z] at a
        exact z (s.sat.inj n i p ⟨_, _, h, rfl, e1⟩ ⟨c, m, a, b, d⟩)
    have own : H p = none ∨ Own ρ σ p := by
      rcases s.own p ⟨n, _, _, h, rfl, e1⟩ with y | y
      · exact .inr y
      · exact .inl y
    have s3 := s2.freeze own np e2 e3
    refine ⟨_, s3.fr, s3.new, s3.keep, s3.live, ⟨by rw [List.length_set]; exact s.sat.len, s3.sat.sub, fun i c x a b => ?_, fun i j q a b => ?_⟩, fun q z => ?_⟩
    · by_cases z : n = i
      · subst z
        rw [List.getElem?_set, if_pos rfl] at a
        split at a
        · cases a
          rw [e1] at b
          cases b
          exact ⟨_, rfl, .lst upd_same (DqA.mono (same_upd e2) _ e4)⟩
        · cases a
      · rw [List.getElem?_set_ne z] at a
        exact s3.sat.slot i c x (by rw [List.getElem?_set_ne z]; exact a) b
    · have t : ∀ {i q}, Held (ρ'.set n (some (.dat (.list l)))) σ' i q → Held (ρ'.set n none) σ' i q := fun {i q} ⟨c, m, a, b, d⟩ => by
        by_cases z : n = i
        · subst z
          rw [List.getElem?_set, if_pos rfl] at a
          split at a
          · cases a
            cases b
          · cases a
        · rw [List.getElem?_set_ne z] at a
          exact ⟨c, m, by rw [List.getElem?_set_ne z]; exact a, b, d⟩
      exact s3.sat.inj i j q (t a) (t b)
    · obtain ⟨i, c, m, a, b, d⟩ := z
      refine s3.own q ⟨i, c, m, ?_, b, d⟩
      by_cases z : n = i
      · subst z
        rw [List.getElem?_set, if_pos rfl] at a
        split at a
        · cases a
          cases b
        · cases a
      · rw [List.getElem?_set_ne z] at a ⊢
        exact a
  | _ => exact e4.elim
theorem s_fix (n : Nat) {st : Stmt} {ρ ρ1 : Rho} {l : List PyData} (h : SD X ρ st (.nx ρ1)) (e : ρ1[n]? = some (some (.own (.lst l)))) : SD X ρ st (.nx (ρ1.set n (some (.dat (.list l))))) :=
  h.weak fun D σ H ⟨F, S, g⟩ => ⟨F, S, fun σ' F' H' s => let ⟨F2, s2⟩ := s.fixed e; g σ' F2 H' s2⟩
theorem ss_fix (n : Nat) {sts : List Stmt} {ρ : Rho} {l : List PyData} {o : Out} (e : ρ[n]? = some (some (.own (.lst l)))) (h : SDs X (ρ.set n (some (.dat (.list l)))) sts o) : SDs X ρ sts o :=
  h.weak fun D σ H ⟨F, S, g⟩ => let ⟨F2, s2⟩ := (Step.refl S).fixed e; ⟨F2, s2.sat, g.step s2⟩
/-- y = [..], data -/
theorem s_setLc (n : Nat) {y : Str} {py spos : Pos} (hc : X.calm = true) (nd : X.N.Nodup) (hy : X.N[n]? = some y) (hyl : X.env.scope.names.lookup y = some .local) (hsw : swapsWith (.ListComp elt [⟨tg, iter, ifs, 0⟩] sc pos) (some (.Name y py)) spos.line X.env = pure true)
    (hi : ID X ρ tg iter ρ1 ds) (ok : BlkOk X.N X.env.scope sc own) (hv : own.map (·.2) = vs) (h : LcD X sc vs tg ifs elt ds (forgetR ρ1 vs) l ρ') (hz : ds.length ≤ 1000000) (hn : n < ρ'.length) (hs : ∀ x, foldedSetIterable iter X.env x = pure x := by intro _; rfl) :
    SD X ρ (.Assign [.Name y py] (.ListComp elt [⟨tg, iter, ifs, 0⟩] sc pos) spos) (.nx (ρ'.set n (some (.dat (.list l))))) := by
  have q := s_fix n (c_setLc n hc nd hy hyl hsw hi ok hv h hz hs) (l := l) (by rw [List.getElem?_set_self hn])
  rw [List.set_set] at q
  exact q
end

end Cl

set_option maxRecDepth 100000
namespace Cl
open PySem PySem.Spec PyProof.Rows L2
/-- the names at a def's entry -/
def enter (N : List Str) (cs : List Cell) : Rho := cs.map some ++ List.replicate (N.length - cs.length) none
section
variable {K : PySem.W.Frag} {F F' H H' : Hp} {cs cs' : List Cell} {vs : List V} {N : List Str} {ρ' : Rho} {σ' : L2.St} {r : Cell}
theorem enter_get {i : Nat} {c : Cell} (h : (enter N cs)[i]? = some (some c)) : cs[i]? = some c := by
  unfold enter at h
  by_cases hi : i < cs.length
  · rw [List.getElem?_append_left (by simpa using hi), List.getElem?_map] at h
    cases e : cs[i]? with
    | none => rw [e] at h; cases h
    | some a => rw [e] at h; cases h; rfl
  · rw [List.getElem?_append_right (by simpa using hi), List.getElem?_replicate] at h
    split at h <;> cases h
theorem start_get {i : Nat} {v : V} (h : (start N vs)[i]? = some (some v)) : vs[i]? = some v := by
  unfold L2.start at h
  by_cases hi : i < vs.length
  · rw [List.getElem?_append_left (by simpa using hi), List.getElem?_map] at h
    cases e : vs[i]? with
    | none => rw [e] at h; cases h
    | some a => rw [e] at h; cases h; rfl
  · rw [List.getElem?_append_right (by simpa using hi), List.getElem?_replicate] at h
    split at h <;> cases h
theorem map_get {α : Type} {xs : List α} {i : Nat} {c : α} : (xs.map some)[i]? = some (some c) ↔ xs[i]? = some c := by
  rw [List.getElem?_map]
  cases xs[i]? <;> simp
theorem start_in {i : Nat} {v : V} (h : vs[i]? = some v) : (start N vs)[i]? = some (some v) := by
  unfold L2.start
  have hi := (List.getElem?_eq_some_iff.mp h).1
  rw [List.getElem?_append_left (by simpa using hi)]
  exact map_get.mpr h
theorem enter_in {i : Nat} {c : Cell} (h : cs[i]? = some c) : (enter N cs)[i]? = some (some c) := by
  unfold enter
  have hi := (List.getElem?_eq_some_iff.mp h).1
  rw [List.getElem?_append_left (by simpa using hi)]
  exact map_get.mpr h
theorem held_enter {i : Nat} {q : Addr} : Held (enter N cs) (start N vs) i q ↔ Held (cs.map some) (vs.map some) i q :=
  ⟨fun ⟨c, m, a, b, d⟩ => ⟨c, m, map_get.mpr (enter_get a), b, map_get.mpr (start_get d)⟩, fun ⟨c, m, a, b, d⟩ => ⟨c, m, enter_in (map_get.mp a), b, start_in (map_get.mp d)⟩⟩
theorem own_enter {q : Addr} : Own (enter N cs) (start N vs) q ↔ Own (cs.map some) (vs.map some) q := ⟨fun ⟨i, h⟩ => ⟨i, held_enter.mp h⟩, fun ⟨i, h⟩ => ⟨i, held_enter.mpr h⟩⟩
theorem sat_enter (S : Sat K F (cs.map some) (vs.map some) H) : Sat K F (enter N cs) (start N vs) H := by
  have hl : vs.length = cs.length := by simpa using S.len
  refine ⟨?_, S.sub, fun i c x a b => ?_, fun i j q a b => S.inj i j q (held_enter.mp a) (held_enter.mp b)⟩
  · unfold L2.start enter
    rw [List.length_append, List.length_append, List.length_map, List.length_map, List.length_replicate, List.length_replicate, hl]
  · cases c with
    | none => trivial
    | some c =>
      have e1 := enter_get a
      have hi : i < vs.length := by
        rw [hl]
        exact (List.getElem?_eq_some_iff.mp e1).1
      have e2 : (start N vs)[i]? = some (some vs[i]) := start_in (List.getElem?_eq_getElem hi)
      rw [e2] at b
      cases b
      exact S.slot i _ _ (map_get.mpr e1) (map_get.mpr (List.getElem?_eq_getElem hi))
/-- the end of a body -/
theorem leave (S : Sat K F (cs.map some) (vs.map some) H) (st : Step K (enter N cs) (start N vs) F H ρ' σ' F' H') (hl : cs'.length = cs.length)
    (hc : ∀ (i : Nat) (c : Cell), cs'[i]? = some c → (c.mu = none ∧ cs[i]? = some c) ∨ ∃ p m m', c = .bor p m' ∧ cs[i]? = some (.bor p m) ∧ ∃ j : Nat, ρ'[j]? = some (some (.bor p m'))) :
    Step K (cs.map some) (vs.map some) F H (cs'.map some) (vs.map some) F' H' ∧ (∀ q, Own (cs'.map some) (vs.map some) q → Own (cs.map some) (vs.map some) q) ∧ ∀ q, Own (cs.map some) (vs.map some) q → Own ρ' σ' q := by
  have hv : vs.length = cs.length := by simpa using S.len
  have hld : ∀ i q, Held (cs'.map some) (vs.map some) i q → Held (cs.map some) (vs.map some) i q := fun i q ⟨c, m, a, b, d⟩ => by
    rcases hc i c (map_get.mp a) with ⟨z, _⟩ | ⟨p, m1, m2, e1, e2, _⟩
    · rw [z] at b; cases b
    · exact ⟨.bor p m1, m1, map_get.mpr e2, rfl, d⟩
  have last : ∀ {j : Nat} {p : Addr} {m : Mu}, ρ'[j]? = some (some (.bor p m)) → σ'[j]? = some (some (.ref p)) ∧ ∃ o, F' p = none ∧ H' p = some o ∧ MuOk K F' m o := fun {j p m} e => by
    obtain ⟨q, o, e1, e2, e3, e4⟩ := st.sat.held e rfl
    have hj := (List.getElem?_eq_some_iff.mp e1).1
    obtain ⟨o2, f1, f2, f3, f4⟩ := st.sat.slot j _ _ e (List.getElem?_eq_getElem hj)
    rw [List.getElem?_eq_getElem hj] at e1
    rw [f1] at e1
    cases e1
    exact ⟨by rw [List.getElem?_eq_getElem hj, f1], o2, f2, f3, f4⟩
  refine ⟨⟨st.fr, fun q a b z => st.new q a b fun y => z (own_enter.mp y), fun q o a z => st.keep q o a fun y => z (own_enter.mp y), st.live, ⟨by simp [hl, hv], st.sat.sub, fun i c x a b => ?_, fun i j q a b => S.inj i j q (hld i q a) (hld j q b)⟩, fun q ⟨i, z⟩ => .inl ⟨i, hld i q z⟩⟩, fun q ⟨i, z⟩ => ⟨i, hld i q z⟩, fun q ⟨i, c, m, a, b, d⟩ => ?_⟩
  · cases c with
    | none => trivial
    | some c =>
      rcases hc i c (map_get.mp a) with ⟨z, e⟩ | ⟨p, m1, m2, e1, e2, j, e3⟩
      · have sl := S.slot i _ _ (map_get.mpr e) b
        cases c with
        | dat d =>
          obtain ⟨v, q1, q2⟩ := sl
          exact ⟨v, q1, q2.mono st.fr⟩
        | scr ns =>
          obtain ⟨v, q1, q2⟩ := sl
          exact ⟨v, q1, st.fr.seq q2⟩
        | own m => cases z
        | bor p m => cases z
      · subst e1
        obtain ⟨_, o, f2, f3, f4⟩ := last e3
        obtain ⟨_, g1, _⟩ := S.slot i _ _ (map_get.mpr e2) b
        exact ⟨o, g1, f2, f3, f4⟩
  · have hi : i < cs'.length := by
      rw [hl]
      exact (List.getElem?_eq_some_iff.mp (map_get.mp a)).1
    rcases hc i _ (List.getElem?_eq_getElem hi) with ⟨z, e⟩ | ⟨p, m1, m2, e1, e2, j, e3⟩
    · rw [map_get.mp a] at e
      cases e
      rw [z] at b
      cases b
    · have hvs := (List.getElem?_eq_some_iff.mp d).1
      obtain ⟨_, g1, _⟩ := S.slot i _ _ (map_get.mpr e2) (List.getElem?_eq_getElem hvs)
      rw [List.getElem?_eq_getElem hvs, g1] at d
      cases d
      exact ⟨j, _, m2, e3, rfl, (last e3).1⟩
end
/-- the arguments ahead of the call and behind it -/
def Meets (cs cs' : List Cell) (bs : List (Addr × Mu)) : Prop := cs'.length = cs.length ∧ ∀ (i : Nat) (c : Cell), cs'[i]? = some c → (c.mu = none ∧ cs[i]? = some c) ∨ ∃ p m m', c = .bor p m' ∧ cs[i]? = some (.bor p m) ∧ (p, m') ∈ bs
section
variable {P : Program} {w : World} {K : PySem.W.Frag} {mg : Str → Option Value} {base : Heap} {k : Nat} {f : Addr} {fd : FuncData} {ps N : List Str} {S : Spec} {x qual : Str} {st : Stmt}
/-- THE RULE for a def -/
theorem body_ok (F : Fun K x qual st f fd) (Sc : FnScope N ps (defScope st)) (len : ∀ cs r cs', S cs r cs' → cs.length = ps.length)
    (body : ∀ (cdv : Value) (A : Around) (outer : List Env) (s : Shared) (H : Hp) (E : XK), Room k (A.deeper (envOfC qual (defScope st) s.heap.objs.size f cdv)) → A.guards = some [] → ∀ cs r cs', S cs r cs' →
      ∃ bs, SDs (cxOf CX0 P w K mg base N qual (defScope st) f cdv A outer s H E).nox (enter N cs) (defBody st) (.rt r bs) ∧ Meets cs cs' bs) : FnG P w K mg base CX0 (k + 1) f fd ps (spOf K S) := by
  have ln : ∀ vs H Q E, spOf K S vs H Q E → vs.length = ps.length := by
    rintro vs H Q E ⟨cs, r, cs', hS, F, Sa, _⟩
    have : vs.length = cs.length := by simpa using Sa.len
    rw [this]
    exact len cs r cs' hS
  refine fn_body F Sc ln fun cdv A outer s H vs Q E room grd pr => ?_
  obtain ⟨cs, r, cs', hS, Fz, Sa, kk⟩ := pr
  obtain ⟨bs, hb, hl, hc⟩ := body cdv A outer s H E room grd cs r cs' hS
  refine ⟨_, hb.nox, Fz, sat_enter Sa, ?_⟩
  intro v ρ' σ' F' H' step hbs hv
  obtain ⟨a, b, d⟩ := leave Sa step hl fun i c h => (hc i c h).imp id fun ⟨p, m, m', e1, e2, e3⟩ => ⟨p, m, m', e1, e2, hbs (p, m') e3⟩
  refine kk v F' H' a b (hv.imp fun p hp => ?_)
  rcases hp.1 with z | z
  · exact z
  · exact (hp.2 (d p (own_enter.mp z))).elim
/-- a body that comes to its end -/
theorem ss_end {X : Cx} {ρ ρ1 : Rho} {sts : List Stmt} (h : SDs X ρ sts (.nx ρ1)) : PSs X sts fun D σ H => ∃ F, Sat X.K F ρ σ H ∧ ∀ σ' F' H', Step X.K ρ σ F H ρ1 σ' F' H' → D.nx σ' H' := h
theorem dat_none {ds : List PyData} {i : Nat} {c : Cell} (h : (ds.map Cell.dat)[i]? = some c) : c.mu = none := by
  rw [List.getElem?_map] at h
  cases q : ds[i]? with
  | none => rw [q] at h; cases h
  | some d => rw [q] at h; cases h; rfl
theorem meets_dats {ds : List PyData} : Meets (ds.map .dat) (ds.map .dat) [] := ⟨rfl, fun i c h => .inl ⟨dat_none h, h⟩⟩
theorem meets_bor {q : Addr} {m m' : Mu} {ds : List PyData} : Meets (.bor q m :: ds.map .dat) (.bor q m' :: ds.map .dat) [(q, m')] := ⟨by simp, fun i c e => by
  cases i with
  | zero =>
    cases e
    exact .inr ⟨q, m, m', rfl, rfl, List.mem_singleton.mpr rfl⟩
  | succ i => exact .inl ⟨dat_none (ds := ds) (i := i) (by simpa using e), by simpa using e⟩⟩
theorem meets_scr {ns : List Int} {ds : List PyData} : Meets (.scr ns :: ds.map .dat) (.scr ns :: ds.map .dat) [] := ⟨rfl, fun i c e => by
  refine .inl ⟨?_, e⟩
  cases i with
  | zero =>
    cases e
    rfl
  | succ i => exact dat_none (ds := ds) (i := i) (by simpa using e)⟩
/-- data in, data out -/
theorem fn_pure {R : List PyData → PyData → Prop} (F : Fun K x qual st f fd) (Sc : FnScope N ps (defScope st)) (len : ∀ ds d, R ds d → ds.length = ps.length)
    (body : ∀ (cdv : Value) (A : Around) (outer : List Env) (s : Shared) (H : Hp) (E : XK), Room k (A.deeper (envOfC qual (defScope st) s.heap.objs.size f cdv)) → A.guards = some [] → ∀ ds d, R ds d →
      SDs (cxOf CX0 P w K mg base N qual (defScope st) f cdv A outer s H E).nox (enter N (ds.map .dat)) (defBody st) (.rt (.dat d) [])) : FnG P w K mg base CX0 (k + 1) f fd ps (spOf K (pureS R)) :=
  body_ok F Sc (by rintro cs r cs' ⟨ds, d, h, rfl, _⟩; rw [List.length_map]; exact len ds d h) fun cdv A outer s H E room grd cs r cs' hS => by
    obtain ⟨ds, d, h, rfl, rfl, rfl⟩ := hS
    exact ⟨_, body cdv A outer s H E room grd ds d h, meets_dats⟩
theorem fn_new {R : List PyData → List PyData → Prop} (F : Fun K x qual st f fd) (Sc : FnScope N ps (defScope st)) (len : ∀ ds d, R ds d → ds.length = ps.length)
    (body : ∀ (cdv : Value) (A : Around) (outer : List Env) (s : Shared) (H : Hp) (E : XK), Room k (A.deeper (envOfC qual (defScope st) s.heap.objs.size f cdv)) → A.guards = some [] → ∀ ds l, R ds l →
      SDs (cxOf CX0 P w K mg base N qual (defScope st) f cdv A outer s H E).nox (enter N (ds.map .dat)) (defBody st) (.rt (.own (.lst l)) [])) : FnG P w K mg base CX0 (k + 1) f fd ps (spOf K (newS R)) :=
  body_ok F Sc (by rintro cs r cs' ⟨ds, d, h, rfl, _⟩; rw [List.length_map]; exact len ds d h) fun cdv A outer s H E room grd cs r cs' hS => by
    obtain ⟨ds, d, h, rfl, rfl, rfl⟩ := hS
    exact ⟨_, body cdv A outer s H E room grd ds d h, meets_dats⟩
theorem fn_pot {R : List PyData → List PyData → List PyData → PyData → Prop} (F : Fun K x qual st f fd) (Sc : FnScope N ps (defScope st)) (len : ∀ m ds m' d, R m ds m' d → ds.length + 1 = ps.length)
    (body : ∀ (cdv : Value) (A : Around) (outer : List Env) (s : Shared) (H : Hp) (E : XK), Room k (A.deeper (envOfC qual (defScope st) s.heap.objs.size f cdv)) → A.guards = some [] → ∀ p m ds m' d, R m ds m' d →
      SDs (cxOf CX0 P w K mg base N qual (defScope st) f cdv A outer s H E).nox (enter N (.bor p (.lst m) :: ds.map .dat)) (defBody st) (.rt (.dat d) [(p, .lst m')])) : FnG P w K mg base CX0 (k + 1) f fd ps (spOf K (potS R)) :=
  body_ok F Sc (by rintro cs r cs' ⟨p, m, ds, m', d, h, rfl, _⟩; rw [List.length_cons, List.length_map]; exact len _ _ _ _ h) fun cdv A outer s H E room grd cs r cs' hS => by
    obtain ⟨p, m, ds, m', d, h, rfl, rfl, rfl⟩ := hS
    exact ⟨_, body cdv A outer s H E room grd p m ds m' d h, meets_bor⟩
theorem fn_scr {R : List Int → List PyData → Cell → Prop} (F : Fun K x qual st f fd) (Sc : FnScope N ps (defScope st)) (len : ∀ ns ds r, R ns ds r → ds.length + 1 = ps.length)
    (body : ∀ (cdv : Value) (A : Around) (outer : List Env) (s : Shared) (H : Hp) (E : XK), Room k (A.deeper (envOfC qual (defScope st) s.heap.objs.size f cdv)) → A.guards = some [] → ∀ ns ds r, R ns ds r →
      SDs (cxOf CX0 P w K mg base N qual (defScope st) f cdv A outer s H E).nox (enter N (.scr ns :: ds.map .dat)) (defBody st) (.rt r [])) : FnG P w K mg base CX0 (k + 1) f fd ps (spOf K (scrS R)) :=
  body_ok F Sc (by rintro cs r cs' ⟨ns, ds, h, rfl, _⟩; rw [List.length_cons, List.length_map]; exact len _ _ _ h) fun cdv A outer s H E room grd cs r cs' hS => by
    obtain ⟨ns, ds, h, rfl, rfl⟩ := hS
    exact ⟨_, body cdv A outer s H E room grd ns ds r h, meets_scr⟩
end
end Cl

set_option maxRecDepth 100000
namespace Cl
open PySem PySem.Spec PyProof.Rows L2
/-! ### the law's own end -/
/-- what the law promises: of every script the answer True -/
def lawS (n : Nat) : Spec := scrS fun ns ds r => ds = [] ∧ ns.length ≤ n ∧ r = .dat (.bool true)
theorem guards_caller : callerA.guards = some [] := rfl
section
variable {P : Program} {w : World} {K : PySem.W.Frag} {mg mb : Str → Option Value} {k n : Nat} {fa a : Addr} {fd : FuncData} {x : Str} {s1 : Shared} {vs : List Value} {ns : List Int}
/-- from an abstract heap that knows the script at most -/
theorem law_core (H : Hp) (at_a : ∀ b, H b ≠ none → b = a) (froz : ∀ b u, H b = some u → ∃ ob xs, u = .frz ob (.lst xs)) (notK : H a ≠ none → K.lookup a = none) (seen : SqL K H a (ns.map V.int)) (hok : HOk P w H s1.heap)
    (KX : K.In s1.heap) (glob : s1.heap.Ns mainGlobals mg) (blt : s1.heap.Ns builtinsNs mb) (bl2 : ∀ y : Str, y ≠ "__name__" → mb y = bootBuiltins y) (nlim : s1.heap.NoLimit) (ngen : s1.gens = #[]) (obj : s1.heap.get? a = some { cls := .type "list", data := .seq vs.toArray })
    (few : ns.length ≤ n) (room : Room k callerA) (law : ∀ base : Heap, K.In base → base.Ns mainGlobals mg → FnG P w K mg base CX0 k fa fd [x] (spOf K (lawS n))) (bnd : ∀ (s : Shared) (u : Value), BindsTo s fd ⟨[u], []⟩ [(x, u)]) :
    codeAny (model P w) callerA (.call (.ref fa) ⟨[.ref a], []⟩) (fun r s' => r = .ok (.ret (.bool true)) ∧ OldK s1.heap s'.heap ∧ s'.os = s1.os ∧ AllBare s'.gens) s1 := by
  have dicts : ∀ {b : Addr} {o : Obj} {es : Array DictEntry} {ep : Nat}, s1.heap.get? b = some o → o.data = .dict es ep → H b = none := by
    intro b o es ep e d
    by_cases z : H b = none
    · exact z
    · have eb := at_a b z
      rw [eb, obj] at e
      injection e with e
      rw [← e] at d
      injection d
  have nss : ∀ {b : Addr} {m : Str → Option Value}, s1.heap.Ns b m → (hidT s1.heap H).Ns b m := by
    rintro b m ⟨o, es, ep, e, d, r⟩
    exact ⟨o, es, ep, hidT_get e (dicts e d), d, r⟩
  have kin : K.In (hidT s1.heap H) := by
    intro b o e
    refine hidT_get (KX b o e) ?_
    by_cases z : H b = none
    · exact z
    · have eb := at_a b z
      subst eb
      rw [notK z] at e
      cases e
  have lim2 : (hidT s1.heap H).NoLimit := by
    obtain ⟨mc, l1, l2⟩ := nlim
    exact ⟨mc, nss l1, l2⟩
  have env : Env0 P w K mg (hidT s1.heap H) callerA [] s1 H :=
    { frames := rfl, mod := ⟨kin, nss glob, ⟨mb, nss blt, bl2⟩, lim2⟩, bs := fun b o e => of_hidT e, bsz := Nat.le_of_eq (hidT_size _ _), funs := trivial, frf := (fun b hb => nomatch hb), hok := hok, bare := .of_eq ngen }
  have pr : spOf K (lawS n) [.ref a] H (fun v _ => v = .bl true) E0 := by
    refine ⟨[.scr ns], .dat (.bool true), [.scr ns], ⟨ns, [], ⟨rfl, few, rfl⟩, rfl, rfl⟩, H, ⟨rfl, Same.refl H, ?_, ?_⟩, ?_⟩
    · intro i c y e1 e2
      cases i with
      | zero =>
        cases e1
        cases e2
        exact ⟨a, rfl, seen⟩
      | succ i => cases e1
    · rintro i j q ⟨c, m, e1, e2, _⟩ _
      cases i with
      | zero =>
        cases e1
        cases e2
      | succ i => cases e1
    · intro v F' H' _ _ hv
      cases hv
      rfl
  have run := (law _ kin (nss glob)).run callerA [] s1 H ⟨[.ref a], []⟩ [.ref a] [.ref a] _ E0 room guards_caller env (bnd s1 (.ref a)) (.cons rfl .nil) pr
  refine codeAny_mono run ?_
  intro r s' h
  match r, h with
  | .ok (.ret u), h =>
    obtain ⟨v, H', os, bare, un, hok', rel, q⟩ := h
    have q2 : v = .bl true := q
    subst q2
    have eu : u = Value.bool true := rel
    subst eu
    refine ⟨rfl, OldK.of_keep ?_, os, bare⟩
    intro b o e
    cases z : H b with
    | none => exact un.keep b o e z (by intro y; cases y) (by intro y; cases y)
    | some u =>
      obtain ⟨ob, xs, rfl⟩ := froz b u z
      have z2 := un.frzs b ob _ z
      have o1 := (hok b _ z).1
      have o2 := (hok' b _ z2).1
      rw [e] at o1
      cases o1
      exact o2
theorem law_end (KX : K.In s1.heap) (glob : s1.heap.Ns mainGlobals mg) (blt : s1.heap.Ns builtinsNs mb) (bl2 : ∀ y : Str, y ≠ "__name__" → mb y = bootBuiltins y) (nlim : s1.heap.NoLimit) (ngen : s1.gens = #[]) (obj : s1.heap.get? a = some { cls := .type "list", data := .seq vs.toArray }) (hnts : IntsAre vs ns)
    (few : ns.length ≤ n) (hn : n ≤ sizeLine) (room : Room k callerA) (law : ∀ base : Heap, K.In base → base.Ns mainGlobals mg → FnG P w K mg base CX0 k fa fd [x] (spOf K (lawS n))) (bnd : ∀ (s : Shared) (u : Value), BindsTo s fd ⟨[u], []⟩ [(x, u)]) :
    codeAny (model P w) callerA (.call (.ref fa) ⟨[.ref a], []⟩) (fun r s' => r = .ok (.ret (.bool true)) ∧ OldK s1.heap s'.heap ∧ s'.os = s1.os ∧ AllBare s'.gens) s1 := by
  have rv := vals_ints hnts
  have lv := hnts.length
  have few2 : ns.length ≤ sizeLine := Nat.le_trans few hn
  by_cases hk : K.lookup a = none
  · have ea : (fun b => if b = a then some (HO.frz { cls := .type "list", data := .seq vs.toArray } (.lst (ns.map V.int))) else none) a = some (HO.frz { cls := .type "list", data := .seq vs.toArray } (.lst (ns.map V.int))) := if_pos rfl
    refine law_core (fun b => if b = a then some (.frz { cls := .type "list", data := .seq vs.toArray } (.lst (ns.map V.int))) else none) ?_ ?_ (fun _ => hk) (.inl (.inr ⟨_, ea⟩)) ?_ KX glob blt bl2 nlim ngen obj few room law bnd
    · intro b h
      by_cases e : b = a
      · exact e
      · exact absurd (if_neg e) h
    · intro b u h
      by_cases e : b = a
      · have h2 : (if b = a then some (HO.frz { cls := .type "list", data := .seq vs.toArray } (.lst (ns.map V.int))) else none) = some u := h
        rw [if_pos e] at h2
        cases h2
        exact ⟨_, _, rfl⟩
      · have h2 : (if b = a then some (HO.frz { cls := .type "list", data := .seq vs.toArray } (.lst (ns.map V.int))) else none) = some u := h
        rw [if_neg e] at h2
        cases h2
    · intro b u h
      have h2 : (if b = a then some (HO.frz { cls := .type "list", data := .seq vs.toArray } (.lst (ns.map V.int))) else none) = some u := h
      by_cases e : b = a
      · rw [if_pos e] at h2
        cases h2
        subst e
        exact ⟨obj, by rw [List.length_map]; exact few2, vs, _, rv, obj⟩
      · rw [if_neg e] at h2
        cases h2
  · obtain ⟨o, ho⟩ := Option.ne_none_iff_exists'.mp hk
    have e := KX a o ho
    rw [obj] at e
    cases e
    refine law_core (fun _ => none) (fun b h => absurd rfl h) (fun b u h => by cases h) (fun h => absurd rfl h) (.inr ⟨_, vs.toArray, _, ho, rfl, rfl, rfl, ?_, ?_⟩) (fun b u h => by cases h) KX glob blt bl2 nlim ngen obj few room law bnd
    · rw [List.size_toArray, lv]
      exact few2
    · simpa using rv
end
/-- the goal that the head leaves -/
theorem walk_end {l : PySem.W.OpenLaw} {n k : Nat} {q : Program} {loose : List Str} {XP : (Str → Option Value) → Heap → Prop} {YP : World → Heap → Prop} {d : DefRec} {K : Params → PySem.W.Frag} {x : Str} (most : l.most = some n) (hn : n ≤ sizeLine) (nodef : d.params.defaults = []) (room : Room k callerA)
    (kin : ∀ (w : World) (h : Heap), YP w h → (K w.params).In h)
    (defs : ∀ (w : World) (mg : Str → Option Value) (fa : Addr) (h : Heap), (K w.params).In h → h.Ns mainGlobals mg → mg d.name = some (.ref fa) →
      ∃ fd : FuncData, (∀ (s : Shared) (u : Value), BindsTo s fd ⟨[u], []⟩ [(x, u)]) ∧ ∀ base : Heap, (K w.params).In base → base.Ns mainGlobals mg → FnG l.prog w (K w.params) mg base CX0 k fa fd [x] (spOf (K w.params) (lawS n))) :
    PySem.W.WalkO q loose XP YP l.row.toRowW d [] (fun f vs => PySem.call f vs) := by
  apply Att.attach_call most nodef
  intro w s0 s1 mg mb fa o pm cd doc a vs ns G Y _ _ _ hmg obj hnts few ngen
  obtain ⟨fd, bnd, law⟩ := defs w mg fa _ (kin w _ Y) G.T.g hmg
  exact law_end (kin w _ Y) G.T.g G.T.b G.T.builtins G.T.nolimit ngen obj hnts few hn room law bnd
end Cl

set_option maxRecDepth 100000
namespace Cl
open PySem PySem.Spec PyProof.Rows L2
section
variable {X : Cx} {ρ ρ1 ρ2 : Rho} {e : Expr} {d : PyData} {pos p p1 p2 p3 p4 : Pos} {x : Str} {ds : List PyData}
/-- a constant of the module -/
def Konst (K : PySem.W.Frag) (mg : Str → Option Value) (x : Str) (d : PyData) : Prop := ∃ v u, mg x = some u ∧ RelV v u ∧ ∀ F, Dq K F v d
theorem e_const (h : Konst X.K X.mg x d) (hg : Gl X x) (hd : (x == ("__debug__" : Str)) = false := by decide) : ED X ρ (.Name x pos) ρ d := by
  obtain ⟨v, u, h1, h2, h3⟩ := h
  exact e_c (pe_glob hg h1 h2 hd) h3
theorem e_lenS (n : Nat) {ns : List Int} (hg : Gl X "len") (hm : X.mg "len" = none) (h : ρ[n]? = some (some (.scr ns))) (hN : X.N[n]? = some x) (hv : Vis X.env.scope x) (hd : (x == ("__debug__" : Str)) = false := by decide) (hcd : (x == ("__classdict__" : Str)) = false := by decide)
    (he : starEach [.Name x p2] X.env = (false, eval (.Name x p2) X.env) :: starEach [] X.env := by rfl) (hpl : (backTo pos (starEach [] X.env)).any (·.1) = false := by rfl) : ED X ρ (.Call (.Name "len" p) [.Name x p2] [] pos) ρ (.int ns.length) :=
  (pe_callB call_len hg hm PySem.boot_len (pa_cons (pe_var hN hv hd hcd) pa_nil he) (by decide) (by decide) he hpl).weak fun σ H Q ⟨F, S, k⟩ => by
    obtain ⟨q, e1, e2⟩ := S.scr h
    exact ⟨_, e1, _, ns.length, rfl, .inl ⟨_, S.sub.seq e2, by rw [List.length_map]⟩, k _ F H (Step.refl S) own_id (.int _)⟩
/-- isinstance of data -/
def tyName : PyData → String
  | .none => "NoneType"
  | .bool _ => "bool"
  | .int _ => "int"
  | .str _ => "str"
  | .list _ => "list"
  | .tuple _ => "tuple"
  | .dict _ => "dict"
def isName (d : PyData) (c : String) : Bool := tyName d == c || (tyName d == "bool" && c == "int")
theorem dq_ty {K : PySem.W.Frag} {F H : Hp} {v : V} (h : Dq K F v d) (s : Same F H) : TyX K H v (.type (tyName d)) := by
  cases h with
  | non => exact .base .non
  | bl b => exact .base (.bl b)
  | int i => exact .base (.int i)
  | str x => exact .base (.str x)
  | lst hs ha => exact .base (.lst (s _ _ hs))
  | tup hs ha =>
    rcases hs with (h | ⟨o, h⟩) | ⟨o, its, n, h1, h2, _⟩
    · exact .base (.tup (s _ _ h))
    · exact .fTuple (s _ _ h)
    · exact .kTuple h1 h2
  | dct hs => exact .base (.dK (s _ _ hs))
theorem kit_int : kitB (tyName d) "int" = some (isName d "int") := by cases d <;> (simp only [tyName, isName]; decide +kernel)
theorem kit_bool : kitB (tyName d) "bool" = some (isName d "bool") := by cases d <;> (simp only [tyName, isName]; decide +kernel)
theorem kit_str : kitB (tyName d) "str" = some (isName d "str") := by cases d <;> (simp only [tyName, isName]; decide +kernel)
theorem kit_list : kitB (tyName d) "list" = some (isName d "list") := by cases d <;> (simp only [tyName, isName]; decide +kernel)
theorem kit_tuple : kitB (tyName d) "tuple" = some (isName d "tuple") := by cases d <;> (simp only [tyName, isName]; decide +kernel)
theorem kit_dict : kitB (tyName d) "dict" = some (isName d "dict") := by cases d <;> (simp only [tyName, isName]; decide +kernel)
theorem e_isi1 {c : String} (hg : Gl X "isinstance") (hm : X.mg "isinstance" = none) (hc : PE X (.Name c p2) (tC (.ty c))) (hk : kitB (tyName d) c = some (isName d c)) (h : ED X ρ e ρ1 d)
    (he : starEach [e, .Name c p2] X.env = (false, eval e X.env) :: starEach [.Name c p2] X.env := by rfl) (he2 : starEach [.Name c p2] X.env = (false, eval (.Name c p2) X.env) :: starEach [] X.env := by rfl) (hpl : (backTo pos (starEach [.Name c p2] X.env)).any (·.1) = false := by rfl) :
    ED X ρ (.Call (.Name "isinstance" p) [e, .Name c p2] [] pos) ρ1 (.bool (isName d c)) :=
  (pe_callB call_isi hg hm (by decide +kernel) (pa_cons h (pa_cons hc pa_nil he2) he) (by decide) (by decide) he hpl).weak fun σ H Q ⟨F, S, k⟩ => ⟨F, S, fun v F1 H1 s1 o1 hv =>
    ⟨v, .ty c, .type (tyName d), .type c, isName d c, rfl, .ty c, dq_ty hv s1.sat.sub, kit_ty hk, k _ F1 H1 s1 o1 (.bl _)⟩⟩
theorem e_isi2 {c c2 : String} {kk : Nat} (hg : Gl X "isinstance") (hm : X.mg "isinstance" = none) (hc : PE X (.Name c p2) (tC (.ty c))) (hc2 : PE X (.Name c2 p3) (tC (.ty c2))) (hk : kitB (tyName d) c = some (isName d c)) (hk2 : kitB (tyName d) c2 = some (isName d c2)) (h : ED X ρ e ρ1 d)
    (he : starEach [e, .Tuple [.Name c p2, .Name c2 p3] kk p4] X.env = (false, eval e X.env) :: starEach [.Tuple [.Name c p2, .Name c2 p3] kk p4] X.env := by rfl)
    (he2 : starEach [.Tuple [.Name c p2, .Name c2 p3] kk p4] X.env = (false, eval (.Tuple [.Name c p2, .Name c2 p3] kk p4) X.env) :: starEach [] X.env := by rfl) (he3 : starEach [.Name c p2, .Name c2 p3] X.env = (false, eval (.Name c p2) X.env) :: starEach [.Name c2 p3] X.env := by rfl)
    (he4 : starEach [.Name c2 p3] X.env = (false, eval (.Name c2 p3) X.env) :: starEach [] X.env := by rfl)
    (hpl : (backTo pos (starEach [.Tuple [.Name c p2, .Name c2 p3] kk p4] X.env)).any (·.1) = false := by rfl) :
    ED X ρ (.Call (.Name "isinstance" p) [e, .Tuple [.Name c p2, .Name c2 p3] kk p4] [] pos) ρ1 (.bool (isName d c || isName d c2)) :=
  (pe_callB call_isiT hg hm (by decide +kernel) (pa_cons h (pa_cons (pe_tup (pa_cons hc (pa_cons hc2 pa_nil he4) he3)) pa_nil he2) he) (by decide) (by decide) he hpl).weak fun σ H Q ⟨F, S, k⟩ => ⟨F, S, fun v F1 H1 s1 o1 hv =>
    ⟨Nat.le_of_ble_eq_true rfl, fun q hq => by
      have st := Step.laidM s1.sat (o := .tup [.ty c, .ty c2]) hq
      refine ⟨v, q, [.ty c, .ty c2], .type (tyName d), [.type c, .type c2], isName d c || isName d c2, rfl, upd_same, .cons (.ty c) (.cons (.ty c2) .nil), dq_ty hv st.sat.sub, ?_, k _ F1 _ (s1.trans st) o1 (.bl _)⟩
      refine kitAny_cons (kit_ty hk) (fun h => ?_) (fun h => by rw [h]; rfl)
      refine kitAny_cons (kit_ty hk2) (fun h2 => ?_) (fun h2 => by rw [h2, Bool.or_true])
      rw [h, h2]
      exact kitAny_nil⟩⟩
/-- repr -/
structure Showy (d : PyData) : Prop where
  able : d.showable = true
  nodict : d.hasDict = false
  depth : d.depth ≤ 60
  size : d.shown.length ≤ sizeLine
theorem f_reprL (hg : X.A.guards = some []) (hu : X.A.units + 64 < cLine) (h : Showy (.list ds)) : CallD X (.builtin "repr") [.list ds] (.str (PyData.list ds).shown) := ⟨_, cr_repr hg hu, fun F H vs Q s hv k => by
  cases hv with
  | cons h1 t =>
    cases h1 with
    | lst hs ha =>
      cases t
      exact ⟨_, _, rfl, .lst (s _ _ hs) (DqA.mono s _ ha), h.able, h.nodict, h.depth, h.size, k _ F H (Grow.refl s) (.str _)⟩⟩
theorem f_reprT (hg : X.A.guards = some []) (hu : X.A.units + 64 < cLine) (h : Showy (.tuple ds)) : CallD X (.builtin "repr") [.tuple ds] (.str (PyData.tuple ds).shown) := ⟨_, cr_repr hg hu, fun F H vs Q s hv k => by
  cases hv with
  | cons h1 t =>
    cases h1 with
    | tup hs ha =>
      cases t
      exact ⟨_, _, rfl, .tup (sqT_same s hs) (DqA.mono s _ ha), h.able, h.nodict, h.depth, h.size, k _ F H (Grow.refl s) (.str _)⟩⟩
end
end Cl
namespace Cl
open PySem PySem.Spec PyProof.Rows L2
section
variable {X : Cx} {ρ ρ1 ρ2 : Rho} {c a b : Expr} {d1 d2 : PyData} {pos : Pos} {u : Bool} {i j : Int}
theorem e_ite (hc : TD X ρ c ρ1 u) (ha : u = true → ED X ρ1 a ρ2 d1) (hb : u = false → ED X ρ1 b ρ2 d2) : ED X ρ (.IfExp c a b pos) ρ2 (if u = true then d1 else d2) :=
  e_if hc (fun h => by rw [if_pos h]; exact ha h) fun h => by rw [if_neg (by rw [h]; exact Bool.false_ne_true)]; exact hb h
theorem e_iteI (hc : TD X ρ c ρ1 u) (ha : u = true → ED X ρ1 a ρ2 (.int i)) (hb : u = false → ED X ρ1 b ρ2 (.int j)) : ED X ρ (.IfExp c a b pos) ρ2 (.int (if u = true then i else j)) :=
  e_if hc (fun h => by rw [if_pos h]; exact ha h) fun h => by rw [if_neg (by rw [h]; exact Bool.false_ne_true)]; exact hb h
end
end Cl

set_option maxRecDepth 100000
namespace Cl
open PySem PySem.Spec PyProof.Rows L2
/-! ### what can be shown -/
mutual
def nod : PyData → Nat
  | .list xs => 1 + nodA xs
  | .tuple xs => 1 + nodA xs
  | .none => 1
  | .bool _ => 1
  | .int _ => 1
  | .str _ => 1
  | .dict _ => 1
def nodA : List PyData → Nat
  | [] => 0
  | x :: xs => nod x + nodA xs
end
def okD : Nat → PyData → Prop
  | _, .none => True
  | _, .bool _ => True
  | _, .int i => i.natAbs.log2 < 1920
  | _, .str x => (reprText x).length ≤ 1900
  | n + 1, .list xs => ∀ x ∈ xs, okD n x
  | n + 1, .tuple xs => ∀ x ∈ xs, okD n x
  | _, _ => False
structure OkS (n : Nat) (d : PyData) : Prop where
  able : d.showable = true
  nodict : d.hasDict = false
  depth : d.depth ≤ n
  size : d.shown.length + 10 ≤ 2000 * nod d
theorem okAll {n : Nat} (ih : ∀ d, okD n d → OkS n d) : ∀ xs : List PyData, (∀ x ∈ xs, okD n x) → PyData.showableAll xs = true ∧ PyData.hasDictAll xs = false ∧ PyData.depthAll xs ≤ n ∧ piled (PyData.shownAll xs) ≤ 2000 * nodA xs
  | [], _ => ⟨by simp [PyData.showableAll], by simp [PyData.hasDictAll], by simp [PyData.depthAll], by simp [PyData.shownAll, piled]⟩
  | x :: xs, h => by
    have a := ih x (h x List.mem_cons_self)
    obtain ⟨b1, b2, b3, b4⟩ := okAll ih xs fun y hy => h y (List.mem_cons_of_mem _ hy)
    have s := a.size
    have dp := a.depth
    refine ⟨by simp [PyData.showableAll, a.able, b1], by simp [PyData.hasDictAll, a.nodict, b2], ?_, ?_⟩
    · simp only [PyData.depthAll]
      omega
    · simp only [PyData.shownAll, piled_cons, nodA]
      omega
theorem join_le (ts : List Str) : (Str.join ", " ts).length ≤ piled ts := by
  cases ts with
  | nil => exact Nat.zero_le _
  | cons t r =>
    have := join_length_add (t :: r) (by simp)
    omega
theorem strLen_lit {s : String} {n : Nat} (h : (Str.ofString s).length = n) : (Str.ofString s).length = n := h
theorem okS : ∀ (n : Nat) (d : PyData), okD n d → OkS n d
  | n, .none, _ => ⟨by simp [PyData.showable], by simp [PyData.hasDict], by simp [PyData.depth], by rw [PyData.shown_none]; show (4 : Nat) + 10 ≤ 2000 * nod .none; simp [nod]⟩
  | n, .bool b, _ => ⟨by simp [PyData.showable], by simp [PyData.hasDict], by simp [PyData.depth], by
    rw [PyData.shown_bool]
    cases b
    · show (5 : Nat) + 10 ≤ 2000 * nod _; simp [nod]
    · show (4 : Nat) + 10 ≤ 2000 * nod _; simp [nod]⟩
  | n, .int i, h => by
    have h : i.natAbs.log2 < 1920 := by
      cases n <;> exact h
    refine ⟨by simp [PyData.showable, h], by simp [PyData.hasDict], by simp [PyData.depth], ?_⟩
    rw [PyData.shown_int]
    have := int_text_len_1921 h
    have e : nod (.int i) = 1 := by simp [nod]
    rw [e]
    exact Nat.le_trans (Nat.add_le_add_right this 10) (by decide)
  | n, .str x, h => by
    have h : (reprText x).length ≤ 1900 := by
      cases n <;> exact h
    refine ⟨by simp [PyData.showable], by simp [PyData.hasDict], by simp [PyData.depth], ?_⟩
    rw [PyData.shown_str]
    have e : nod (.str x) = 1 := by simp [nod]
    rw [e]
    omega
  | n + 1, .list xs, h => by
    obtain ⟨b1, b2, b3, b4⟩ := okAll (okS n) xs h
    refine ⟨by simp [PyData.showable, b1], by simp [PyData.hasDict, b2], by simp only [PyData.depth]; omega, ?_⟩
    rw [PyData.shown_list, strLen_append, strLen_append]
    have j := join_le (PyData.shownAll xs)
    have e1 : (Str.ofString "[").length = 1 := by decide
    have e2 : (Str.ofString "]").length = 1 := by decide
    have e : nod (.list xs) = 1 + nodA xs := by simp [nod]
    rw [e, e1, e2]
    omega
  | n + 1, .tuple xs, h => by
    obtain ⟨b1, b2, b3, b4⟩ := okAll (okS n) xs h
    refine ⟨by simp [PyData.showable, b1], by simp [PyData.hasDict, b2], by simp only [PyData.depth]; omega, ?_⟩
    rw [PyData.shown_tuple, strLen_append, strLen_append]
    have j := join_le (PyData.shownAll xs)
    have e1 : (Str.ofString "(").length = 1 := by decide
    have e2 : (Str.ofString (if (xs.length == 1) = true then ",)" else ")")).length ≤ 2 := by
      split
      · decide
      · decide
    have e : nod (.tuple xs) = 1 + nodA xs := by simp [nod]
    rw [e, e1]
    omega
  | 0, .list _, h => h.elim
  | 0, .tuple _, h => h.elim
  | 0, .dict _, h => h.elim
  | n + 1, .dict _, h => h.elim
theorem showy {n : Nat} {d : PyData} (h : okD n d) (hn : n ≤ 60) (hz : nod d ≤ 8000) : Showy d := by
  have a := okS n d h
  refine ⟨a.able, a.nodict, Nat.le_trans a.depth hn, Nat.le_trans (Nat.le_trans (Nat.le_add_right _ 10) a.size) ?_⟩
  have : sizeLine = 16777216 := sizeLine_eq
  omega
def Bits (n : Nat) (i : Int) : Prop := i.natAbs < 2 ^ n
theorem log2_small {i : Int} (h : Bits 1900 i) : i.natAbs.log2 < 1920 := by
  have := PySem.Flt.log2_lt_of (k := 1900) (by decide) h
  omega

/-! ### fractions -/
abbrev Fr := Int × Int
def fr (p : Fr) : PyData := .tuple [.int p.1, .int p.2]
/-- a divided by b, in lowest terms -/
def mk (a b : Int) : Fr := (a.fdiv (if b < 0 then 0 - (Nat.gcd a.natAbs b.natAbs : Int) else (Nat.gcd a.natAbs b.natAbs : Int)), b.fdiv (if b < 0 then 0 - (Nat.gcd a.natAbs b.natAbs : Int) else (Nat.gcd a.natAbs b.natAbs : Int)))
def Bd (m : Nat) (p : Fr) : Prop := Bits m p.1 ∧ Bits m p.2
def Low (p : Fr) : Prop := 1 ≤ p.2 ∧ Nat.gcd p.1.natAbs p.2.natAbs = 1
def gi (a b : Int) : Int := (Nat.gcd a.natAbs b.natAbs : Nat)
theorem gi_pos {a b : Int} (h : b ≠ 0) : 0 < gi a b := by
  have : 0 < Nat.gcd a.natAbs b.natAbs := Nat.gcd_pos_of_pos_right _ (Int.natAbs_pos.mpr h)
  unfold gi
  omega
theorem gi_dvd1 (a b : Int) : gi a b ∣ a := Int.ofNat_dvd_left.mpr (Nat.gcd_dvd_left _ _)
theorem gi_dvd2 (a b : Int) : gi a b ∣ b := Int.ofNat_dvd_left.mpr (Nat.gcd_dvd_right _ _)
theorem fdiv_neg_of_dvd {a g : Int} (h : g ∣ a) (hg : 0 < g) : a.fdiv (0 - g) = (0 - a).fdiv g := by
  obtain ⟨c, rfl⟩ := h
  have e1 : g * c = (0 - g) * (-c) := by
    rw [Int.zero_sub, Int.neg_mul_neg]
  have e2 : 0 - g * c = g * (-c) := by rw [Int.mul_neg]; omega
  rw [e2, Int.mul_fdiv_cancel_left _ (by omega)]
  rw [e1, Int.mul_fdiv_cancel_left _ (by omega)]
theorem mk_neg {a b : Int} (h : b < 0) : mk a b = ((0 - a).fdiv (gi a b), (0 - b).fdiv (gi a b)) := by
  have hg := gi_pos (a := a) (b := b) (by omega)
  show (a.fdiv (if b < 0 then 0 - gi a b else gi a b), b.fdiv (if b < 0 then 0 - gi a b else gi a b)) = _
  rw [if_pos h, fdiv_neg_of_dvd (gi_dvd1 a b) hg, fdiv_neg_of_dvd (gi_dvd2 a b) hg]
theorem mk_pos {a b : Int} (h : ¬ b < 0) : mk a b = (a.fdiv (gi a b), b.fdiv (gi a b)) := by
  show (a.fdiv (if b < 0 then 0 - gi a b else gi a b), b.fdiv (if b < 0 then 0 - gi a b else gi a b)) = _
  rw [if_neg h]
theorem fdiv_abs {a g : Int} (h : g ∣ a) (hg : 0 < g) : (a.fdiv g).natAbs = a.natAbs / g.natAbs := by
  obtain ⟨c, rfl⟩ := h
  rw [Int.mul_fdiv_cancel_left _ (by omega), Int.natAbs_mul, Nat.mul_div_cancel_left _ (by omega)]
theorem dvd_zero_sub {a g : Int} (h : g ∣ a) : g ∣ 0 - a := by
  rw [Int.zero_sub]
  exact Int.dvd_neg.mpr h
theorem mk_abs {a b : Int} (h : b ≠ 0) : (mk a b).1.natAbs = a.natAbs / Nat.gcd a.natAbs b.natAbs ∧ (mk a b).2.natAbs = b.natAbs / Nat.gcd a.natAbs b.natAbs := by
  have hg := gi_pos (a := a) h
  have e : (gi a b).natAbs = Nat.gcd a.natAbs b.natAbs := rfl
  by_cases hb : b < 0
  · rw [mk_neg hb]
    refine ⟨?_, ?_⟩
    · show ((0 - a).fdiv (gi a b)).natAbs = _
      rw [fdiv_abs (dvd_zero_sub (gi_dvd1 a b)) hg, e, Int.zero_sub, Int.natAbs_neg]
    · show ((0 - b).fdiv (gi a b)).natAbs = _
      rw [fdiv_abs (dvd_zero_sub (gi_dvd2 a b)) hg, e, Int.zero_sub, Int.natAbs_neg]
  · rw [mk_pos hb]
    refine ⟨?_, ?_⟩
    · show (a.fdiv (gi a b)).natAbs = _
      rw [fdiv_abs (gi_dvd1 a b) hg, e]
    · show (b.fdiv (gi a b)).natAbs = _
      rw [fdiv_abs (gi_dvd2 a b) hg, e]
theorem mk_two_pos {a b : Int} (h : b ≠ 0) : 1 ≤ (mk a b).2 := by
  have hg := gi_pos (a := a) h
  have key : ∀ c : Int, gi a b ∣ c → 0 < c → 1 ≤ c.fdiv (gi a b) := by
    rintro c ⟨k, rfl⟩ hc
    rw [Int.mul_fdiv_cancel_left _ (by omega)]
    rw [Int.mul_comm] at hc
    have : 0 < k := Int.pos_of_mul_pos_left hc hg
    omega
  by_cases hb : b < 0
  · rw [mk_neg hb]
    exact key _ (dvd_zero_sub (gi_dvd2 a b)) (by omega)
  · rw [mk_pos hb]
    exact key _ (gi_dvd2 a b) (by omega)
theorem mk_low {a b : Int} (h : b ≠ 0) : Low (mk a b) := by
  refine ⟨mk_two_pos h, ?_⟩
  rw [(mk_abs h).1, (mk_abs h).2]
  exact Nat.gcd_div_gcd_div_gcd_of_pos_right (Int.natAbs_pos.mpr h)
theorem mk_bd {a b : Int} {m : Nat} (h : b ≠ 0) (ha : Bits m a) (hb : Bits m b) : Bd m (mk a b) := by
  refine ⟨?_, ?_⟩
  · unfold Bits
    rw [(mk_abs h).1]
    exact Nat.lt_of_le_of_lt (Nat.div_le_self _ _) ha
  · unfold Bits
    rw [(mk_abs h).2]
    exact Nat.lt_of_le_of_lt (Nat.div_le_self _ _) hb
theorem mul_bits {a b : Int} {m n : Nat} (ha : Bits m a) (hb : Bits n b) : Bits (m + n) (a * b) := L2.wide_lt ha hb
theorem add_bits {a b : Int} {m : Nat} (ha : Bits m a) (hb : Bits m b) : Bits (m + 1) (a + b) := by
  have := Int.natAbs_add_le a b
  unfold Bits at *
  rw [Nat.pow_succ]
  omega
theorem sub_bits {a b : Int} {m : Nat} (ha : Bits m a) (hb : Bits m b) : Bits (m + 1) (a - b) := by
  have := Int.natAbs_sub_le a b
  unfold Bits at *
  rw [Nat.pow_succ]
  omega
theorem bits_up {a : Int} {m n : Nat} (h : Bits m a) (hmn : m ≤ n) : Bits n a := Nat.lt_of_lt_of_le h (Nat.pow_le_pow_right (by decide) hmn)
theorem Bd.up {m n : Nat} {p : Fr} (h : Bd m p) (hmn : m ≤ n) : Bd n p := ⟨bits_up h.1 hmn, bits_up h.2 hmn⟩
theorem mulW {a b : Int} {m n : Nat} (ha : Bits m a) (hb : Bits n b) (h : m + n + 2 ≤ 1000000) : CMulW a b :=
  wide_mul (bits_up ha (Nat.le_succ m)) (bits_up hb (Nat.le_succ n)) (Nat.succ_pos _) (Nat.succ_pos _) (by omega)
theorem divX {a b : Int} {n : Nat} (h : b ≠ 0) (hb : Bits n b) (hn : n < 9000) : CDivX a b := ⟨h, by
  have := PySem.Flt.log2_lt_of (k := n + 1) (Nat.succ_pos _) (bits_up hb (Nat.le_succ n))
  omega⟩
def fPlus (a b : Fr) : Fr := mk (a.1 * b.2 + b.1 * a.2) (a.2 * b.2)
def fMinus (a b : Fr) : Fr := mk (a.1 * b.2 - b.1 * a.2) (a.2 * b.2)
def fTimes (a b : Fr) : Fr := mk (a.1 * b.1) (a.2 * b.2)
def fOver (a b : Fr) : Fr := mk (a.1 * b.2) (a.2 * b.1)
def fLess (a b : Fr) : Bool := decide (a.1 * b.2 < b.1 * a.2)
def fSum (l : List Fr) : Fr := l.foldl fPlus (0, 1)
theorem Low.ne {p : Fr} (h : Low p) : p.2 ≠ 0 := by have := h.1; omega
theorem mul_ne {a b : Int} (ha : a ≠ 0) (hb : b ≠ 0) : a * b ≠ 0 := Int.mul_ne_zero ha hb
theorem fPlus_low {a b : Fr} (ha : Low a) (hb : Low b) : Low (fPlus a b) := mk_low (mul_ne ha.ne hb.ne)
theorem fMinus_low {a b : Fr} (ha : Low a) (hb : Low b) : Low (fMinus a b) := mk_low (mul_ne ha.ne hb.ne)
theorem fTimes_low {a b : Fr} (ha : Low a) (hb : Low b) : Low (fTimes a b) := mk_low (mul_ne ha.ne hb.ne)
theorem fPlus_bd {a b : Fr} {m n : Nat} (la : Low a) (lb : Low b) (ha : Bd m a) (hb : Bd n b) : Bd (m + n + 1) (fPlus a b) :=
  mk_bd (mul_ne la.ne lb.ne) (add_bits (mul_bits ha.1 hb.2) (by have := mul_bits hb.1 ha.2; rw [Nat.add_comm n m] at this; exact this)) (bits_up (mul_bits ha.2 hb.2) (Nat.le_succ _))
theorem fMinus_bd {a b : Fr} {m n : Nat} (la : Low a) (lb : Low b) (ha : Bd m a) (hb : Bd n b) : Bd (m + n + 1) (fMinus a b) :=
  mk_bd (mul_ne la.ne lb.ne) (sub_bits (mul_bits ha.1 hb.2) (by have := mul_bits hb.1 ha.2; rw [Nat.add_comm n m] at this; exact this)) (bits_up (mul_bits ha.2 hb.2) (Nat.le_succ _))
theorem fTimes_bd {a b : Fr} {m n : Nat} (la : Low a) (lb : Low b) (ha : Bd m a) (hb : Bd n b) : Bd (m + n) (fTimes a b) := mk_bd (mul_ne la.ne lb.ne) (mul_bits ha.1 hb.1) (mul_bits ha.2 hb.2)
theorem fOver_bd {a b : Fr} {m n : Nat} (la : Low a) (hb0 : b.1 ≠ 0) (ha : Bd m a) (hb : Bd n b) : Bd (m + n) (fOver a b) := mk_bd (mul_ne la.ne hb0) (mul_bits ha.1 hb.2) (mul_bits ha.2 hb.1)
theorem fOver_low {a b : Fr} (la : Low a) (hb0 : b.1 ≠ 0) : Low (fOver a b) := mk_low (mul_ne la.ne hb0)
theorem fr_ok {p : Fr} {n : Nat} (h : Bd 1900 p) : okD (n + 1) (fr p) := by
  intro x hx
  rcases List.mem_cons.mp hx with rfl | hx
  · cases n <;> exact log2_small h.1
  · rcases List.mem_cons.mp hx with rfl | hx
    · cases n <;> exact log2_small h.2
    · cases hx
theorem nod_fr (p : Fr) : nod (fr p) = 3 := by simp [fr, nod, nodA]
theorem fr_shaped (p : Fr) : SeqAt.shaped (fr p) = true := by simp [fr, SeqAt.shaped, PyData.canLay0, PyData.canLayAll0, PyData.depth, PyData.depthAll]

/-! ### the law's draws -/
structure DC where
  a : Int
  b : Int
  m1 : Int
  m2 : Int
  d : Int
abbrev Pot := Int × Int
def potD (p : Pot) : List PyData := [.int p.1, .int p.2]
structure PotOk (p : Pot) : Prop where
  h0 : 0 ≤ p.1
  h1 : 0 ≤ p.2
  h2 : p.2 < 4294967296
def draw (c : DC) (p : Pot) (n : Int) : Pot × Int :=
  if 0 < p.1 then ((p.1 / n, p.2), p.1 % n) else ((p.1, (p.2 * c.a + c.b).fmod c.m1), ((((p.2 * c.a + c.b).fmod c.m1 * (p.2 * c.a + c.b).fmod c.m1).fmod c.m2).fdiv c.d).fmod n)
structure DCOk (c : DC) : Prop where
  m1 : 0 < c.m1
  m1' : c.m1 ≤ 4294967296
  m2 : 0 < c.m2
  d : 0 < c.d
theorem fmod_rng {a n : Int} (h : 0 < n) : 0 ≤ a.fmod n ∧ a.fmod n < n := by
  rw [Int.fmod_eq_emod_of_nonneg _ (by omega)]
  exact ⟨Int.emod_nonneg _ (by omega), Int.emod_lt_of_pos _ h⟩
theorem draw_ok {c : DC} {p : Pot} {n : Int} (hc : DCOk c) (hp : PotOk p) (hn : 0 < n) : PotOk (draw c p n).1 ∧ 0 ≤ (draw c p n).2 ∧ (draw c p n).2 < n := by
  unfold draw
  split
  · refine ⟨⟨Int.ediv_nonneg hp.h0 (by omega), hp.h1, hp.h2⟩, Int.emod_nonneg _ (by omega), Int.emod_lt_of_pos _ hn⟩
  · have a := fmod_rng (a := p.2 * c.a + c.b) hc.m1
    have b := hc.m1'
    refine ⟨⟨hp.h0, a.1, ?_⟩, (fmod_rng hn).1, (fmod_rng hn).2⟩
    show (p.2 * c.a + c.b).fmod c.m1 < 4294967296
    omega
end Cl
namespace Cl
open PySem PySem.Spec PyProof.Rows L2
theorem gi_bits {a b : Int} {m : Nat} (h : b ≠ 0) (hb : Bits m b) : Bits m (Nat.gcd a.natAbs b.natAbs : Int) := by
  have : Nat.gcd a.natAbs b.natAbs ≤ b.natAbs := Nat.gcd_le_right _ (Int.natAbs_pos.mpr h)
  exact Nat.lt_of_le_of_lt this hb
theorem gi_bits2 {a b : Int} {m : Nat} (h : b ≠ 0) (hb : Bits m b) : Bits m (0 - (Nat.gcd a.natAbs b.natAbs : Int)) := by
  unfold Bits
  rw [Int.zero_sub, Int.natAbs_neg]
  exact gi_bits h hb
theorem gi_ne {a b : Int} (h : b ≠ 0) : (Nat.gcd a.natAbs b.natAbs : Int) ≠ 0 := by
  have := gi_pos (a := a) h
  unfold gi at this
  omega
theorem gi_ne2 {a b : Int} (h : b ≠ 0) : 0 - (Nat.gcd a.natAbs b.natAbs : Int) ≠ 0 := by
  have := gi_ne (a := a) h
  omega
theorem mk_frT {a b : Int} (h : b < 0) : fr (mk a b) = .tuple [.int (a.fdiv (0 - (Nat.gcd a.natAbs b.natAbs : Int))), .int (b.fdiv (0 - (Nat.gcd a.natAbs b.natAbs : Int)))] := by
  unfold fr mk
  rw [if_pos h]
theorem mk_frF {a b : Int} (h : ¬ b < 0) : fr (mk a b) = .tuple [.int (a.fdiv (Nat.gcd a.natAbs b.natAbs : Int)), .int (b.fdiv (Nat.gcd a.natAbs b.natAbs : Int))] := by
  unfold fr mk
  rw [if_neg h]
theorem eqv_fr (a b : Fr) : PyData.eqv (fr a) (fr b) = decide (a = b) := by
  obtain ⟨a1, a2⟩ := a
  obtain ⟨b1, b2⟩ := b
  show PyData.eqv (.tuple [.int a1, .int a2]) (.tuple [.int b1, .int b2]) = _
  simp only [PyData.eqv, PyData.eqvAll, Prod.mk.injEq]
  by_cases h1 : a1 = b1 <;> by_cases h2 : a2 = b2 <;> simp [h1, h2]
theorem eqv_frF {b : Fr} (h : b.1 ≠ 0) : PyData.eqv (fr b) (fr (0, 1)) = false := by
  rw [eqv_fr]
  exact decide_eq_false fun e => h (by rw [e])
end Cl

set_option maxRecDepth 100000
namespace Cl
open PySem PySem.Spec PyProof.Rows L2
section
variable {X : Cx} {ρ ρ1 ρ2 : Rho} {tg iter : Expr} {vs : List Nat} {body sts : List Stmt} {o : Out} {ds : List PyData} {pos : Pos}
theorem ss_forget (fs : List Nat) (h : SDs X ρ sts (.nx ρ2)) : SDs X ρ sts (.nx (forgetR ρ2 fs)) :=
  h.weak fun D σ H ⟨F, S, g⟩ => ⟨F, S, fun σ' F' H' s => g σ' F' H' (s.trans (Step.forgetS s.sat fs))⟩
theorem Goes.pre {K : PySem.W.Frag} {D : Ends} {σ σ1 : L2.St} {F H F1 H1 : Hp} (a : Step K ρ σ F H ρ1 σ1 F1 H1) (g : Goes K o D ρ σ F H) : Goes K o D ρ1 σ1 F1 H1 := g.step a
theorem ss_drop (fs : List Nat) (h : SDs X (forgetR ρ fs) sts o) : SDs X ρ sts o :=
  h.weak fun D σ H ⟨F, S, g⟩ => ⟨F, (Step.forgetS S fs).sat, g.step (Step.forgetS S fs)⟩
theorem i_forget (fs : List Nat) (h : ID X ρ tg iter ρ1 ds) : ID X ρ tg iter (forgetR ρ1 fs) ds :=
  h.weak fun σ H R ⟨F, S, k⟩ => ⟨F, S, fun J F1 H1 s1 o1 w => k J F1 H1 (s1.trans (Step.forgetS s1.sat fs)) (fun q ⟨i, c, m, a, b, d⟩ => by
    by_cases y : i ∈ fs
    · cases forgetR_in y a
    · rw [forgetR_out y] at a
      exact o1 q ⟨i, c, m, a, b, d⟩) w⟩
theorem s_forF (fs : List Nat) (hi : ID X ρ tg iter ρ1 ds) (hf : ForD X tg vs body o ds (forgetR ρ1 fs)) (hp : PassesOwn (model X.prog X.w) X.A X.env X.xe) (hc : X.calm = true) (hs : ∀ x, foldedSetIterable iter X.env x = pure x := by intro _; rfl) : SD X ρ (.For tg iter body [] pos) o :=
  s_for (i_forget fs hi) hf hp hc hs
/-- a loop that folds -/
theorem forD_fold {α β : Type} (fs : List Nat) (enc : α → PyData) (f : β → α → β) (R : β → Rho) (I : List α → β → Prop) (l : List α) (b : β)
    (step : ∀ x r b, I (x :: r) b → ∃ ρ1 ρ2, GD X vs (R b) tg (enc x) ρ1 ∧ SDs X ρ1 body (.nx ρ2) ∧ forgetR ρ2 fs = R (f b x) ∧ I r (f b x)) (h0 : I l b) : ForD X tg vs body (.nx (R (l.foldl f b))) (l.map enc) (R b) := by
  induction l generalizing b with
  | nil => exact .nil rfl
  | cons x r ih =>
    obtain ⟨ρ1, ρ2, h1, h2, h3, h4⟩ := step x r b h0
    exact .next h1 (by rw [← h3]; exact ss_forget fs h2) (ih (f b x) h4)
end
section
variable {X : Cx} {sc : Scope} {ρ ρ1 ρ2 : Rho} {tg elt : Expr} {vs : List Nat} {ifs : List Expr}
/-- what a comprehension with a state makes -/
def runL {α β : Type} (f : β → α → β × PyData) : β → List α → List PyData
  | _, [] => []
  | b, x :: r => (f b x).2 :: runL f (f b x).1 r
def endL {α β : Type} (f : β → α → β × PyData) : β → List α → β
  | b, [] => b
  | b, x :: r => endL f (f b x).1 r
theorem runL_len {α β : Type} (f : β → α → β × PyData) : ∀ (b : β) (l : List α), (runL f b l).length = l.length
  | _, [] => rfl
  | b, x :: r => congrArg (· + 1) (runL_len f (f b x).1 r)
theorem lc_state {α β : Type} (enc : α → PyData) (f : β → α → β × PyData) (R : β → Rho) (I : List α → β → Prop) (l : List α) (b : β)
    (step : ∀ x r b, I (x :: r) b → ∃ ρ1 ρ2 ρ3, (Bk X sc fun B => GD B vs (R b) tg (enc x) ρ1) ∧ (Bk X sc fun B => TsD B ρ1 ifs ρ2 true) ∧ (Bk X sc fun B => ED B ρ2 elt ρ3 (f b x).2) ∧ forgetR ρ3 vs = R (f b x).1 ∧ I r (f b x).1) (h0 : I l b) :
    LcD X sc vs tg ifs elt (l.map enc) (R b) (runL f b l) (R (endL f b l)) := by
  induction l generalizing b with
  | nil => exact .nil
  | cons x r ih =>
    obtain ⟨ρ1, ρ2, ρ3, h1, h2, h3, h4, h5⟩ := step x r b h0
    exact .keep h1 h2 h3 (by rw [h4]; exact ih (f b x).1 h5)
theorem lc_map {α : Type} (enc : α → PyData) (g : α → PyData) (l : List α)
    (step : ∀ x ∈ l, ∃ ρ1 ρ2 ρ3, (Bk X sc fun B => GD B vs ρ tg (enc x) ρ1) ∧ (Bk X sc fun B => TsD B ρ1 ifs ρ2 true) ∧ (Bk X sc fun B => ED B ρ2 elt ρ3 (g x)) ∧ forgetR ρ3 vs = ρ) :
    LcD X sc vs tg ifs elt (l.map enc) ρ (l.map g) ρ := by
  induction l with
  | nil => exact .nil
  | cons x r ih =>
    obtain ⟨ρ1, ρ2, ρ3, h1, h2, h3, h4⟩ := step x List.mem_cons_self
    exact .keep h1 h2 h3 (by rw [h4]; exact ih fun y hy => step y (List.mem_cons_of_mem _ hy))
theorem lc_filter {α : Type} (enc : α → PyData) (p : α → Bool) (l : List α)
    (step : ∀ x ∈ l, ∃ ρ1 ρ2, (Bk X sc fun B => GD B vs ρ tg (enc x) ρ1) ∧ (Bk X sc fun B => TsD B ρ1 ifs ρ2 (p x)) ∧ (Bk X sc fun B => ED B ρ2 elt ρ2 (enc x)) ∧ forgetR ρ2 vs = ρ) :
    LcD X sc vs tg ifs elt (l.map enc) ρ ((l.filter p).map enc) ρ := by
  induction l with
  | nil => exact .nil
  | cons x r ih =>
    obtain ⟨ρ1, ρ2, h1, h2, h3, h4⟩ := step x List.mem_cons_self
    have q := ih fun y hy => step y (List.mem_cons_of_mem _ hy)
    rw [List.filter_cons]
    by_cases hx : p x = true
    · rw [if_pos hx]
      rw [hx] at h2
      exact .keep h1 h2 h3 (by rw [h4]; exact q)
    · rw [if_neg hx]
      have e : p x = false := by simpa using hx
      rw [e] at h2
      exact .skip h1 h2 (by rw [h4]; exact q)
end
section
variable {X : Cx} {ρ ρ1 : Rho} {n : Nat} {e : Expr} {d : PyData} {l : List PyData}
/-- while nothing but a flat answer comes out, a list held alone is read as data -/
def flatD : PyData → Bool
  | .none | .bool _ | .int _ | .str _ => true
  | _ => false
theorem dq_flat {K : PySem.W.Frag} {F F' : Hp} {v : V} (h : Dq K F v d) (hf : flatD d = true) : Dq K F' v d := by
  cases h with
  | non => exact .non
  | bl b => exact .bl b
  | int i => exact .int i
  | str x => exact .str x
  | lst _ _ => cases hf
  | tup _ _ => cases hf
  | dct _ => cases hf
def flatMu : Mu → Bool
  | .lst l => l.all flatD
def flatCell : Option Cell → Bool
  | none => true
  | some c => match c.mu with
    | some m => flatMu m
    | none => true
def peekOk (ρ : Rho) (n : Nat) : Bool := (ρ.set n none).all flatCell
theorem dqA_flat {K : PySem.W.Frag} {F F' : Hp} : ∀ {l : List PyData} {vs : List V}, DqA K F vs l → l.all flatD = true → DqA K F' vs l
  | [], _, h, _ => by cases h; exact .nil
  | d :: l, _, h, e => by
    rw [List.all_cons, Bool.and_eq_true] at e
    cases h with
    | cons a b => exact .cons (dq_flat a e.1) (dqA_flat b e.2)
theorem mu_flat {K : PySem.W.Frag} {F F' : Hp} {m : Mu} {o : HO} (h : MuOk K F m o) (e : flatMu m = true) : MuOk K F' m o := by
  cases m with
  | lst l =>
    cases o with
    | lst xs => exact dqA_flat (show DqA K F xs l from h) e
    | _ => exact h.elim
theorem peek_at (h : peekOk ρ n = true) {i : Nat} {c : Cell} {m : Mu} (ne : n ≠ i) (e : ρ[i]? = some (some c)) (hm : c.mu = some m) : flatMu m = true := by
  have q := List.all_eq_true.mp h (some c) (List.mem_of_getElem? (by rw [List.getElem?_set_ne ne]; exact e))
  have q2 : (match c.mu with | some m => flatMu m | none => true) = true := q
  rw [hm] at q2
  exact q2
theorem e_peek (n : Nat) {c : Cell} (h : ρ[n]? = some (some c)) (hm : c.mu = some (.lst l)) (he : ED X (ρ.set n (some (.dat (.list l)))) e (ρ.set n (some (.dat (.list l)))) d) (hf : flatD d = true) (hp : peekOk ρ n = true) : ED X ρ e ρ d :=
  he.weak fun σ H Q ⟨F, S, k⟩ => by
    obtain ⟨p, o, e1, e2, e3, e4⟩ := S.held h hm
    cases o with
    | lst xs =>
      have hn := (List.getElem?_eq_some_iff.mp h).1
      have other : ∀ {i : Nat} {q : Addr}, Held (ρ.set n (some (.dat (.list l)))) σ i q → Held ρ σ i q ∧ q ≠ p := fun {i q} ⟨c1, m, a, b, d⟩ => by
        by_cases z : n = i
        · subst z
          rw [List.getElem?_set_self hn] at a
          cases a
          cases b
        · rw [List.getElem?_set_ne z] at a
          refine ⟨⟨c1, m, a, b, d⟩, fun w => z (S.inj n i q ⟨c, _, h, hm, by rw [e1, w]⟩ ⟨c1, m, a, b, d⟩)⟩
      have S2 : Sat X.K (upd F p (.lst xs)) (ρ.set n (some (.dat (.list l)))) σ H := by
        refine ⟨by rw [List.length_set]; exact S.len, fun b u z => ?_, fun i c1 x a b => ?_, fun i j q a b => S.inj i j q (other a).1 (other b).1⟩
        · by_cases hb : b = p
          · subst hb
            rw [upd_same] at z
            rw [e3]
            exact z
          · rw [upd_ne hb] at z
            exact S.sub _ _ z
        · by_cases z : n = i
          · subst z
            rw [List.getElem?_set_self hn] at a
            cases a
            rw [e1] at b
            cases b
            exact ⟨_, rfl, .lst upd_same (DqA.mono (same_upd e2) _ e4)⟩
          · rw [List.getElem?_set_ne z] at a
            have sl := S.slot i c1 x a b
            have ne : ∀ r, x = some (.ref r) → ∀ c2 m, c1 = some c2 → c2.mu = some m → r ≠ p := fun r hx c2 m h2 h3 w => z (S.inj n i p ⟨c, _, h, hm, e1⟩ ⟨c2, m, by rw [a, h2], h3, by rw [b, hx, w]⟩)
            cases c1 with
            | none => trivial
            | some c1 =>
              cases c1 with
              | dat d =>
                obtain ⟨v, q1, q2⟩ := sl
                exact ⟨v, q1, q2.mono (same_upd e2)⟩
              | scr ns =>
                obtain ⟨v, q1, q2⟩ := sl
                exact ⟨v, q1, (same_upd e2).seq q2⟩
              | own m =>
                obtain ⟨r, u, q1, q2, q3, q4⟩ := sl
                exact ⟨r, u, q1, by rw [upd_ne (ne r q1 _ _ rfl rfl)]; exact q2, q3, q4.mono (same_upd e2)⟩
              | bor r m =>
                obtain ⟨u, q1, q2, q3, q4⟩ := sl
                exact ⟨u, q1, by rw [upd_ne (ne r q1 _ _ rfl rfl)]; exact q2, q3, q4.mono (same_upd e2)⟩
      refine ⟨_, S2, fun v F' H' st oo hv => ?_⟩
      have kp : H' p = some (.lst xs) := st.sat.sub p _ (st.fr p _ upd_same)
      have no : ∀ q, Own ρ σ q → q = p ∨ Own (ρ.set n (some (.dat (.list l)))) σ q := fun q ⟨i, c1, m, a, b, d⟩ => by
        by_cases z : n = i
        · subst z
          rw [e1] at d
          cases d
          exact .inl rfl
        · exact .inr ⟨i, c1, m, by rw [List.getElem?_set_ne z]; exact a, b, d⟩
      have H'own : ∀ q, Own (ρ.set n (some (.dat (.list l)))) σ q → F q = none := fun q hq => by
        have := (S2.ownF hq).1
        have ne : q ≠ p := fun w => by
          obtain ⟨i, hi⟩ := hq
          exact (other hi).2 w
        rw [upd_ne ne] at this
        exact this
      refine k v F H' ⟨Same.refl F, fun _ a _ _ => a, fun q u a b => ?_, st.live, ⟨S.len, fun b u z => ?_, fun i c1 x a b => ?_, S.inj⟩, fun q hq => .inl hq⟩ (fun _ h => h) (dq_flat hv hf)
      · by_cases w : q = p
        · rw [w] at a ⊢
          rw [e3] at a
          rw [kp]
          exact a
        · refine st.keep q u a fun z => b ?_
          obtain ⟨i, hi⟩ := z
          exact ⟨i, (other hi).1⟩
      · by_cases w : Own (ρ.set n (some (.dat (.list l)))) σ b
        · rw [H'own b w] at z
          cases z
        · exact st.keep b u (S.sub _ _ z) w
      · by_cases z : n = i
        · subst z
          rw [h] at a
          cases a
          rw [e1] at b
          cases b
          have sl := S.slot n _ _ h e1
          cases c with
          | dat d => cases hm
          | scr ns => cases hm
          | own m =>
            cases hm
            exact ⟨p, _, rfl, e2, kp, e4⟩
          | bor r m =>
            cases hm
            obtain ⟨u, q1, q2, q3, q4⟩ := sl
            cases q1
            exact ⟨_, rfl, e2, kp, e4⟩
        · have sl := S.slot i c1 x a b
          have sl2 := st.sat.slot i c1 x (by rw [List.getElem?_set_ne z]; exact a) b
          cases c1 with
          | none => trivial
          | some c1 =>
            cases c1 with
            | dat d => exact sl
            | scr ns => exact sl
            | own m =>
              obtain ⟨r, u, q1, q2, q3, q4⟩ := sl
              obtain ⟨r', u', f1, f2, f3, f4⟩ := sl2
              rw [q1] at f1
              cases f1
              exact ⟨r, u', q1, q2, f3, mu_flat f4 (peek_at hp z a rfl)⟩
            | bor r m =>
              obtain ⟨u, q1, q2, q3, q4⟩ := sl
              obtain ⟨u', f1, f2, f3, f4⟩ := sl2
              exact ⟨u', q1, q2, f3, mu_flat f4 (peek_at hp z a rfl)⟩
    | _ => exact e4.elim
end

section
variable {X : Cx} {sc : Scope} {ρ ρ1 ρ2 : Rho} {tg elt : Expr} {vs : List Nat} {ifs : List Expr}
/-- the same, typed -/
def runT {α β γ : Type} (f : β → α → β × γ) : β → List α → List γ
  | _, [] => []
  | b, x :: r => (f b x).2 :: runT f (f b x).1 r
def endT {α β γ : Type} (f : β → α → β × γ) : β → List α → β
  | b, [] => b
  | b, x :: r => endT f (f b x).1 r
theorem runT_len {α β γ : Type} (f : β → α → β × γ) : ∀ (b : β) (l : List α), (runT f b l).length = l.length
  | _, [] => rfl
  | b, x :: r => congrArg (· + 1) (runT_len f (f b x).1 r)
theorem lc_stateT {α β γ : Type} (enc : α → PyData) (enc2 : γ → PyData) (f : β → α → β × γ) (R : β → Rho) (I : List α → β → Prop) (l : List α) (b : β)
    (step : ∀ x r b, I (x :: r) b → ∃ ρ1 ρ2 ρ3, (Bk X sc fun B => GD B vs (R b) tg (enc x) ρ1) ∧ (Bk X sc fun B => TsD B ρ1 ifs ρ2 true) ∧ (Bk X sc fun B => ED B ρ2 elt ρ3 (enc2 (f b x).2)) ∧ forgetR ρ3 vs = R (f b x).1 ∧ I r (f b x).1) (h0 : I l b) :
    LcD X sc vs tg ifs elt (l.map enc) (R b) ((runT f b l).map enc2) (R (endT f b l)) := by
  induction l generalizing b with
  | nil => exact .nil
  | cons x r ih =>
    obtain ⟨ρ1, ρ2, ρ3, h1, h2, h3, h4, h5⟩ := step x r b h0
    exact .keep h1 h2 h3 (by rw [h4]; exact ih (f b x).1 h5)
end
section
variable {X : Cx} {ρ ρ1 ρ2 : Rho} {e1 e2 c : Expr} {d d1 d2 : PyData} {l : List PyData} {x y : Str} {pos : Pos} {body : List Stmt}
/-- a, b = e1, e2 by a tuple (one of the names is captured): data and a list held alone -/
theorem s_parOC (n m : Nat) {kt k2 : Nat} {pt pt2 px py : Pos} (hc : X.calm = true) (ha : ED X ρ e1 ρ1 d1) (hb : EO X ρ1 e2 ρ2 l) (nd : X.N.Nodup) (hN : X.N[n]? = some x) (hM : X.N[m]? = some y) (hnm : n ≠ m) (hx : Loc X.env.scope x) (hy : Loc X.env.scope y)
    (hw : swappedStores [.Tuple [.Name x px, .Name y py] kt pt] (.Tuple [e1, e2] k2 pt2) X.env = pure none)
    (hf : X.fn x = true ∨ X.env.scope.names.lookup x = some .local := by first | exact .inl rfl | exact .inr rfl | assumption) (hf2 : X.fn y = true ∨ X.env.scope.names.lookup y = some .local := by first | exact .inl rfl | exact .inr rfl | assumption)
    (hq : starEach [e1, e2] X.env = (false, eval e1 X.env) :: starEach [e2] X.env := by rfl) (hq2 : starEach [e2] X.env = (false, eval e2 X.env) :: starEach [] X.env := by rfl)
    (hs : swapsWithSole [.Tuple [.Name x px, .Name y py] kt pt] (.Tuple [e1, e2] k2 pt2) pos.line X.env = pure false := by rfl)
    (h1 : (assignEach [.Tuple [.Name x px, .Name y py] kt pt] X.env).map (·.2) = [assign (.Tuple [.Name x px, .Name y py] kt pt) X.env] := by rfl)
    (hn : (assignEach [.Name x px, .Name y py] X.env).length = 2 := by rfl) (hst : (assignEach [.Name x px, .Name y py] X.env).findIdx? (·.1) = none := by rfl)
    (hc1 : (assignEach [.Name x px, .Name y py] X.env).map (·.2) = assign (.Name x px) X.env :: (assignEach [.Name y py] X.env).map (·.2) := by rfl) (hc2 : (assignEach [.Name y py] X.env).map (·.2) = assign (.Name y py) X.env :: (assignEach [] X.env).map (·.2) := by rfl) :
    SD X ρ (.Assign [.Tuple [.Name x px, .Name y py] kt pt] (.Tuple [e1, e2] k2 pt2) pos) (.nx ((ρ2.set n (some (.dat d1))).set m (some (.own (.lst l))))) :=
  (ps_asg (pe_tup (pa_cons ha (pa_cons hb pa_nil hq2) hq)) (pg_tup hc (pgs_cons (pg_name nd hN hx hf) (pgs_cons (pg_name nd hM hy hf2) pgs_nil hc2) hc1) hn hst) hs hw h1).weak fun D σ H ⟨F, S, g⟩ => ⟨F, S, fun v1 F1 H1 s1 o1 h1 => ⟨F1, s1.sat, fun v2 F2 H2 s2 o2 h2 => by
    refine ⟨Nat.le_of_ble_eq_true rfl, fun p hp => ⟨p, [v1, v2], rfl, .inl (.inl upd_same), rfl, v1, [v2], rfl, v2, [], rfl, rfl, ?_⟩⟩
    have s12 := s1.trans s2
    have tl := s12.trans (Step.laidM s2.sat (o := .tup [v1, v2]) hp)
    have t1 := tl.trans (Step.setD (n := n) (d := d1) tl.sat (Dq.mono s2.fr _ h1))
    refine g _ F2 _ (t1.into (n := m) (m := .lst l) ?_)
    obtain ⟨q, o, b1, ⟨b2, b3⟩, b4, b5, b6⟩ := h2
    refine ⟨q, o, b1, ⟨s1.mine b2, fun ⟨i, z⟩ => b3 ⟨i, (Held.ofSet (fun c e => by cases e; rfl) z).1⟩⟩, b4, ?_, b6⟩
    rw [upd_ne (ne_of_none b5 hp)]
    exact b5⟩⟩
/-- Euclid's while -/
theorem wh_euclid (R : Nat → Nat → Rho) (hc : ∀ x y, TD X (R x y) c (R x y) (!decide ((y : Int) = 0))) (hb : ∀ x y, y ≠ 0 → SDs X (R x y) body (.nx (R y (x % y)))) : ∀ n x y, y ≤ n → WhD X c body (.nx (R (Nat.gcd x y) 0)) n (R x y)
  | n, x, 0, _ => .stop (hc x 0) (by rw [Nat.gcd_zero_right])
  | n + 1, x, y + 1, h => by
    have t := hc x (y + 1)
    have e : (!decide (((y + 1 : Nat) : Int) = 0)) = true := by
      rw [decide_eq_false (by omega)]
      rfl
    rw [e] at t
    have r := wh_euclid R hc hb n (y + 1) (x % (y + 1)) (by have q : x % (y + 1) < y + 1 := Nat.mod_lt x (Nat.succ_pos y); omega)
    have eg : Nat.gcd (y + 1) (x % (y + 1)) = Nat.gcd x (y + 1) := by rw [Nat.gcd_comm x, Nat.gcd_rec (y + 1) x, Nat.gcd_comm]
    rw [eg] at r
    exact .turn t (hb x (y + 1) (Nat.succ_ne_zero y)) r
theorem fmod_nat (x y : Nat) : (x : Int).fmod (y : Int) = ((x % y : Nat) : Int) := by
  rw [Int.fmod_eq_emod_of_nonneg _ (by omega)]
  rfl
theorem frac_eq {a b : Int} (h : b ≠ 0) : (if decide (0 < b) = true then PyData.tuple [.int (a.fdiv (Nat.gcd a.natAbs b.natAbs : Nat)), .int (b.fdiv (Nat.gcd a.natAbs b.natAbs : Nat))] else .tuple [.int ((0 - a).fdiv (Nat.gcd a.natAbs b.natAbs : Nat)), .int ((0 - b).fdiv (Nat.gcd a.natAbs b.natAbs : Nat))]) = fr (mk a b) := by
  by_cases hb : b < 0
  · rw [if_neg (by simp; omega), mk_neg hb]
    rfl
  · rw [if_pos (by simp; omega), mk_pos hb]
    rfl
end
/-! ### picks -/
theorem atI_eq {α : Type} {xs : List α} {i : Int} (h0 : 0 ≤ i) (h1 : i < xs.length) : atI xs i = xs[i.toNat]? := by
  unfold atI ixN
  rw [if_pos h0, if_pos h1]
  rfl
theorem pick_map {α : Type} {xs : List α} {f : α → PyData} {i : Int} (z : α) (h0 : 0 ≤ i) (h1 : i < xs.length) : atI (xs.map f) i = some (f (xs.getD i.toNat z)) := by
  rw [atI_eq h0 (by rw [List.length_map]; exact h1), List.getElem?_map]
  have : i.toNat < xs.length := by omega
  rw [List.getElem?_eq_getElem this, List.getD_eq_getElem?_getD, List.getElem?_eq_getElem this]
  rfl
theorem getD_mem {α : Type} {xs : List α} {i : Int} (z : α) (h0 : 0 ≤ i) (h1 : i < xs.length) : xs.getD i.toNat z ∈ xs := by
  have : i.toNat < xs.length := by omega
  rw [List.getD_eq_getElem?_getD, List.getElem?_eq_getElem this]
  exact List.getElem_mem this
theorem cut_take (ds : List PyData) {k : Int} (h : 0 ≤ k) : cutD ds none (some k) = ds.take k.toNat := by
  unfold cutD
  rw [HT.sIx_none]
  obtain ⟨n, rfl⟩ : ∃ n : Nat, k = n := ⟨k.toNat, by omega⟩
  rw [HT.sIx_nat]
  simp only [List.drop_zero, Nat.sub_zero, Int.toNat_natCast]
  rw [List.take_eq_take_iff]
  omega
/-! ### what can be shown, piece by piece -/
theorem okn {n : Nat} : ∀ y ∈ ([] : List PyData), okD n y := fun _ h => nomatch h
theorem okc {n : Nat} {x : PyData} {xs : List PyData} (h : okD n x) (t : ∀ y ∈ xs, okD n y) : ∀ y ∈ x :: xs, okD n y := fun y hy => by
  rcases List.mem_cons.mp hy with rfl | hy
  · exact h
  · exact t y hy
theorem okm {n : Nat} {α : Type} {f : α → PyData} {xs : List α} (h : ∀ x ∈ xs, okD n (f x)) : ∀ y ∈ xs.map f, okD n y := fun y hy => by
  obtain ⟨x, hx, rfl⟩ := List.mem_map.mp hy
  exact h x hx
theorem okb {n : Nat} {b : Bool} : okD n (.bool b) := by cases n <;> trivial
theorem okl {n : Nat} {xs : List PyData} (h : ∀ y ∈ xs, okD n y) : okD (n + 1) (.list xs) := h
theorem okt {n : Nat} {xs : List PyData} (h : ∀ y ∈ xs, okD n y) : okD (n + 1) (.tuple xs) := h
theorem nod_map {α : Type} {f : α → PyData} {k : Nat} (h : ∀ x, nod (f x) ≤ k) : ∀ xs : List α, nodA (xs.map f) ≤ k * xs.length
  | [] => by simp [nodA]
  | x :: xs => by
    have a := h x
    have b := nod_map h xs
    simp only [List.map_cons, nodA, List.length_cons]
    rw [Nat.mul_succ]
    omega

theorem pick_int {ns : List Int} {k : Int} (h0 : 0 ≤ k) (h1 : k < (ns.length : Int)) : atI ns k = some (ns.getD k.toNat 0) := by
  rw [atI_eq h0 h1]
  have : k.toNat < ns.length := by omega
  rw [List.getD_eq_getElem?_getD, List.getElem?_eq_getElem this]
  rfl
theorem bits64 {a : Int} (h : -(2 ^ 64) < a ∧ a < 2 ^ 64) : Bits 64 a := by
  show a.natAbs < 2 ^ 64
  omega
theorem mulS {a b : Int} (ha : -(2 ^ 64) < a ∧ a < 2 ^ 64) (hb : -(2 ^ 64) < b ∧ b < 2 ^ 64) : CMulW a b := mulW (bits64 ha) (bits64 hb) (by decide)
theorem fmB {a n : Int} (h : 0 < n) (hn : n ≤ 2 ^ 63) : -(2 ^ 64) < a.fmod n ∧ a.fmod n < 2 ^ 64 := by
  have := fmod_rng (a := a) h
  omega
theorem bitsS {a : Int} {m : Nat} (ha : -(2 ^ 64) < a ∧ a < 2 ^ 64) (hm : 64 ≤ m := by decide) : Bits m a := bits_up (bits64 ha) hm
theorem bits_len {n m : Nat} (h : n ≤ 1000000) (hm : 64 ≤ m := by decide) : Bits m (n : Int) := bitsS (by omega) hm
theorem bits_log {a : Int} {n : Nat} (h : Bits n a) (hn : n < 9000) : a.natAbs.log2 < 9000 := by
  have := PySem.Flt.log2_lt_of (k := n + 1) (Nat.succ_pos _) (bits_up h (Nat.le_succ n))
  omega
theorem draw_pos {c : DC} {p : Pot} {n : Int} (h : 0 < p.1) : draw c p n = ((p.1 / n, p.2), p.1 % n) := if_pos h
theorem draw_neg {c : DC} {p : Pot} {n : Int} (h : ¬ 0 < p.1) : draw c p n = ((p.1, (p.2 * c.a + c.b).fmod c.m1), ((((p.2 * c.a + c.b).fmod c.m1 * (p.2 * c.a + c.b).fmod c.m1).fmod c.m2).fdiv c.d).fmod n) := if_neg h
/-- a pair of numbers kept by the module -/
theorem konst_fr {K : PySem.W.Frag} {mg : Str → Option Value} {x : Str} {a : Addr} {o : Option Addr} {i j : Int} {t u : Tok} {n : Nat} {sl : Array (Option Value)} (h : mg x = some (.ref a)) (l : K.lookup a = some ⟨.type "tuple", o, .seq #[.int i t, .int j u] n, sl⟩) : Konst K mg x (fr (i, j)) :=
  ⟨.ref a, .ref a, h, rfl, fun _ => .tup (xs := [.int i, .int j]) (.inr ⟨_, _, _, l, rfl, rfl, Nat.le_of_ble_eq_true rfl, .cons ⟨_, rfl⟩ (.cons ⟨_, rfl⟩ .nil)⟩) (.cons (.int _) (.cons (.int _) .nil))⟩
end Cl

set_option maxRecDepth 100000
namespace Cl
open PySem PySem.Spec PyProof.Rows L2
section
variable {K : PySem.W.Frag} {a b : Addr} {xs ys : List V}
theorem walk_zipT {n : Nat} (hn : n = min xs.length ys.length) : Walk (RZ.ItzT K a b) n (fun H => SqT K H a xs ∧ SqT K H b ys) (YPair (fun i => xs[i]?) (fun i => ys[i]?)) := by
  subst hn
  refine ⟨fun i _ hi q => ?_, fun _ q => ⟨xs, ys, q.1, q.2, by omega⟩, fun i H v H' _ q y => ?_⟩
  · have h1 : i < xs.length := by omega
    have h2 : i < ys.length := by omega
    exact ⟨xs, ys, xs[i], ys[i], q.1, q.2, by simp [h1], by simp [h2]⟩
  · obtain ⟨T, x, z, h1, h2, h3, h4, h5⟩ := y
    exact ⟨T, x, z, h1, h2, h3, h4 xs q.1, h5 ys q.2⟩
end
section
variable {X : Cx} {ρ ρ1 ρ2 : Rho} {e e2 a b c : Expr} {ds1 ds2 ds : List PyData} {p pos : Pos} {d1 d2 d3 : PyData} {u v : Bool}
theorem i_zipT {elts : List Expr} {kk : Nat} {tpos : Pos} (hg : Gl X "zip") (hm : X.mg "zip" = none) (h : AD X ρ [e, e2] ρ1 [.tuple ds1, .tuple ds2]) (hs : starEach [e, e2] X.env = (false, eval e X.env) :: starEach [e2] X.env := by rfl) (hpl : (backTo pos (starEach [e2] X.env)).any (·.1) = false := by rfl) : ID X ρ (.Tuple elts kk tpos) (.Call (.Name "zip" p) [e, e2] [] pos) ρ1 (pairD ds1 ds2) :=
  (RZ.pi_zipA hg hm h hs hpl).weak fun σ H R ⟨F, S, k⟩ => ⟨F, S, fun vs F1 H1 s1 o1 hv => by
    cases hv with
    | cons h1 t =>
      cases t with
      | cons h2 t =>
        cases t
        cases h1 with
        | tup hs ha =>
          cases h2 with
          | tup hs' ha' =>
            refine ⟨_, _, _, _, rfl, .inr ⟨sqT_same s1.sat.sub hs, sqT_same s1.sat.sub hs', k _ F1 H1 s1 o1 ?_⟩⟩
            refine (walk_zipT (n := (pairD ds1 ds2).length) ?_).mono (fun H2 z => ⟨sqT_same z hs, sqT_same z hs'⟩) fun i H2 v H3 _ _ y => yd_pair y fun x y F2 e1 e2 a => ?_
            · unfold pairD
              rw [List.length_zipWith, ha.length, ha'.length]
            · obtain ⟨d1, q1, q2⟩ := ha.get e1
              obtain ⟨d2, q3, q4⟩ := ha'.get e2
              exact ⟨d1, d2, zip_get q1 q3, q2.mono a, q4.mono a⟩⟩
/-- a op b op' c -/
theorem e_chain {op op' : CmpOp} (hc : CmpD X op d1 d2 u) (hc' : CmpD X op' d2 d3 v) (ha : ED X ρ a ρ1 d1) (hb : ED X ρ1 b ρ2 d2) (hd : ED X ρ2 c ρ2 d3) (hm : lastMarks [op, op'] [b, c] = false := by with_unfolding_all rfl) : ED X ρ (.Compare a [op, op'] [b, c] pos) ρ2 (.bool (u && v)) := by
  obtain ⟨r, ho, hr⟩ := hc.ex
  obtain ⟨r', ho', hr'⟩ := hc'.ex
  exact (pe_chain ho ho' ha hb hd hm).weak fun σ H Q ⟨F, S, k⟩ => ⟨F, S, fun x F1 H1 s1 o1 v1 => ⟨F1, s1.sat, fun y F2 H2 s2 o2 v2 => hr F2 H2 x y _ s2.sat.sub (Dq.mono s2.fr _ v1) v2 ⟨u, rfl, by
    cases u with
    | true => exact ⟨F2, s2.sat, fun w F3 H3 s3 o3 v3 => hr' F3 H3 y w _ s3.sat.sub (Dq.mono s3.fr _ v2) v3 (k _ F3 H3 ((s1.trans s2).trans s3) (fun q h => o1 q (o2 q (o3 q h))) (.bl _))⟩
    | false => exact k _ F2 H2 (s1.trans s2) (fun q h => o1 q (o2 q h)) (.bl _)⟩⟩⟩
theorem t_chain {op op' : CmpOp} (hc : CmpD X op d1 d2 u) (hc' : CmpD X op' d2 d3 v) (ha : ED X ρ a ρ1 d1) (hb : ED X ρ1 b ρ2 d2) (hd : ED X ρ2 c ρ2 d3) (hm : lastMarks [op, op'] [b, c] = false := by with_unfolding_all rfl) : TD X ρ (.Compare a [op, op'] [b, c] pos) ρ2 (u && v) := by
  obtain ⟨r, ho, hr⟩ := hc.ex
  obtain ⟨r', ho', hr'⟩ := hc'.ex
  exact (pt_chain ho ho' ha hb hd hm).weak fun σ H Q ⟨F, S, k⟩ => ⟨F, S, fun x F1 H1 s1 o1 v1 => ⟨F1, s1.sat, fun y F2 H2 s2 o2 v2 => hr F2 H2 x y _ s2.sat.sub (Dq.mono s2.fr _ v1) v2 ⟨u, rfl, by
    cases u with
    | true => exact ⟨F2, s2.sat, fun w F3 H3 s3 o3 v3 => hr' F3 H3 y w _ s3.sat.sub (Dq.mono s3.fr _ v2) v3 ⟨v, rfl, k F3 H3 ((s1.trans s2).trans s3) (fun q h => o1 q (o2 q (o3 q h)))⟩⟩
    | false => exact ⟨false, rfl, k F2 H2 (s1.trans s2) (fun q h => o1 q (o2 q h))⟩⟩⟩⟩
/-- {} -/
theorem e_dict0 : ED X ρ (.Dict [] [] pos) ρ (.dict []) :=
  pe_dnewK.weak fun σ H Q ⟨F, S, k⟩ => fun q hq => k _ _ _ (Step.laid S hq) own_id (.dct upd_same)
end
section
variable {P : Program} {w : World} {K : PySem.W.Frag} {mg : Str → Option Value} {base : Heap} {k : Nat} {f : Addr} {fd : FuncData} {ps N : List Str} {x qual : Str} {st : Stmt}
/-- data in, the end of the body reached: None -/
theorem fn_fall {R : List PyData → PyData → Prop} (F : Fun K x qual st f fd) (Sc : FnScope N ps (defScope st)) (len : ∀ ds d, R ds d → ds.length = ps.length)
    (body : ∀ (cdv : Value) (A : Around) (outer : List Env) (s : Shared) (H : Hp) (E : XK), Room k (A.deeper (envOfC qual (defScope st) s.heap.objs.size f cdv)) → A.guards = some [] → ∀ ds d, R ds d →
      d = .none ∧ ∃ ρ1, SDs (cxOf CX0 P w K mg base N qual (defScope st) f cdv A outer s H E).nox (enter N (ds.map .dat)) (defBody st) (.nx ρ1)) : FnG P w K mg base CX0 (k + 1) f fd ps (spOf K (pureS R)) := by
  have ln : ∀ vs H Q E, spOf K (pureS R) vs H Q E → vs.length = ps.length := by
    rintro vs H Q E ⟨cs, r, cs', ⟨ds, d, h, rfl, _⟩, F, Sa, _⟩
    have : vs.length = (ds.map Cell.dat).length := by simpa using Sa.len
    rw [this, List.length_map]
    exact len ds d h
  refine fn_body F Sc ln fun cdv A outer s H vs Q E room grd pr => ?_
  obtain ⟨cs, r, cs', ⟨ds, d, h, rfl, rfl, rfl⟩, Fz, Sa, kk⟩ := pr
  obtain ⟨rfl, ρ1, hb⟩ := body cdv A outer s H E room grd ds d h
  refine ⟨_, hb.nox, Fz, sat_enter Sa, ?_⟩
  intro σ' F' H' step
  obtain ⟨a, b, _⟩ := leave Sa step rfl fun i c h => .inl ⟨dat_none h, h⟩
  exact kk .non F' H' a b .non
end
end Cl

namespace Cl1
open PySem PySem.Spec PyProof.Rows L2
set_option maxHeartbeats 4000000
theorem tuple_mul1 (l : Addr) (items : Array Value) (n : Nat) (dd : Option Addr) (sl : Array (Option Value)) (u : Tok) :
    Meets (Builtin.«tuple.__mul__» ⟨[.ref l, .int 1 u], []⟩) (fun _ R s => s.heap.get? l = some { cls := .type "tuple", dict := dd, data := .seq items n, slots := sl } ∧
      R (.ok (.ret (Value.ref l))) s) :=
  .of_wp fun prog w A R s h => by
    obtain ⟨hp, g, d, tk, os⟩ := s
    obtain ⟨hl, h⟩ := h
    have f1 := AutoSeq1.idx_int
    wp_walk using wpAny_loadPart' hl
    exact ⟨_, rfl, h⟩

/-- tuple * 1: the tuple itself -/
theorem op_repT1 {X : Cx} : OpR X (binaryOp .Mult) (fun x y H Q => ∃ l xs, x = .ref l ∧ y = .int 1 ∧ SqT X.K H l xs ∧ Q (.ref l) H) := by
  intro pins s σ H x y v u Q I rx ry h
  obtain ⟨l, xs, rfl, rfl, hT, q⟩ := h
  cases rx
  obtain ⟨t, rfl⟩ := ry
  obtain ⟨its, r, ⟨⟨cls, dd, data, sl⟩, ho, hc, n, hd⟩, hs⟩ := I.tuple hT
  simp only at hc hd
  subst hc hd
  refine wpAny_binaryOp_repeat_ref (T := "tuple") (U := "int") (by decide) ⟨_, ho, rfl⟩ (fun s' => typeIs_int s' 1 t) noFill_tuple_mul F.fills_int_mul F.slot_int_rmul repeat_tuple F.slot_int_index.lookup
    (call_meets F.slot_int_rmul (typeIs_int s 1 t) F.entry_int_rmul (F.args_int_rmul_2 _ _) (int_rmul_tuple 1 t l its.toArray n dd sl)
      ⟨ho, rfl, ⟨_, ho, rfl⟩, call_meets F.slot_tuple_mul ⟨_, ho, rfl⟩ F.entry_tuple_mul (F.args_tuple_mul_2 _ _) (tuple_mul1 l its.toArray n dd sl t) ⟨ho, ?_⟩⟩)
  exact ⟨.ref l, H, I, rfl, q⟩
end Cl1
namespace Cl
open PySem PySem.Spec PyProof.Rows L2
section
variable {X : Cx} {ρ ρ1 ρ2 : Rho} {a b : Expr} {ds : List PyData} {pos : Pos} {i : Int}
theorem e_repT1 (ha : ED X ρ a ρ1 (.tuple ds)) (hb : ED X ρ1 b ρ2 (.int 1)) : ED X ρ (.BinOp a .Mult b pos) ρ2 (.tuple ds) :=
  (pe_op Cl1.op_repT1 ha hb).weak fun σ H Q ⟨F, S, k⟩ => ⟨F, S, fun x F1 H1 s1 o1 v1 => ⟨F1, s1.sat, fun y F2 H2 s2 o2 v2 => by
    have v3 := Dq.mono s2.fr _ v1
    have v4 : Dq X.K F2 y (.int 1) := v2
    cases v4
    cases v3 with
    | tup hs ha => exact ⟨_, _, rfl, rfl, sqT_same s2.sat.sub hs, k _ F2 H2 (s1.trans s2) (fun q h => o1 q (o2 q h)) (.tup hs ha)⟩⟩⟩
/-- tuple * n from 1 on -/
theorem e_repTn {l : List PyData} (ha : ED X ρ a ρ1 (.tuple ds)) (hb : ED X ρ1 b ρ2 (.int i)) (h1 : 1 ≤ i) (h2 : i ≤ 1000) (h0 : ds ≠ []) (hz : ds.length ≤ 1000) (h : (List.replicate i.toNat ds).flatten = l) : ED X ρ (.BinOp a .Mult b pos) ρ2 (.tuple l) := by
  subst h
  by_cases z : i = 1
  · subst z
    have e : (List.replicate (Int.toNat 1) ds).flatten = ds := by
      show (List.replicate 1 ds).flatten = ds
      simp
    rw [e]
    exact e_repT1 ha hb
  · exact e_repT ha hb (by omega) h2 h0 hz
end
end Cl
namespace Cl
open PySem PySem.Spec PyProof.Rows L2
/-! ### repr of any data (dicts: the empty one, alone) -/
def Showy2 : PyData → Prop
  | .none => True
  | .bool _ => True
  | .int i => i.natAbs.log2 < 1920
  | .str x => (reprText x).length ≤ sizeLine
  | .dict kvs => kvs = []
  | .list ds => Showy (.list ds)
  | .tuple ds => Showy (.tuple ds)
section
variable {X : Cx} {d : PyData}
theorem f_reprA (hg : X.A.guards = some []) (hu : X.A.units + 64 < cLine) (h : Showy2 d) : CallD X (.builtin "repr") [d] (.str d.shown) := by
  refine ⟨fun vs H Q => ∃ v, vs = [v] ∧ Dq X.K H v d ∧ Q (.str d.shown) H, ?_, fun F H vs Q s hv k => ?_⟩
  · intro pins s σ H vs us Q I r h9
    obtain ⟨v, rfl, hd, q⟩ := h9
    cases r with
    | cons r1 t =>
      cases t
      cases d with
      | none =>
        cases hd
        cases r1
        exact PySem.P.repr_of_none ⟨.str (PyData.none).shown, H, I.kept (fun _ _ e => e), ⟨_, by rw [PyData.shown_none]⟩, q⟩
      | bool b =>
        cases hd
        cases r1
        exact PySem.P.repr_of_bool ⟨.str (PyData.bool b).shown, H, I.kept (fun _ _ e => e), ⟨_, by rw [PyData.shown_bool]⟩, q⟩
      | int i =>
        cases hd
        obtain ⟨t, rfl⟩ := r1
        exact PySem.P.repr_of_int h ⟨.str (PyData.int i).shown, H, I.kept (fun _ _ e => e), ⟨_, by rw [PyData.shown_int]⟩, q⟩
      | str x =>
        cases hd
        obtain ⟨t, rfl⟩ := r1
        exact PySem.P.repr_of_str ⟨.str (PyData.str x).shown, H, I.kept (fun _ _ e => e), ⟨_, by rw [PyData.shown_str]⟩, q⟩ h
      | list ds =>
        have hs : Showy (.list ds) := h
        cases hd with
        | lst h1 h2 =>
          cases r1
          obtain ⟨as, rd⟩ := Dq.rd I (.list ds) _ _ (.lst h1 h2) rfl
          exact repr_of_reads' rd hs.able (PySem.PyData.noDict_hsm hs.nodict) hg (by have := hs.depth; omega) (fun _ _ e => e) (fun h' u tk hk => ⟨.str _, H, I.kept hk, ⟨u, rfl⟩, q⟩) hs.size
      | tuple ds =>
        have hs : Showy (.tuple ds) := h
        cases hd with
        | tup h1 h2 =>
          cases r1
          obtain ⟨as, rd⟩ := Dq.rd I (.tuple ds) _ _ (.tup h1 h2) rfl
          exact repr_of_reads' rd hs.able (PySem.PyData.noDict_hsm hs.nodict) hg (by have := hs.depth; omega) (fun _ _ e => e) (fun h' u tk hk => ⟨.str _, H, I.kept hk, ⟨u, rfl⟩, q⟩) hs.size
      | dict kvs =>
        have e : kvs = [] := h
        subst e
        cases hd with
        | dct hs =>
          cases r1
          obtain ⟨_, ns, vs, kv, o, es, ep, ho, ex, hd, q2⟩ := I.hok _ _ hs
          cases kv
          have z : es.toList = [] := by
            have q2 := q2.2.1
            cases h9 : es.toList with
            | nil => rfl
            | cons e r => rw [h9] at q2; cases q2
          refine repr_of_reads' (d := .dict []) (.dict (kvs := []) (as := []) (bs := []) ho ex.1 hd ?_ ?_) (by simp [PyData.showable, PyData.showableKv]) (fun _ hm => ?_) hg (by simp [PyData.depth, PyData.depthKv]; omega) (fun _ _ e => e) (fun h' u tk hk => ⟨.str _, H, I.kept hk, ⟨u, rfl⟩, q⟩) (by decide +kernel)
          · rw [z]; exact .nil
          · rw [z]; exact .nil
          · have := List.mem_singleton.mp hm
            rw [← this] at ns
            simp at ns
  · cases hv with
    | cons h1 t =>
      cases t
      exact ⟨_, rfl, Dq.mono s _ h1, k _ F H (Grow.refl s) (.str _)⟩
theorem konst_int {K : PySem.W.Frag} {mg : Str → Option Value} {x : Str} {i : Int} {t : Tok} (h : mg x = some (.int i t)) : Konst K mg x (.int i) := ⟨.int i, _, h, ⟨t, rfl⟩, fun _ => .int i⟩
end
end Cl
namespace Cl
open PySem PySem.Spec PyProof.Rows L2
section
variable {X : Cx} {ρ ρ1 ρ2 : Rho} {e : Expr} {u v : Bool}
theorem e_convB (h : ED X ρ e ρ1 (.bool u)) (q : u = v) : ED X ρ e ρ1 (.bool v) := by rw [← q]; exact h
end
section
variable {X : Cx} {sc : Scope} {ρ : Rho} {tg elt : Expr} {vs : List Nat} {ifs : List Expr}
theorem pairD_map {α β : Type} (e1 : α → PyData) (e2 : β → PyData) : ∀ (a : List α) (b : List β), pairD (a.map e1) (b.map e2) = (a.zip b).map fun p => .tuple [e1 p.1, e2 p.2]
  | [], _ => by simp [pairD]
  | _ :: _, [] => by simp [pairD]
  | x :: a, y :: b => by
    have := pairD_map e1 e2 a b
    unfold pairD at this ⊢
    simp [this]
theorem lc_pair {α β : Type} (e1 : α → PyData) (e2 : β → PyData) (g : α × β → PyData) (a : List α) (b : List β)
    (step : ∀ x ∈ a.zip b, ∃ ρ1 ρ2 ρ3, (Bk X sc fun B => GD B vs ρ tg (.tuple [e1 x.1, e2 x.2]) ρ1) ∧ (Bk X sc fun B => TsD B ρ1 ifs ρ2 true) ∧ (Bk X sc fun B => ED B ρ2 elt ρ3 (g x)) ∧ forgetR ρ3 vs = ρ) :
    LcD X sc vs tg ifs elt (pairD (a.map e1) (b.map e2)) ρ ((a.zip b).map g) ρ := by
  rw [pairD_map]
  exact lc_map (fun p : α × β => .tuple [e1 p.1, e2 p.2]) g (a.zip b) step
end
section
variable {X : Cx} {sc : Scope} {ρ : Rho} {tg elt : Expr} {vs : List Nat} {ifs : List Expr}
theorem lc_each (g : PyData → PyData) (l : List PyData)
    (step : ∀ x ∈ l, ∃ ρ1 ρ2 ρ3, (Bk X sc fun B => GD B vs ρ tg x ρ1) ∧ (Bk X sc fun B => TsD B ρ1 ifs ρ2 true) ∧ (Bk X sc fun B => ED B ρ2 elt ρ3 (g x)) ∧ forgetR ρ3 vs = ρ) :
    LcD X sc vs tg ifs elt l ρ (l.map g) ρ := by
  have := lc_map (X := X) (sc := sc) (ρ := ρ) (tg := tg) (elt := elt) (vs := vs) (ifs := ifs) id g l step
  rwa [List.map_id] at this
end
/-! ### what a value is -/
def isI (x : PyData) : Bool := isName x "int" && !isName x "bool"
def isFr : PyData → Bool
  | .tuple [.int a, .int b] => decide (1 ≤ b) && decide (((Nat.gcd a.natAbs b.natAbs : Nat) : Int) = 1)
  | _ => false
theorem tuple_of {x : PyData} (h : isName x "tuple" = true) : ∃ l, x = .tuple l := by
  cases x <;> first | exact ⟨_, rfl⟩ | exact absurd h (by decide) | exact absurd h (fun z => nomatch z)
theorem int_of {x : PyData} (h : isI x = true) : ∃ i, x = .int i := by
  cases x <;> first | exact ⟨_, rfl⟩ | exact absurd h (fun z => nomatch z)
theorem two_of {l : List PyData} (h : l.length = 2) : ∃ a b, l = [a, b] := by
  match l, h with
  | [a, b], _ => exact ⟨a, b, rfl⟩
theorem isFr_no {x : PyData} (h : ¬ isName x "tuple" = true) : isFr x = false := by
  unfold isFr
  split
  · exact absurd rfl h
  · rfl
theorem isFr_len {l : List PyData} (h : ¬ l.length = 2) : isFr (.tuple l) = false := by
  unfold isFr
  split
  · next e => cases e; exact absurd rfl h
  · rfl
theorem isFr_a {a b : PyData} (h : ¬ isI a = true) : isFr (.tuple [a, b]) = false := by
  unfold isFr
  split
  · next e => cases e; exact absurd rfl h
  · rfl
theorem isFr_b {a b : PyData} (h : ¬ isI b = true) : isFr (.tuple [a, b]) = false := by
  unfold isFr
  split
  · next e => cases e; exact absurd rfl h
  · rfl
theorem isFr_fr {p : Fr} (h : Low p) : isFr (fr p) = true := by
  show (decide (1 ≤ p.2) && decide (((Nat.gcd p.1.natAbs p.2.natAbs : Nat) : Int) = 1)) = true
  rw [h.2, decide_eq_true h.1]
  rfl
/-- the law's own look -/
theorem isFr_mk {a b : Int} (h : 0 < b) : decide (mk a b = (a, b)) = isFr (.tuple [.int a, .int b]) := by
  show _ = (decide (1 ≤ b) && decide (((Nat.gcd a.natAbs b.natAbs : Nat) : Int) = 1))
  rw [decide_eq_true (show (1 : Int) ≤ b by omega), Bool.true_and, mk_pos (by omega)]
  by_cases g : Nat.gcd a.natAbs b.natAbs = 1
  · rw [decide_eq_true (by unfold gi; rw [g]; simp), decide_eq_true (by rw [g]; rfl)]
  · rw [decide_eq_false, decide_eq_false (by omega)]
    intro e
    have e2 : b.fdiv (gi a b) = b := congrArg Prod.snd e
    have hp : 0 < gi a b := gi_pos (by omega)
    have hd := gi_dvd2 a b
    have e3 : gi a b * b.fdiv (gi a b) = b := Int.mul_fdiv_cancel' hd
    rw [e2] at e3
    have e4 : gi a b * b = 1 * b := by omega
    have e5 := Int.eq_of_mul_eq_mul_right (by omega) e4
    unfold gi at e5
    omega
/-- a vector -/
def vec (v : List Fr) : PyData := .tuple (v.map fr)
def isV : PyData → Bool
  | .tuple ds => (decide (1 ≤ (ds.length : Int)) && decide ((ds.length : Int) ≤ 3)) && (ds.map isFr).all id
  | _ => false
theorem isV_no {x : PyData} (h : ¬ isName x "tuple" = true) : isV x = false := by
  unfold isV
  split
  · exact absurd rfl h
  · rfl
theorem isV_vec {v : List Fr} (h1 : 1 ≤ v.length) (h2 : v.length ≤ 3) (h : ∀ p ∈ v, Low p) : isV (vec v) = true := by
  show ((decide (1 ≤ ((v.map fr).length : Int)) && decide (((v.map fr).length : Int) ≤ 3)) && ((v.map fr).map isFr).all id) = true
  rw [List.length_map, decide_eq_true (by omega), decide_eq_true (by omega), List.map_map, List.all_map]
  exact List.all_eq_true.mpr fun p hp => isFr_fr (h p hp)
def vPlus (a b : List Fr) : List Fr := (a.zip b).map fun p => fPlus p.1 p.2
def vMinus (a b : List Fr) : List Fr := (a.zip b).map fun p => fMinus p.1 p.2
def vTimes (a : List Fr) (n : Fr) : List Fr := a.map fun p => fTimes p n
theorem vec_zip {f : Fr → Fr → Fr} {a b : List Fr} : PyData.tuple ((a.zip b).map fun p => fr (f p.1 p.2)) = vec ((a.zip b).map fun p => f p.1 p.2) := by
  unfold vec
  rw [List.map_map]
  rfl
theorem vec_map {α : Type} {f : α → Fr} {a : List α} : PyData.tuple (a.map fun p => fr (f p)) = vec (a.map f) := by
  unfold vec
  rw [List.map_map]
  rfl
theorem rep_vec {p : Fr} (n : Nat) : (List.replicate n [fr p]).flatten = (List.replicate n p).map fr := by
  induction n with
  | zero => rfl
  | succ n ih => rw [List.replicate_succ, List.flatten_cons, ih, List.replicate_succ]; rfl
theorem mem_zip {a b : List Fr} {x : Fr × Fr} (h : x ∈ a.zip b) : x.1 ∈ a ∧ x.2 ∈ b := by
  obtain ⟨u, v⟩ := x
  exact List.of_mem_zip h
end Cl

set_option maxRecDepth 100000
namespace Cl
open PySem PySem.Spec PyProof.Rows L2
section
variable {X : Cx} {ρ ρ1 ρ2 : Rho} {e1 e2 c : Expr} {d d1 d2 : PyData} {l : List PyData} {x y : Str} {pos : Pos} {body : List Stmt}
/-- a, b = e1, e2 by a tuple (one of the names is captured): data -/
theorem s_parC (n m : Nat) {kt k2 : Nat} {pt pt2 px py : Pos} (hc : X.calm = true) (ha : ED X ρ e1 ρ1 d1) (hb : ED X ρ1 e2 ρ2 d2) (nd : X.N.Nodup) (hN : X.N[n]? = some x) (hM : X.N[m]? = some y) (hnm : n ≠ m) (hx : Loc X.env.scope x) (hy : Loc X.env.scope y)
    (hw : swappedStores [.Tuple [.Name x px, .Name y py] kt pt] (.Tuple [e1, e2] k2 pt2) X.env = pure none)
    (hf : X.fn x = true ∨ X.env.scope.names.lookup x = some .local := by first | exact .inl rfl | exact .inr rfl | assumption) (hf2 : X.fn y = true ∨ X.env.scope.names.lookup y = some .local := by first | exact .inl rfl | exact .inr rfl | assumption)
    (hq : starEach [e1, e2] X.env = (false, eval e1 X.env) :: starEach [e2] X.env := by rfl) (hq2 : starEach [e2] X.env = (false, eval e2 X.env) :: starEach [] X.env := by rfl)
    (hs : swapsWithSole [.Tuple [.Name x px, .Name y py] kt pt] (.Tuple [e1, e2] k2 pt2) pos.line X.env = pure false := by rfl)
    (h1 : (assignEach [.Tuple [.Name x px, .Name y py] kt pt] X.env).map (·.2) = [assign (.Tuple [.Name x px, .Name y py] kt pt) X.env] := by rfl)
    (hn : (assignEach [.Name x px, .Name y py] X.env).length = 2 := by rfl) (hst : (assignEach [.Name x px, .Name y py] X.env).findIdx? (·.1) = none := by rfl)
    (hc1 : (assignEach [.Name x px, .Name y py] X.env).map (·.2) = assign (.Name x px) X.env :: (assignEach [.Name y py] X.env).map (·.2) := by rfl) (hc2 : (assignEach [.Name y py] X.env).map (·.2) = assign (.Name y py) X.env :: (assignEach [] X.env).map (·.2) := by rfl) :
    SD X ρ (.Assign [.Tuple [.Name x px, .Name y py] kt pt] (.Tuple [e1, e2] k2 pt2) pos) (.nx ((ρ2.set n (some (.dat d1))).set m (some (.dat d2)))) :=
  (ps_asg (pe_tup (pa_cons ha (pa_cons hb pa_nil hq2) hq)) (pg_tup hc (pgs_cons (pg_name nd hN hx hf) (pgs_cons (pg_name nd hM hy hf2) pgs_nil hc2) hc1) hn hst) hs hw h1).weak fun D σ H ⟨F, S, g⟩ => ⟨F, S, fun v1 F1 H1 s1 o1 h1 => ⟨F1, s1.sat, fun v2 F2 H2 s2 o2 h2 => by
    refine ⟨Nat.le_of_ble_eq_true rfl, fun p hp => ⟨p, [v1, v2], rfl, .inl (.inl upd_same), rfl, v1, [v2], rfl, v2, [], rfl, rfl, ?_⟩⟩
    have s12 := s1.trans s2
    have tl := s12.trans (Step.laidM s2.sat (o := .tup [v1, v2]) hp)
    have t1 := tl.trans (Step.setD (n := n) (d := d1) tl.sat (Dq.mono s2.fr _ h1))
    exact g _ F2 _ (t1.trans (Step.setD (n := m) (d := d2) t1.sat h2))⟩⟩
end
section
variable {X : Cx} {ρ : Rho} {tg : Expr} {vs : List Nat} {body : List Stmt}
theorem forD_each (fs : List Nat) (I : PyData → Prop) (l : List PyData)
    (step : ∀ x, I x → ∃ ρ1 ρ2, GD X vs ρ tg x ρ1 ∧ SDs X ρ1 body (.nx ρ2) ∧ forgetR ρ2 fs = ρ) (h0 : ∀ x ∈ l, I x) : ForD X tg vs body (.nx ρ) l ρ := by
  induction l with
  | nil => exact .nil rfl
  | cons x r ih =>
    obtain ⟨ρ1, ρ2, h1, h2, h3⟩ := step x (h0 x List.mem_cons_self)
    exact .next h1 (by rw [← h3]; exact ss_forget fs h2) (ih fun y hy => h0 y (List.mem_cons_of_mem _ hy))
end
theorem pick_get {xs : List PyData} {i : Int} (h0 : 0 ≤ i) (h1 : i < xs.length) : atI xs i = some (xs.getD i.toNat .none) := by
  rw [atI_eq h0 h1]
  have : i.toNat < xs.length := by omega
  rw [List.getD_eq_getElem?_getD, List.getElem?_eq_getElem this]
  rfl
theorem cutD_mem {ds : List PyData} {m n : Option Int} {y : PyData} (h : y ∈ cutD ds m n) : y ∈ ds := List.mem_of_mem_drop (List.mem_of_mem_take h)
theorem cutD_len {ds : List PyData} {m n : Option Int} : (cutD ds m n).length ≤ ds.length := by
  unfold cutD
  rw [List.length_take, List.length_drop]
  omega
theorem nodA_le {k : Nat} : ∀ {l : List PyData}, (∀ y ∈ l, nod y ≤ k) → nodA l ≤ k * l.length
  | [], _ => by simp [nodA]
  | x :: l, h => by
    have a := h x List.mem_cons_self
    have b := nodA_le (l := l) fun y hy => h y (List.mem_cons_of_mem _ hy)
    simp only [nodA, List.length_cons]
    rw [Nat.mul_succ]
    omega
theorem runT_all {α β γ : Type} {f : β → α → β × γ} {I : β → Prop} {Q : γ → Prop} (h : ∀ b x, I b → I (f b x).1 ∧ Q (f b x).2) : ∀ (l : List α) (b : β), I b → I (endT f b l) ∧ ∀ y ∈ runT f b l, Q y
  | [], _, hb => ⟨hb, fun _ hy => nomatch hy⟩
  | x :: r, b, hb => ⟨(runT_all h r _ (h b x hb).1).1, fun y hy => by
      rcases List.mem_cons.mp hy with rfl | hy
      · exact (h b x hb).2
      · exact (runT_all h r _ (h b x hb).1).2 y hy⟩
theorem runL_all {α β : Type} {f : β → α → β × PyData} {I : β → Prop} {Q : PyData → Prop} (h : ∀ b x, I b → I (f b x).1 ∧ Q (f b x).2) : ∀ (l : List α) (b : β), I b → I (endL f b l) ∧ ∀ y ∈ runL f b l, Q y
  | [], _, hb => ⟨hb, fun _ hy => nomatch hy⟩
  | x :: r, b, hb => ⟨(runL_all h r _ (h b x hb).1).1, fun y hy => by
      rcases List.mem_cons.mp hy with rfl | hy
      · exact (h b x hb).2
      · exact (runL_all h r _ (h b x hb).1).2 y hy⟩
theorem runT_true {α β : Type} {g : β → α → β} : ∀ (l : List α) (b : β), (runT (fun b x => (g b x, true)) b l).all id = true
  | [], _ => rfl
  | _ :: r, b => runT_true (g := g) r _
theorem vec_shaped {v : List Fr} (h : v.length ≤ 3) : SeqAt.shaped (vec v) = true := by
  match v, h with
  | [], _ => rfl
  | [a], _ => simp [vec, fr, SeqAt.shaped, PyData.canLay0, PyData.canLayAll0, PyData.depth, PyData.depthAll]
  | [a, b], _ => simp [vec, fr, SeqAt.shaped, PyData.canLay0, PyData.canLayAll0, PyData.depth, PyData.depthAll]
  | [a, b, c], _ => simp [vec, fr, SeqAt.shaped, PyData.canLay0, PyData.canLayAll0, PyData.depth, PyData.depthAll]
theorem vec_eqv {v : List Fr} : PyData.eqv (vec v) (vec v) = true := by
  refine PySem.SeqAt.eqv_refl _ ?_
  have : ∀ l : List Fr, PyData.canLayAll0 (l.map fr) = true := fun l => by
    induction l with
    | nil => rfl
    | cons a l ih => simp [fr, PyData.canLayAll0, PyData.canLay0, ih]
  show PyData.canLay0 (.tuple (v.map fr)) = true
  simp [PyData.canLay0, this]
/-- a sum less one of both -/
theorem mk_mul {a b c : Int} (hb : 0 < b) (hc : 0 < c) : mk (a * c) (b * c) = mk a b := by
  have hbc : 0 < b * c := Int.mul_pos hb hc
  rw [mk_pos (by omega), mk_pos (by omega)]
  have hg : gi (a * c) (b * c) = gi a b * c := by
    unfold gi
    rw [Int.natAbs_mul, Int.natAbs_mul, Nat.gcd_mul_right]
    have : (c.natAbs : Int) = c := by omega
    rw [Int.natCast_mul, this]
  have gp : 0 < gi a b := gi_pos (by omega)
  rw [hg]
  rw [Int.mul_comm a c, Int.mul_comm b c, Int.mul_comm (gi a b) c, Int.mul_fdiv_mul_of_pos _ _ hc, Int.mul_fdiv_mul_of_pos _ _ hc]
theorem mk_self {p : Fr} (h : Low p) : mk p.1 p.2 = p := by
  have := h.1
  rw [mk_pos (by omega)]
  have g : gi p.1 p.2 = 1 := by unfold gi; rw [h.2]; rfl
  rw [g, Int.fdiv_one, Int.fdiv_one]
theorem mk_cross {a b x y : Int} (hb : 0 < b) (hy : 0 < y) (h : a * y = x * b) : mk a b = mk x y := by
  rw [← mk_mul hb hy, ← mk_mul hy hb, h, Int.mul_comm b y]
theorem mk_val {a b : Int} (hb : 0 < b) : (mk a b).1 * b = a * (mk a b).2 ∧ 0 < (mk a b).2 := by
  have hp := mk_two_pos (a := a) (b := b) (by omega)
  refine ⟨?_, by omega⟩
  rw [mk_pos (by omega)]
  have e1 := Int.mul_fdiv_cancel' (gi_dvd1 a b)
  have e2 := Int.mul_fdiv_cancel' (gi_dvd2 a b)
  show a.fdiv (gi a b) * b = a * b.fdiv (gi a b)
  calc a.fdiv (gi a b) * b = a.fdiv (gi a b) * (gi a b * b.fdiv (gi a b)) := by rw [e2]
    _ = gi a b * a.fdiv (gi a b) * b.fdiv (gi a b) := by rw [← Int.mul_assoc, Int.mul_comm (a.fdiv (gi a b))]
    _ = a * b.fdiv (gi a b) := by rw [e1]
theorem plus_minus {a b : Fr} (ha : Low a) (hb : Low b) : fMinus (fPlus a b) b = a := by
  have a1 := ha.1
  have b1 := hb.1
  have hm : 0 < a.2 * b.2 := Int.mul_pos (by omega) (by omega)
  obtain ⟨e, hp⟩ := mk_val (a := a.1 * b.2 + b.1 * a.2) hm
  conv => rhs; rw [← mk_self ha]
  show mk ((mk (a.1 * b.2 + b.1 * a.2) (a.2 * b.2)).1 * b.2 - b.1 * (mk (a.1 * b.2 + b.1 * a.2) (a.2 * b.2)).2) ((mk (a.1 * b.2 + b.1 * a.2) (a.2 * b.2)).2 * b.2) = _
  generalize (mk (a.1 * b.2 + b.1 * a.2) (a.2 * b.2)).1 = x at e hp ⊢
  generalize (mk (a.1 * b.2 + b.1 * a.2) (a.2 * b.2)).2 = y at e hp ⊢
  refine mk_cross (Int.mul_pos hp (by omega)) (by omega) ?_
  have e2 : x * b.2 * a.2 = (a.1 * b.2 + b.1 * a.2) * y := by rw [← e]; ac_rfl
  rw [Int.sub_mul, e2, Int.add_mul]
  have : b.1 * y * a.2 = b.1 * a.2 * y := by ac_rfl
  rw [this, Int.add_sub_cancel]
  ac_rfl
theorem vec_plus_minus : ∀ {a b : List Fr}, a.length = b.length → (∀ p ∈ a, Low p) → (∀ p ∈ b, Low p) → vMinus (vPlus a b) b = a
  | [], b, h, _, _ => by cases b <;> rfl
  | x :: a, [], h, _, _ => by cases h
  | x :: a, y :: b, h, ha, hb => by
    have := vec_plus_minus (a := a) (b := b) (Nat.succ.inj h) (fun p hp => ha p (List.mem_cons_of_mem _ hp)) fun p hp => hb p (List.mem_cons_of_mem _ hp)
    show fMinus (fPlus x y) y :: vMinus (vPlus a b) b = _
    rw [this, plus_minus (ha x List.mem_cons_self) (hb y List.mem_cons_self)]
end Cl

set_option maxRecDepth 100000
set_option maxHeartbeats 4000000
namespace K11
open PySem PySem.Spec PyProof.Rows L2 Cl
def topS (i : Nat) : Stmt := PySem.Challenge.pw_cavelegs_k11_whole_vectors.main.body.getD i (.Pass ⟨0, 0, 0, 0⟩)
abbrev s_is_integer : Stmt := topS 2
theorem sc_is_integer : FnScope ["value"] ["value"] (defScope s_is_integer) := ⟨rfl, rfl, rfl, by decide +kernel, rfl, by decide +kernel, by decide +kernel⟩
abbrev s_is_within : Stmt := topS 3
theorem sc_is_within : FnScope ["value", "least", "most"] ["value", "least", "most"] (defScope s_is_within) := ⟨rfl, rfl, rfl, by decide +kernel, rfl, by decide +kernel, by decide +kernel⟩
abbrev s_fraction : Stmt := topS 13
theorem sc_fraction : FnScope ["above", "below", "shared"] ["above", "below"] (defScope s_fraction) := ⟨rfl, rfl, rfl, by decide +kernel, rfl, by decide +kernel, by decide +kernel⟩
abbrev s_added : Stmt := topS 14
theorem sc_added : FnScope ["a", "b"] ["a", "b"] (defScope s_added) := ⟨rfl, rfl, rfl, by decide +kernel, rfl, by decide +kernel, by decide +kernel⟩
abbrev s_taken : Stmt := topS 15
theorem sc_taken : FnScope ["a", "b"] ["a", "b"] (defScope s_taken) := ⟨rfl, rfl, rfl, by decide +kernel, rfl, by decide +kernel, by decide +kernel⟩
abbrev s_scaled : Stmt := topS 16
theorem sc_scaled : FnScope ["a", "b"] ["a", "b"] (defScope s_scaled) := ⟨rfl, rfl, rfl, by decide +kernel, rfl, by decide +kernel, by decide +kernel⟩
abbrev s_is_fraction : Stmt := topS 17
theorem sc_is_fraction : FnScope ["value"] ["value"] (defScope s_is_fraction) := ⟨rfl, rfl, rfl, by decide +kernel, rfl, by decide +kernel, by decide +kernel⟩
abbrev s_nought : Stmt := topS 20
theorem sc_nought : FnScope ["dims"] ["dims"] (defScope s_nought) := ⟨rfl, rfl, rfl, by decide +kernel, rfl, by decide +kernel, by decide +kernel⟩
abbrev s_joined : Stmt := topS 21
theorem sc_joined : FnScope ["a", "b", "one", "other"] ["a", "b"] (defScope s_joined) := ⟨rfl, rfl, rfl, by decide +kernel, rfl, by decide +kernel, by decide +kernel⟩
abbrev s_apart : Stmt := topS 22
theorem sc_apart : FnScope ["a", "b", "one", "other"] ["a", "b"] (defScope s_apart) := ⟨rfl, rfl, rfl, by decide +kernel, rfl, by decide +kernel, by decide +kernel⟩
abbrev s_stretched : Stmt := topS 23
theorem sc_stretched : FnScope ["a", "number", "one"] ["a", "number"] (defScope s_stretched) := ⟨rfl, rfl, rfl, by decide +kernel, rfl, by decide +kernel, by decide +kernel⟩
abbrev s_is_any_vector : Stmt := topS 24
theorem sc_is_any_vector : FnScope ["value", "one"] ["value"] (defScope s_is_any_vector) := ⟨rfl, rfl, rfl, by decide +kernel, rfl, by decide +kernel, by decide +kernel⟩
abbrev s_want_vector : Stmt := topS 25
theorem sc_want_vector : FnScope ["value"] ["value"] (defScope s_want_vector) := ⟨rfl, rfl, rfl, by decide +kernel, rfl, by decide +kernel, by decide +kernel⟩
abbrev s_want_alike : Stmt := topS 26
theorem sc_want_alike : FnScope ["vector", "other"] ["vector", "other"] (defScope s_want_alike) := ⟨rfl, rfl, rfl, by decide +kernel, rfl, by decide +kernel, by decide +kernel⟩
abbrev s_is_vector : Stmt := topS 27
theorem sc_is_vector : FnScope ["value"] ["value"] (defScope s_is_vector) := ⟨rfl, rfl, rfl, by decide +kernel, rfl, by decide +kernel, by decide +kernel⟩
abbrev s_nought_of : Stmt := topS 28
theorem sc_nought_of : FnScope ["dims"] ["dims"] (defScope s_nought_of) := ⟨rfl, rfl, rfl, by decide +kernel, rfl, by decide +kernel, by decide +kernel⟩
abbrev s_vector_sum : Stmt := topS 29
theorem sc_vector_sum : FnScope ["vector", "other"] ["vector", "other"] (defScope s_vector_sum) := ⟨rfl, rfl, rfl, by decide +kernel, rfl, by decide +kernel, by decide +kernel⟩
abbrev s_vector_less : Stmt := topS 30
theorem sc_vector_less : FnScope ["vector", "other"] ["vector", "other"] (defScope s_vector_less) := ⟨rfl, rfl, rfl, by decide +kernel, rfl, by decide +kernel, by decide +kernel⟩
abbrev s_vector_times : Stmt := topS 31
theorem sc_vector_times : FnScope ["vector", "a"] ["vector", "a"] (defScope s_vector_times) := ⟨rfl, rfl, rfl, by decide +kernel, rfl, by decide +kernel, by decide +kernel⟩
abbrev s_vector_of : Stmt := topS 32
theorem sc_vector_of : FnScope ["numbers", "one"] ["numbers"] (defScope s_vector_of) := ⟨rfl, rfl, rfl, by decide +kernel, rfl, by decide +kernel, by decide +kernel⟩
abbrev s__law_pot : Stmt := topS 34
theorem sc__law_pot : FnScope ["script", "k", "cell"] ["script", "k"] (defScope s__law_pot) := ⟨rfl, rfl, rfl, by decide +kernel, rfl, by decide +kernel, by decide +kernel⟩
abbrev s__law_draw : Stmt := topS 35
theorem sc__law_draw : FnScope ["pot", "many", "digit"] ["pot", "many"] (defScope s__law_draw) := ⟨rfl, rfl, rfl, by decide +kernel, rfl, by decide +kernel, by decide +kernel⟩
abbrev s__law_pick : Stmt := topS 36
theorem sc__law_pick : FnScope ["pot", "some"] ["pot", "some"] (defScope s__law_pick) := ⟨rfl, rfl, rfl, by decide +kernel, rfl, by decide +kernel, by decide +kernel⟩
abbrev s__law_frac : Stmt := topS 37
theorem sc__law_frac : FnScope ["above", "below", "a", "b"] ["above", "below"] (defScope s__law_frac) := ⟨rfl, rfl, rfl, by decide +kernel, rfl, by decide +kernel, by decide +kernel⟩
abbrev s__law_plus : Stmt := topS 38
theorem sc__law_plus : FnScope ["a", "b"] ["a", "b"] (defScope s__law_plus) := ⟨rfl, rfl, rfl, by decide +kernel, rfl, by decide +kernel, by decide +kernel⟩
abbrev s__law_minus : Stmt := topS 39
theorem sc__law_minus : FnScope ["a", "b"] ["a", "b"] (defScope s__law_minus) := ⟨rfl, rfl, rfl, by decide +kernel, rfl, by decide +kernel, by decide +kernel⟩
abbrev s__law_times : Stmt := topS 40
theorem sc__law_times : FnScope ["a", "b"] ["a", "b"] (defScope s__law_times) := ⟨rfl, rfl, rfl, by decide +kernel, rfl, by decide +kernel, by decide +kernel⟩
abbrev s__law_some : Stmt := topS 41
theorem sc__law_some : FnScope ["pot"] ["pot"] (defScope s__law_some) := ⟨rfl, rfl, rfl, by decide +kernel, rfl, by decide +kernel, by decide +kernel⟩
abbrev s__law_is_frac : Stmt := topS 42
theorem sc__law_is_frac : FnScope ["value", "one"] ["value"] (defScope s__law_is_frac) := ⟨rfl, rfl, rfl, by decide +kernel, rfl, by decide +kernel, by decide +kernel⟩
abbrev s__law_vsum : Stmt := topS 43
theorem sc__law_vsum : FnScope ["a", "b", "one", "other"] ["a", "b"] (defScope s__law_vsum) := ⟨rfl, rfl, rfl, by decide +kernel, rfl, by decide +kernel, by decide +kernel⟩
abbrev s__law_vless : Stmt := topS 44
theorem sc__law_vless : FnScope ["a", "b", "one", "other"] ["a", "b"] (defScope s__law_vless) := ⟨rfl, rfl, rfl, by decide +kernel, rfl, by decide +kernel, by decide +kernel⟩
abbrev s__law_vector : Stmt := topS 45
theorem sc__law_vector : FnScope ["pot", "dims", "at"] ["pot", "dims"] (defScope s__law_vector) := ⟨rfl, rfl, rfl, by decide +kernel, rfl, by decide +kernel, by decide +kernel⟩
abbrev s__law_is_vector : Stmt := topS 46
theorem sc__law_is_vector : FnScope ["value", "one"] ["value"] (defScope s__law_is_vector) := ⟨rfl, rfl, rfl, by decide +kernel, rfl, by decide +kernel, by decide +kernel⟩
abbrev s__law_bent : Stmt := topS 47
theorem sc__law_bent : FnScope ["pot", "value", "at", "above", "below", "odd", "some"] ["pot", "value"] (defScope s__law_bent) := ⟨rfl, rfl, rfl, by decide +kernel, rfl, by decide +kernel, by decide +kernel⟩
abbrev s__law_right : Stmt := topS 48
theorem sc__law_right : FnScope ["pot", "dims", "number", "one", "other", "whole", "due", "told", "named", "value", "is_one", "shown", "at", "part", "turn"] ["pot"] (defScope s__law_right) := ⟨rfl, rfl, rfl, by decide +kernel, rfl, by decide +kernel, by decide +kernel⟩
abbrev s_law : Stmt := topS 49
theorem sc_law : FnScope ["script", "k", "pot", "turn"] ["script"] (defScope s_law) := ⟨rfl, rfl, rfl, by decide +kernel, rfl, by decide +kernel, by decide +kernel⟩
structure Txt (K : PySem.W.Frag) (mg : Str → Option Value) where
  a_is_integer : Addr
  d_is_integer : FuncData
  F_is_integer : Fun K "is_integer" "is_integer" s_is_integer a_is_integer d_is_integer
  g_is_integer : mg "is_integer" = some (.ref a_is_integer)
  b_is_integer : L2.Binds K d_is_integer ["value"] []
  a_is_within : Addr
  d_is_within : FuncData
  F_is_within : Fun K "is_within" "is_within" s_is_within a_is_within d_is_within
  g_is_within : mg "is_within" = some (.ref a_is_within)
  b_is_within : L2.Binds K d_is_within ["value", "least", "most"] []
  a_fraction : Addr
  d_fraction : FuncData
  F_fraction : Fun K "fraction" "fraction" s_fraction a_fraction d_fraction
  g_fraction : mg "fraction" = some (.ref a_fraction)
  b_fraction : L2.Binds K d_fraction ["above", "below"] []
  a_added : Addr
  d_added : FuncData
  F_added : Fun K "added" "added" s_added a_added d_added
  g_added : mg "added" = some (.ref a_added)
  b_added : L2.Binds K d_added ["a", "b"] []
  a_taken : Addr
  d_taken : FuncData
  F_taken : Fun K "taken" "taken" s_taken a_taken d_taken
  g_taken : mg "taken" = some (.ref a_taken)
  b_taken : L2.Binds K d_taken ["a", "b"] []
  a_scaled : Addr
  d_scaled : FuncData
  F_scaled : Fun K "scaled" "scaled" s_scaled a_scaled d_scaled
  g_scaled : mg "scaled" = some (.ref a_scaled)
  b_scaled : L2.Binds K d_scaled ["a", "b"] []
  a_is_fraction : Addr
  d_is_fraction : FuncData
  F_is_fraction : Fun K "is_fraction" "is_fraction" s_is_fraction a_is_fraction d_is_fraction
  g_is_fraction : mg "is_fraction" = some (.ref a_is_fraction)
  b_is_fraction : L2.Binds K d_is_fraction ["value"] []
  a_nought : Addr
  d_nought : FuncData
  F_nought : Fun K "nought" "nought" s_nought a_nought d_nought
  g_nought : mg "nought" = some (.ref a_nought)
  b_nought : L2.Binds K d_nought ["dims"] []
  a_joined : Addr
  d_joined : FuncData
  F_joined : Fun K "joined" "joined" s_joined a_joined d_joined
  g_joined : mg "joined" = some (.ref a_joined)
  b_joined : L2.Binds K d_joined ["a", "b"] []
  a_apart : Addr
  d_apart : FuncData
  F_apart : Fun K "apart" "apart" s_apart a_apart d_apart
  g_apart : mg "apart" = some (.ref a_apart)
  b_apart : L2.Binds K d_apart ["a", "b"] []
  a_stretched : Addr
  d_stretched : FuncData
  F_stretched : Fun K "stretched" "stretched" s_stretched a_stretched d_stretched
  g_stretched : mg "stretched" = some (.ref a_stretched)
  b_stretched : L2.Binds K d_stretched ["a", "number"] []
  a_is_any_vector : Addr
  d_is_any_vector : FuncData
  F_is_any_vector : Fun K "is_any_vector" "is_any_vector" s_is_any_vector a_is_any_vector d_is_any_vector
  g_is_any_vector : mg "is_any_vector" = some (.ref a_is_any_vector)
  b_is_any_vector : L2.Binds K d_is_any_vector ["value"] []
  a_want_vector : Addr
  d_want_vector : FuncData
  F_want_vector : Fun K "want_vector" "want_vector" s_want_vector a_want_vector d_want_vector
  g_want_vector : mg "want_vector" = some (.ref a_want_vector)
  b_want_vector : L2.Binds K d_want_vector ["value"] []
  a_want_alike : Addr
  d_want_alike : FuncData
  F_want_alike : Fun K "want_alike" "want_alike" s_want_alike a_want_alike d_want_alike
  g_want_alike : mg "want_alike" = some (.ref a_want_alike)
  b_want_alike : L2.Binds K d_want_alike ["vector", "other"] []
  a_is_vector : Addr
  d_is_vector : FuncData
  F_is_vector : Fun K "is_vector" "is_vector" s_is_vector a_is_vector d_is_vector
  g_is_vector : mg "is_vector" = some (.ref a_is_vector)
  b_is_vector : L2.Binds K d_is_vector ["value"] []
  a_nought_of : Addr
  d_nought_of : FuncData
  F_nought_of : Fun K "nought_of" "nought_of" s_nought_of a_nought_of d_nought_of
  g_nought_of : mg "nought_of" = some (.ref a_nought_of)
  b_nought_of : L2.Binds K d_nought_of ["dims"] []
  a_vector_sum : Addr
  d_vector_sum : FuncData
  F_vector_sum : Fun K "vector_sum" "vector_sum" s_vector_sum a_vector_sum d_vector_sum
  g_vector_sum : mg "vector_sum" = some (.ref a_vector_sum)
  b_vector_sum : L2.Binds K d_vector_sum ["vector", "other"] []
  a_vector_less : Addr
  d_vector_less : FuncData
  F_vector_less : Fun K "vector_less" "vector_less" s_vector_less a_vector_less d_vector_less
  g_vector_less : mg "vector_less" = some (.ref a_vector_less)
  b_vector_less : L2.Binds K d_vector_less ["vector", "other"] []
  a_vector_times : Addr
  d_vector_times : FuncData
  F_vector_times : Fun K "vector_times" "vector_times" s_vector_times a_vector_times d_vector_times
  g_vector_times : mg "vector_times" = some (.ref a_vector_times)
  b_vector_times : L2.Binds K d_vector_times ["vector", "a"] []
  a_vector_of : Addr
  d_vector_of : FuncData
  F_vector_of : Fun K "vector_of" "vector_of" s_vector_of a_vector_of d_vector_of
  g_vector_of : mg "vector_of" = some (.ref a_vector_of)
  b_vector_of : L2.Binds K d_vector_of ["numbers"] []
  a__law_pot : Addr
  d__law_pot : FuncData
  F__law_pot : Fun K "_law_pot" "_law_pot" s__law_pot a__law_pot d__law_pot
  g__law_pot : mg "_law_pot" = some (.ref a__law_pot)
  b__law_pot : L2.Binds K d__law_pot ["script", "k"] []
  a__law_draw : Addr
  d__law_draw : FuncData
  F__law_draw : Fun K "_law_draw" "_law_draw" s__law_draw a__law_draw d__law_draw
  g__law_draw : mg "_law_draw" = some (.ref a__law_draw)
  b__law_draw : L2.Binds K d__law_draw ["pot", "many"] []
  a__law_pick : Addr
  d__law_pick : FuncData
  F__law_pick : Fun K "_law_pick" "_law_pick" s__law_pick a__law_pick d__law_pick
  g__law_pick : mg "_law_pick" = some (.ref a__law_pick)
  b__law_pick : L2.Binds K d__law_pick ["pot", "some"] []
  a__law_frac : Addr
  d__law_frac : FuncData
  F__law_frac : Fun K "_law_frac" "_law_frac" s__law_frac a__law_frac d__law_frac
  g__law_frac : mg "_law_frac" = some (.ref a__law_frac)
  b__law_frac : L2.Binds K d__law_frac ["above", "below"] []
  a__law_plus : Addr
  d__law_plus : FuncData
  F__law_plus : Fun K "_law_plus" "_law_plus" s__law_plus a__law_plus d__law_plus
  g__law_plus : mg "_law_plus" = some (.ref a__law_plus)
  b__law_plus : L2.Binds K d__law_plus ["a", "b"] []
  a__law_minus : Addr
  d__law_minus : FuncData
  F__law_minus : Fun K "_law_minus" "_law_minus" s__law_minus a__law_minus d__law_minus
  g__law_minus : mg "_law_minus" = some (.ref a__law_minus)
  b__law_minus : L2.Binds K d__law_minus ["a", "b"] []
  a__law_times : Addr
  d__law_times : FuncData
  F__law_times : Fun K "_law_times" "_law_times" s__law_times a__law_times d__law_times
  g__law_times : mg "_law_times" = some (.ref a__law_times)
  b__law_times : L2.Binds K d__law_times ["a", "b"] []
  a__law_some : Addr
  d__law_some : FuncData
  F__law_some : Fun K "_law_some" "_law_some" s__law_some a__law_some d__law_some
  g__law_some : mg "_law_some" = some (.ref a__law_some)
  b__law_some : L2.Binds K d__law_some ["pot"] []
  a__law_is_frac : Addr
  d__law_is_frac : FuncData
  F__law_is_frac : Fun K "_law_is_frac" "_law_is_frac" s__law_is_frac a__law_is_frac d__law_is_frac
  g__law_is_frac : mg "_law_is_frac" = some (.ref a__law_is_frac)
  b__law_is_frac : L2.Binds K d__law_is_frac ["value"] []
  a__law_vsum : Addr
  d__law_vsum : FuncData
  F__law_vsum : Fun K "_law_vsum" "_law_vsum" s__law_vsum a__law_vsum d__law_vsum
  g__law_vsum : mg "_law_vsum" = some (.ref a__law_vsum)
  b__law_vsum : L2.Binds K d__law_vsum ["a", "b"] []
  a__law_vless : Addr
  d__law_vless : FuncData
  F__law_vless : Fun K "_law_vless" "_law_vless" s__law_vless a__law_vless d__law_vless
  g__law_vless : mg "_law_vless" = some (.ref a__law_vless)
  b__law_vless : L2.Binds K d__law_vless ["a", "b"] []
  a__law_vector : Addr
  d__law_vector : FuncData
  F__law_vector : Fun K "_law_vector" "_law_vector" s__law_vector a__law_vector d__law_vector
  g__law_vector : mg "_law_vector" = some (.ref a__law_vector)
  b__law_vector : L2.Binds K d__law_vector ["pot", "dims"] []
  a__law_is_vector : Addr
  d__law_is_vector : FuncData
  F__law_is_vector : Fun K "_law_is_vector" "_law_is_vector" s__law_is_vector a__law_is_vector d__law_is_vector
  g__law_is_vector : mg "_law_is_vector" = some (.ref a__law_is_vector)
  b__law_is_vector : L2.Binds K d__law_is_vector ["value"] []
  a__law_bent : Addr
  d__law_bent : FuncData
  F__law_bent : Fun K "_law_bent" "_law_bent" s__law_bent a__law_bent d__law_bent
  g__law_bent : mg "_law_bent" = some (.ref a__law_bent)
  b__law_bent : L2.Binds K d__law_bent ["pot", "value"] []
  a__law_right : Addr
  d__law_right : FuncData
  F__law_right : Fun K "_law_right" "_law_right" s__law_right a__law_right d__law_right
  g__law_right : mg "_law_right" = some (.ref a__law_right)
  b__law_right : L2.Binds K d__law_right ["pot"] []
  a_law : Addr
  d_law : FuncData
  F_law : Fun K "law" "law" s_law a_law d_law
  g_law : mg "law" = some (.ref a_law)
  b_law : L2.Binds K d_law ["script"] []
  kb_vector_sum_other_vector : L2.KBinds K d_vector_sum ["vector", "other"] ["other", "vector"] (permK [1, 0] 2) (permK [1, 0] 2)
  kb_vector_less_other_vector : L2.KBinds K d_vector_less ["vector", "other"] ["other", "vector"] (permK [1, 0] 2) (permK [1, 0] 2)
  kb_vector_times_a_vector : L2.KBinds K d_vector_times ["vector", "a"] ["a", "vector"] (permK [1, 0] 2) (permK [1, 0] 2)
  kb_vector_of_numbers : L2.KBinds K d_vector_of ["numbers"] ["numbers"] (permK [0] 1) (permK [0] 1)
  kb_nought_of_dims : L2.KBinds K d_nought_of ["dims"] ["dims"] (permK [0] 1) (permK [0] 1)
  kb_is_vector_value : L2.KBinds K d_is_vector ["value"] ["value"] (permK [0] 1) (permK [0] 1)
  n_isinstance : mg "isinstance" = none
  n_int : mg "int" = none
  n_bool : mg "bool" = none
  n_tuple : mg "tuple" = none
  n_len : mg "len" = none
  n_zip : mg "zip" = none
  n_all : mg "all" = none
  n_list : mg "list" = none
  n_abs : mg "abs" = none
  n_max : mg "max" = none
  n_divmod : mg "divmod" = none
  n_range : mg "range" = none
  n_repr : mg "repr" = none
  n_min : mg "min" = none
  n_gcd : mg "gcd" = some (.builtin "math.gcd")
  c_NOUGHT : Konst K mg "NOUGHT" (fr (0, 1))
  c_MOST_DIMS : Konst K mg "MOST_DIMS" (.int 3)

theorem low01 : Low (0, 1) := ⟨by decide, by decide⟩
theorem bd01 : Bd 1 (0, 1) := ⟨by show (0 : Int).natAbs < 2 ^ 1; decide, by show (1 : Int).natAbs < 2 ^ 1; decide⟩
theorem map_true {α : Type} (l : List α) : l.map (fun _ => PyData.bool true) = (l.map fun _ => true).map .bool := by rw [List.map_map]; rfl
theorem all_true {α : Type} (l : List α) : (l.map fun _ => true).all id = true := by rw [List.all_map]; exact List.all_eq_true.mpr fun _ _ => rfl
theorem len_map {α : Type} {f : α → PyData} {l : List α} (h : l.length ≤ 1000) : (l.map f).length ≤ 1000000 := by rw [List.length_map]; omega
theorem len_map_lt {α : Type} {f : α → PyData} {l : List α} (h : l.length ≤ 1000) : (l.map f).length < 1000000 := by rw [List.length_map]; omega
/-- a fraction put at its place -/
def insW (s : List Fr) (x : Fr) : List Fr := s.take (s.filter fun y => !fLess x y).length ++ [x] ++ s.drop (s.filter fun y => !fLess x y).length
theorem insW_few {s : List Fr} {x : Fr} (h : s.length ≤ 1000) : ((s.filter fun y => !fLess x y).map fr).length ≤ 1000 := by
  have := List.length_filter_le (fun y => !fLess x y) s
  rw [List.length_map]
  omega
theorem len_rng {l : List PyData} (h : l.length ≤ 1000) : 0 ≤ (l.length : Int) ∧ (l.length : Int) < 2 ^ 63 := by omega
theorem insW_all {s : List Fr} {x : Fr} {Q : Fr → Prop} (h : ∀ p ∈ s, Q p) (hx : Q x) : ∀ p ∈ insW s x, Q p := fun p hp => by
  unfold insW at hp
  rcases List.mem_append.mp hp with hp | hp
  · rcases List.mem_append.mp hp with hp | hp
    · exact h p (List.mem_of_mem_take hp)
    · rw [List.mem_singleton.mp hp]
      exact hx
  · exact h p (List.mem_of_mem_drop hp)
theorem insW_length (s : List Fr) (x : Fr) : (insW s x).length = s.length + 1 := by
  unfold insW
  rw [List.length_append, List.length_append, List.length_take, List.length_drop, List.length_singleton]
  omega
theorem insW_len {s r : List Fr} {x : Fr} {n : Nat} (h : s.length + (x :: r).length ≤ n) : (insW s x).length + r.length ≤ n := by
  rw [insW_length]
  rw [List.length_cons] at h
  omega
theorem insW_map (s : List Fr) (x : Fr) : (insW s x).map fr = (s.map fr).take ((((s.filter fun y => !fLess x y).map fr).length : Int)).toNat ++ [fr x] ++ (s.map fr).drop ((((s.filter fun y => !fLess x y).map fr).length : Int)).toNat := by
  unfold insW
  rw [Int.toNat_natCast, List.length_map, List.map_append, List.map_append, List.map_take, List.map_drop]
  rfl
theorem insW_env {a b : Option Cell} {s : List Fr} {x : Fr} : ([a, b, some (Cell.own (.lst ((s.map fr).take ((((s.filter fun y => !fLess x y).map fr).length : Int)).toNat ++ [fr x] ++ (s.map fr).drop ((((s.filter fun y => !fLess x y).map fr).length : Int)).toNat))), none, none, none] : Rho) = [a, b, some (.own (.lst ((insW s x).map fr))), none, none, none] := by rw [insW_map]
theorem euclid_env {a b : Option Cell} (x y : Nat) : Out.nx [a, b, some (.dat (.int (y : Nat))), some (.dat (.int ((x : Int).fmod (y : Int))))] = Out.nx [a, b, some (.dat (.int (y : Nat))), some (.dat (.int ((x % y : Nat) : Int)))] := by rw [fmod_nat]

def dc : DC := ⟨40692, 9743, 2147483587, 2147483549, 17⟩
theorem dc_ok : DCOk dc := ⟨by decide, by decide, by decide, by decide⟩
def pot0 (ns : List Int) (k : Int) : Pot := (max 0 ((if decide (k < (ns.length : Int)) = true then ((ns.getD k.toNat 0).natAbs : Int) else 1097 * k + 83) - (10 : Int) ^ (18 : Int).toNat), (((if decide (k < (ns.length : Int)) = true then ((ns.getD k.toNat 0).natAbs : Int) else 1097 * k + 83).fmod 2147483549 * 40014 + 6661 * k + 769).fmod 2147483563) + 1)
theorem pot0_ok (ns : List Int) (k : Int) : PotOk (pot0 ns k) := by
  have h := fmod_rng (a := ((if decide (k < (ns.length : Int)) = true then ((ns.getD k.toNat 0).natAbs : Int) else 1097 * k + 83).fmod 2147483549 * 40014 + 6661 * k + 769)) (n := 2147483563) (by decide)
  refine ⟨Int.le_max_left _ _, ?_, ?_⟩
  · show 0 ≤ (((if decide (k < (ns.length : Int)) = true then ((ns.getD k.toNat 0).natAbs : Int) else 1097 * k + 83).fmod 2147483549 * 40014 + 6661 * k + 769).fmod 2147483563) + 1
    omega
  · show (((if decide (k < (ns.length : Int)) = true then ((ns.getD k.toNat 0).natAbs : Int) else 1097 * k + 83).fmod 2147483549 * 40014 + 6661 * k + 769).fmod 2147483563) + 1 < 4294967296
    omega

/-- a small fraction -/
def someF (p : Pot) : Pot × Fr := ((draw dc (draw dc p 25).1 7).1, mk ((draw dc p 25).2 - 12) (([1, 1, 1, 2, 3, 4, 6] : List Int).getD (draw dc (draw dc p 25).1 7).2.toNat 1))
theorem small_den {i : Int} (h0 : 0 ≤ i) (h1 : i < 7) : 1 ≤ ([1, 1, 1, 2, 3, 4, 6] : List Int).getD i.toNat 1 ∧ ([1, 1, 1, 2, 3, 4, 6] : List Int).getD i.toNat 1 ≤ 6 := by
  have h := getD_mem (xs := ([1, 1, 1, 2, 3, 4, 6] : List Int)) 1 h0 (by show i < 7; exact h1)
  have all : ∀ x ∈ ([1, 1, 1, 2, 3, 4, 6] : List Int), 1 ≤ x ∧ x ≤ 6 := by decide
  exact all _ h
theorem someF_ok {p : Pot} (hp : PotOk p) : PotOk (someF p).1 ∧ Low (someF p).2 ∧ Bd 5 (someF p).2 := by
  obtain ⟨a1, a2, a3⟩ := draw_ok dc_ok hp (n := 25) (by decide)
  obtain ⟨b1, b2, b3⟩ := draw_ok dc_ok a1 (n := 7) (by decide)
  obtain ⟨c1, c2⟩ := small_den b2 b3
  exact ⟨b1, mk_low (by omega), mk_bd (by omega) (by show Int.natAbs _ < 32; omega) (by show Int.natAbs _ < 32; omega)⟩

/-- numbers that are not too long -/
def Few (v : List Fr) : Prop := v.length ≤ 3 ∧ ∀ p ∈ v, Low p ∧ Bd 100 p
theorem few_zip {a b : List Fr} (h : a.length ≤ 3) : (a.zip b).length ≤ 3 := by rw [List.length_zip]; omega
theorem len_pair {a b : List Fr} (h : a.length ≤ 3) : (pairD (a.map fr) (b.map fr)).length ≤ 1000000 := by
  rw [pairD_map, List.length_map]
  have := few_zip (b := b) h
  omega
theorem all_isFr (l : List PyData) : (l.map fun x => PyData.bool (isFr x)) = (l.map isFr).map .bool := by rw [List.map_map]; rfl
theorem isV_out {l : List PyData} (h : ¬ (1 ≤ l.length ∧ l.length ≤ 3)) : isV (.tuple l) = false := by
  show ((decide (1 ≤ (l.length : Int)) && decide ((l.length : Int) ≤ 3)) && (l.map isFr).all id) = false
  by_cases h1 : 1 ≤ l.length
  · rw [decide_eq_false (p := (l.length : Int) ≤ 3) (by omega), Bool.and_false, Bool.false_and]
  · rw [decide_eq_false (p := 1 ≤ (l.length : Int)) (by omega), Bool.false_and, Bool.false_and]
theorem isV_in {l : List PyData} (h : ¬ (1 ≤ l.length ∧ l.length ≤ 3)) : (decide (1 ≤ (l.length : Int)) && decide ((l.length : Int) ≤ 3)) = false := by
  by_cases h1 : 1 ≤ l.length
  · rw [decide_eq_false (p := (l.length : Int) ≤ 3) (by omega), Bool.and_false]
  · rw [decide_eq_false (p := 1 ≤ (l.length : Int)) (by omega), Bool.false_and]

def wholes (ns : List Int) : List Fr := ns.map fun i => (i, 1)
theorem wholes_eq {ns : List Int} : PyData.tuple (ns.map fun i => .tuple [.int i, .int 1]) = vec (wholes ns) := by
  unfold vec wholes
  rw [List.map_map]
  rfl
theorem wholes_in {ns : List Int} (h1 : 1 ≤ ns.length) (h2 : ns.length ≤ 3) : (decide (1 ≤ ((ns.map PyData.int).length : Int)) && decide (((ns.map PyData.int).length : Int) ≤ 3)) = true := by
  rw [List.length_map, decide_eq_true (by omega), decide_eq_true (by omega)]
  rfl

/-- what may stand within a value -/
def Sm (y : PyData) : Prop := (∀ a b, y = .tuple [.int a, .int b] → Bits 3000 b) ∧ okD 3 y ∧ nod y ≤ 10
def SmV (x : PyData) : Prop := ∀ l, x = .tuple l → ∀ y ∈ l, Sm y
def Okv (x : PyData) : Prop := SmV x ∧ Showy2 x
theorem isI_map (l : List PyData) : (l.map fun x => PyData.bool (isI x)) = (l.map isI).map .bool := by rw [List.map_map]; rfl
theorem bitsS2 {a : Int} {m : Nat} (h : a.natAbs < 2 ^ m) : Bits m a := h
theorem frac_pos {a b : Int} (h : ¬ 0 < b) : isFr (.tuple [.int a, .int b]) = false := by
  show (decide (1 ≤ b) && decide (((Nat.gcd a.natAbs b.natAbs : Nat) : Int) = 1)) = false
  rw [decide_eq_false (by omega), Bool.false_and]
theorem sm_fr {p : Fr} (h : Bd 100 p) : Sm (fr p) := ⟨fun a b e => by
  cases e
  exact bits_up h.2 (by decide), fr_ok (h.up (by decide)), by rw [nod_fr]; decide⟩
theorem bits_dbl {a : Int} (h : Bits 100 a) : Bits 200 (2 * a + 2) := by
  have h1 : a.natAbs < 2 ^ 100 := h
  show (2 * a + 2).natAbs < 2 ^ 200
  omega
theorem bits_neg {a : Int} (h : Bits 100 a) : Bits 200 (0 - a) := by
  have h1 : a.natAbs < 2 ^ 100 := h
  show (0 - a).natAbs < 2 ^ 200
  omega
theorem oki {n : Nat} {a : Int} (h : Bits 1900 a) : okD n (.int a) := by
  cases n <;> exact Cl.log2_small h
theorem two_sm {a b : Int} (h1 : Bits 200 a) (h2 : Bits 200 b) : Sm (.tuple [.int a, .int b]) := ⟨fun x y e => by
  cases e
  exact bits_up h2 (by decide), okt (okc (oki (bits_up h1 (by decide))) (okc (oki (bits_up h2 (by decide))) okn)), by simp [nod, nodA]⟩
def odds (x : Fr) : List PyData := [.none, .int 0, .tuple [.int (2 * x.1 + 2), .int (2 * x.2 + 2)], .tuple [.int x.1, .int (0 - x.2)], .list [.int x.1, .int x.2], .tuple [.int x.1], .tuple [.int x.1, .int x.2, .int 1], .tuple [.bool true, .int 1], .tuple [.int 0, .int 2], .tuple [.int x.1, .none], .str "1/2"]
theorem odds_ok {x : Fr} (h : Bd 100 x) : ∀ y ∈ odds x, Sm y := by
  have h1 := bits_up h.1 (show 100 ≤ 1900 by decide)
  have h2 := bits_up h.2 (show 100 ≤ 1900 by decide)
  have one : Bits 1900 (1 : Int) := bitsS (by decide)
  intro y hy
  simp only [odds, List.mem_cons, List.not_mem_nil, or_false] at hy
  rcases hy with rfl | rfl | rfl | rfl | rfl | rfl | rfl | rfl | rfl | rfl | rfl
  · exact ⟨fun _ _ e => (nomatch e), trivial, by simp [nod]⟩
  · exact ⟨fun _ _ e => (nomatch e), oki (bitsS (by decide)), by simp [nod]⟩
  · exact two_sm (bits_dbl h.1) (bits_dbl h.2)
  · exact two_sm (bits_up h.1 (by decide)) (bits_neg h.2)
  · exact ⟨fun _ _ e => (nomatch e), okl (okc (oki h1) (okc (oki h2) okn)), by simp [nod, nodA]⟩
  · exact ⟨fun _ _ e => (nomatch e), okt (okc (oki h1) okn), by simp [nod, nodA]⟩
  · exact ⟨fun _ _ e => (nomatch e), okt (okc (oki h1) (okc (oki h2) (okc (oki one) okn))), by simp [nod, nodA]⟩
  · exact ⟨fun _ _ e => (nomatch e), okt (okc okb (okc (oki one) okn)), by simp [nod, nodA]⟩
  · exact two_sm (bitsS (by decide)) (bitsS (by decide))
  · exact ⟨fun _ _ e => (nomatch e), okt (okc (oki h1) (okc (show okD 2 .none from trivial) okn)), by simp [nod, nodA]⟩
  · exact ⟨fun _ _ e => (nomatch e), by show (reprText "1/2").length ≤ 1900; decide +kernel, by simp [nod]⟩
def kinds (v : List Fr) (i : Int) (odd : PyData) : List PyData := [.list (v.map fr), .tuple (v.map fr ++ v.map fr), .tuple [], .none, .dict [], .int 0,
  .tuple (cutD (v.map fr) none (some i) ++ [odd] ++ cutD (v.map fr) (some (i + 1)) none), .tuple (cutD (v.map fr) none (some i) ++ [odd] ++ cutD (v.map fr) (some (i + 1)) none)]
theorem okv_tuple {l : List PyData} (h : ∀ y ∈ l, Sm y) (hl : l.length ≤ 10) : Okv (.tuple l) := by
  refine ⟨fun l2 e => by cases e; exact h, ?_⟩
  have n := nodA_le (k := 10) fun y hy => (h y hy).2.2
  exact showy (n := 4) (okt fun y hy => (h y hy).2.1) (by decide) (by show 1 + nodA l ≤ 8000; omega)
theorem okv_list {l : List PyData} (h : ∀ y ∈ l, Sm y) (hl : l.length ≤ 10) : Okv (.list l) := by
  refine ⟨fun l2 e => (nomatch e), ?_⟩
  have n := nodA_le (k := 10) fun y hy => (h y hy).2.2
  exact showy (n := 4) (okl fun y hy => (h y hy).2.1) (by decide) (by show 1 + nodA l ≤ 8000; omega)
theorem sm_v {v : List Fr} (h : Few v) : ∀ y ∈ v.map fr, Sm y := fun y hy => by
  obtain ⟨p, hp, rfl⟩ := List.mem_map.mp hy
  exact sm_fr (h.2 p hp).2
theorem kinds_ok {v : List Fr} {i : Int} {odd : PyData} (h : Few v) (ho : Sm odd) : ∀ y ∈ kinds v i odd, Okv y := by
  have hv := sm_v h
  have ln : (v.map fr).length ≤ 3 := by rw [List.length_map]; exact h.1
  have cut : Okv (.tuple (cutD (v.map fr) none (some i) ++ [odd] ++ cutD (v.map fr) (some (i + 1)) none)) := by
    refine okv_tuple (fun y hy => ?_) ?_
    · rcases List.mem_append.mp hy with hy | hy
      · rcases List.mem_append.mp hy with hy | hy
        · exact hv y (cutD_mem hy)
        · rw [List.mem_singleton.mp hy]
          exact ho
      · exact hv y (cutD_mem hy)
    · have a := cutD_len (ds := v.map fr) (m := none) (n := some i)
      have b := cutD_len (ds := v.map fr) (m := some (i + 1)) (n := none)
      rw [List.length_append, List.length_append, List.length_singleton]
      omega
  intro y hy
  simp only [kinds, List.mem_cons, List.not_mem_nil, or_false] at hy
  rcases hy with rfl | rfl | rfl | rfl | rfl | rfl | rfl | rfl
  · exact okv_list hv (by omega)
  · exact okv_tuple (fun y hy => (List.mem_append.mp hy).elim (hv y) (hv y)) (by rw [List.length_append]; omega)
  · exact okv_tuple (fun y hy => nomatch hy) (by decide)
  · exact ⟨fun _ e => (nomatch e), trivial⟩
  · exact ⟨fun _ e => (nomatch e), rfl⟩
  · exact ⟨fun _ e => (nomatch e), Cl.log2_small (bitsS (by decide))⟩
  · exact cut
  · exact cut
def bA (p : Pot) (v : List Fr) : Pot × Int := draw dc p (v.length : Int)
def bX (p : Pot) (v : List Fr) : Fr := v.getD (bA p v).2.toNat (0, 1)
def bB (p : Pot) (v : List Fr) : Pot × Int := draw dc (bA p v).1 11
def bO (p : Pot) (v : List Fr) : PyData := (odds (bX p v)).getD (bB p v).2.toNat .none
def bC (p : Pot) (v : List Fr) : Pot × Int := draw dc (bB p v).1 8
def bentV (p : Pot) (v : List Fr) : Pot × PyData := ((bC p v).1, (kinds v (bA p v).2 (bO p v)).getD (bC p v).2.toNat .none)
theorem getD_memD {xs : List PyData} {i : Int} (h0 : 0 ≤ i) (h1 : i < xs.length) : xs.getD i.toNat .none ∈ xs := getD_mem .none h0 h1
structure BentOk (p : Pot) (v : List Fr) : Prop where
  pa : PotOk (bA p v).1
  a0 : 0 ≤ (bA p v).2
  a1 : (bA p v).2 < (v.length : Int)
  x : Bd 100 (bX p v)
  pb : PotOk (bB p v).1
  b0 : 0 ≤ (bB p v).2
  b1 : (bB p v).2 < 11
  pc : PotOk (bC p v).1
  c0 : 0 ≤ (bC p v).2
  c1 : (bC p v).2 < 8
  ok : Okv (bentV p v).2
theorem bent_ok {p : Pot} {v : List Fr} (hp : PotOk p) (hv : Few v) (h1 : 1 ≤ v.length) : BentOk p v := by
  obtain ⟨a1, a2, a3⟩ := draw_ok dc_ok hp (n := (v.length : Int)) (by omega)
  obtain ⟨b1, b2, b3⟩ := draw_ok dc_ok (p := (bA p v).1) a1 (n := 11) (by decide)
  obtain ⟨c1, c2, c3⟩ := draw_ok dc_ok (p := (bB p v).1) b1 (n := 8) (by decide)
  have hx : Bd 100 (bX p v) := (hv.2 _ (getD_mem (0, 1) a2 a3)).2
  exact ⟨a1, a2, a3, hx, b1, b2, b3, c1, c2, c3, kinds_ok hv (odds_ok hx _ (getD_memD b2 b3)) _ (getD_memD c2 c3)⟩
def vecF (b : Pot) (_ : Nat) : Pot × Fr := someF b
def vecP (p : Pot) (n : Int) : Pot × List Fr := (endT vecF p (List.range n.toNat), runT vecF p (List.range n.toNat))
theorem vecP_ok {p : Pot} {n : Int} (hp : PotOk p) (h0 : 1 ≤ n) (h1 : n ≤ 3) : PotOk (vecP p n).1 ∧ Few (vecP p n).2 ∧ (vecP p n).2.length = n.toNat ∧ ∀ y ∈ (vecP p n).2, Bd 5 y := by
  obtain ⟨b1, b2⟩ := runT_all (f := vecF) (I := PotOk) (Q := fun y => Low y ∧ Bd 5 y) (fun b _ hb => someF_ok hb) (List.range n.toNat) _ hp
  have hl : (vecP p n).2.length = n.toNat := by
    show (runT _ _ _).length = _
    rw [runT_len, List.length_range]
  exact ⟨b1, ⟨by omega, fun y hy => ⟨(b2 y hy).1, (b2 y hy).2.up (by decide)⟩⟩, hl, fun y hy => (b2 y hy).2⟩

theorem or_ff {a b : Bool} (h1 : a = false) (h2 : b = false) : (a || b) = false := by rw [h1, h2]; rfl
theorem sames (a : Str) : (!decide (a = a)) = false := by simp
def rD (p : Pot) : Pot × Int := draw dc p 3
def rN (p : Pot) : Pot × Fr := someF (rD p).1
def rO (p : Pot) : Pot × List Fr := vecP (rN p).1 (1 + (rD p).2)
def rT (p : Pot) : Pot × List Fr := vecP (rO p).1 (1 + (rD p).2)
def whF (b : Pot) (_ : Nat) : Pot × Int := ((draw dc b 2001).1, (draw dc b 2001).2 - 1000)
def rW (p : Pot) : Pot × List Int := (endT whF (rT p).1 (List.range (1 + (rD p).2).toNat), runT whF (rT p).1 (List.range (1 + (rD p).2).toNat))
def bentF (v : List Fr) (b : Pot) (_ : Nat) : Pot × PyData := bentV b v
def rightP (p : Pot) : Pot := endL (bentF (rO p).2) (rW p).1 (List.range (Int.toNat 8))
def dueL (p : Pot) : List PyData := [vec (vPlus (rO p).2 (rT p).2), vec (vMinus (rO p).2 (rT p).2), vec (vTimes (rO p).2 (rN p).2), vec (wholes (rW p).2), vec (List.replicate (1 + (rD p).2).toNat (0, 1))]
theorem showV {n : Nat} {v : List Fr} (h : Few v) : okD (n + 2) (vec v) := okt (okm fun x hx => fr_ok ((h.2 x hx).2.up (by decide)))
theorem nodV {v : List Fr} (h : Few v) : nod (vec v) ≤ 10 := by
  have := nod_map (f := fr) (k := 3) (fun p => Nat.le_of_eq (nod_fr p)) v
  have h1 := h.1
  show 1 + nodA (v.map fr) ≤ 10
  omega
theorem few_zipF {f : Fr → Fr → Fr} {a b : List Fr} (hf : ∀ x y, Low x → Low y → Bd 5 x → Bd 5 y → Low (f x y) ∧ Bd 100 (f x y)) (h : a.length ≤ 3) (ha : ∀ x ∈ a, Low x ∧ Bd 5 x) (hb : ∀ x ∈ b, Low x ∧ Bd 5 x) : Few ((a.zip b).map fun p => f p.1 p.2) := by
  refine ⟨by rw [List.length_map]; exact few_zip h, fun y hy => ?_⟩
  obtain ⟨x, hx, rfl⟩ := List.mem_map.mp hy
  have m := mem_zip hx
  exact hf _ _ (ha _ m.1).1 (hb _ m.2).1 (ha _ m.1).2 (hb _ m.2).2
structure RightOk (p : Pot) : Prop where
  d : PotOk (rD p).1
  d0 : 0 ≤ (rD p).2
  d1 : (rD p).2 < 3
  n : PotOk (rN p).1
  nl : Low (rN p).2
  nb : Bd 100 (rN p).2
  o : PotOk (rO p).1
  fo : Few (rO p).2
  o1 : 1 ≤ (rO p).2.length
  t : PotOk (rT p).1
  ft : Few (rT p).2
  len : (rO p).2.length = (rT p).2.length
  w : PotOk (rW p).1
  w1 : 1 ≤ (rW p).2.length
  w3 : (rW p).2.length ≤ 3
  fS : Few (vPlus (rO p).2 (rT p).2)
  fS1 : (vPlus (rO p).2 (rT p).2).length = (rT p).2.length
  fM : Few (vMinus (rO p).2 (rT p).2)
  fT : Few (vTimes (rO p).2 (rN p).2)
  fW : Few (wholes (rW p).2)
  fZ : Few (List.replicate (1 + (rD p).2).toNat (0, 1))
  sh : Showy (.list [.list (dueL p), .list (dueL p)])
  ok : ∀ x ∈ [vec (rO p).2, .tuple ((List.replicate (Int.toNat 4) (0, 1)).map fr)] ++ runL (bentF (rO p).2) (rW p).1 (List.range (Int.toNat 8)), Okv x
  e : PotOk (rightP p)
theorem right_ok {p : Pot} (hp : PotOk p) : RightOk p := by
  obtain ⟨a1, a2, a3⟩ := draw_ok dc_ok hp (n := 3) (by decide)
  have d1 : PotOk (rD p).1 := a1
  have d2 : 0 ≤ (rD p).2 := a2
  have d3 : (rD p).2 < 3 := a3
  obtain ⟨n1, n2, n3⟩ := someF_ok d1
  obtain ⟨o1, o2, o3, o4⟩ := vecP_ok (n := 1 + (rD p).2) (p := (rN p).1) n1 (by omega) (by omega)
  obtain ⟨t1, t2, t3, t4⟩ := vecP_ok (n := 1 + (rD p).2) (p := (rO p).1) o1 (by omega) (by omega)
  obtain ⟨w1, w2⟩ := runT_all (f := whF) (I := PotOk) (Q := fun y => -1001 ≤ y ∧ y ≤ 1001) (fun b _ hb => by
    obtain ⟨b1, b2, b3⟩ := draw_ok dc_ok hb (n := 2001) (by decide)
    refine ⟨b1, ?_⟩
    show -1001 ≤ (draw dc b 2001).2 - 1000 ∧ (draw dc b 2001).2 - 1000 ≤ 1001
    omega) (List.range (1 + (rD p).2).toNat) _ t1
  have wl : (rW p).2.length = (1 + (rD p).2).toNat := by
    show (runT _ _ _).length = _
    rw [runT_len, List.length_range]
  have lo : (rO p).2.length = (1 + (rD p).2).toNat := o3
  have lt : (rT p).2.length = (1 + (rD p).2).toNat := t3
  have po : ∀ x ∈ (rO p).2, Low x ∧ Bd 5 x := fun x hx => ⟨(o2.2 x hx).1, o4 x hx⟩
  have pt : ∀ x ∈ (rT p).2, Low x ∧ Bd 5 x := fun x hx => ⟨(t2.2 x hx).1, t4 x hx⟩
  have nb : Bd 5 (rN p).2 := n3
  have fS : Few (vPlus (rO p).2 (rT p).2) := few_zipF (f := fPlus) (fun x y lx ly bx bY => ⟨fPlus_low lx ly, (fPlus_bd lx ly bx bY).up (by decide)⟩) o2.1 po pt
  have fM : Few (vMinus (rO p).2 (rT p).2) := few_zipF (f := fMinus) (fun x y lx ly bx bY => ⟨fMinus_low lx ly, (fMinus_bd lx ly bx bY).up (by decide)⟩) o2.1 po pt
  have fT : Few (vTimes (rO p).2 (rN p).2) := by
    refine ⟨by unfold vTimes; rw [List.length_map]; exact o2.1, fun y hy => ?_⟩
    obtain ⟨x, hx, rfl⟩ := List.mem_map.mp hy
    exact ⟨fTimes_low (po x hx).1 n2, (fTimes_bd (po x hx).1 n2 (po x hx).2 nb).up (by decide)⟩
  have fW : Few (wholes (rW p).2) := by
    refine ⟨by unfold wholes; rw [List.length_map, wl]; omega, fun y hy => ?_⟩
    obtain ⟨x, hx, rfl⟩ := List.mem_map.mp hy
    have := w2 x hx
    exact ⟨⟨Int.le_refl 1, Nat.gcd_one_right _⟩, bitsS (by show -(2 ^ 64) < x ∧ x < 2 ^ 64; omega), bitsS (by show -(2 ^ 64) < (1 : Int) ∧ (1 : Int) < 2 ^ 64; decide)⟩
  have fZ : Few (List.replicate (1 + (rD p).2).toNat (0, 1)) := by
    refine ⟨by rw [List.length_replicate]; omega, fun y hy => ?_⟩
    rw [List.eq_of_mem_replicate hy]
    exact ⟨low01, bd01.up (by decide)⟩
  have sh : Showy (.list [.list (dueL p), .list (dueL p)]) := by
    have h : ∀ y ∈ dueL p, okD 3 y := okc (showV fS) (okc (showV fM) (okc (showV fT) (okc (showV fW) (okc (showV fZ) okn))))
    refine showy (n := 5) (okl (okc (okl h) (okc (okl h) okn))) (by decide) ?_
    have := nodV fS
    have := nodV fM
    have := nodV fT
    have := nodV fW
    have := nodV fZ
    simp only [nod, nodA, dueL]
    omega
  obtain ⟨e1, e2⟩ := runL_all (f := bentF (rO p).2) (I := PotOk) (Q := Okv) (fun b _ hb => ⟨(bent_ok hb o2 (by omega)).pc, (bent_ok hb o2 (by omega)).ok⟩) (List.range (Int.toNat 8)) (rW p).1 w1
  refine ⟨d1, d2, d3, n1, n2, nb.up (by decide), o1, o2, by omega, t1, t2, by omega, w1, by omega, by omega, fS, ?_, fM, fT, fW, fZ, sh, fun x hx => ?_, e1⟩
  · unfold vPlus
    rw [List.length_map, List.length_zip]
    omega
  · rcases List.mem_append.mp hx with hx | hx
    · rcases List.mem_cons.mp hx with rfl | hx
      · exact okv_tuple (sm_v o2) (by rw [List.length_map]; have := o2.1; omega)
      · rw [List.mem_singleton.mp hx]
        refine okv_tuple (fun y hy => ?_) (by decide)
        obtain ⟨q, hq, rfl⟩ := List.mem_map.mp hy
        rw [List.eq_of_mem_replicate hq]
        exact sm_fr (bd01.up (by decide))
    · exact e2 x hx

section
variable {P : Program} {w : World} {K : PySem.W.Frag} {mg : Str → Option Value} {base : Heap}

def R_is_integer (ds : List PyData) (d : PyData) : Prop := ∃ x, ds = [x] ∧ d = .bool (isName x "int" && !isName x "bool")
theorem ok_is_integer (T : Txt K mg) : FnG P w K mg base CX0 1 T.a_is_integer T.d_is_integer ["value"] (spOf K (pureS R_is_integer)) := by
  refine fn_pure T.F_is_integer sc_is_integer (by rintro _ _ ⟨x, rfl, _⟩; rfl) fun cdv A outer s H E room grd ds d hR => ?_
  obtain ⟨x, rfl, rfl⟩ := hR
  exact (
    (ss_one (s_ret (e_conv (e_and (e_isi1 (by rfl) T.n_isinstance (pe_bltn (by rfl) T.n_int (by decide +kernel) rfl) kit_int (e_var 0 rfl rfl (.inl rfl))) fun hw => (e_one (e_not (e_isi1 (by rfl) T.n_isinstance (pe_bltn (by rfl) T.n_bool (by decide +kernel) rfl) kit_bool (e_var 0 rfl rfl (.inl rfl)))))) rfl))))

def R_is_within (ds : List PyData) (d : PyData) : Prop := ∃ v a b : Int, ds = [.int v, .int a, .int b] ∧ d = .bool (decide (a ≤ v) && decide (v ≤ b))
theorem ok_is_within (T : Txt K mg) : FnG P w K mg base CX0 2 T.a_is_within T.d_is_within ["value", "least", "most"] (spOf K (pureS R_is_within)) := by
  have G_is_integer := (ok_is_integer (P := P) (w := w) (base := base) T).mono (by decide : 1 ≤ 1)
  refine fn_pure T.F_is_within sc_is_within (by rintro _ _ ⟨_, _, _, rfl, _⟩; rfl) fun cdv A outer s H E room grd ds d hR => ?_
  obtain ⟨v, a, b, rfl, rfl⟩ := hR
  exact (
    (ss_one (s_ret (e_conv (e_and (e_call G_is_integer room grd (by rfl) T.g_is_integer T.F_is_integer.kp T.b_is_integer (a_cons (e_var 0 rfl rfl (.inl rfl)) a_nil) (⟨_, rfl, rfl⟩)) fun hw => (e_one (e_chain c_le c_le (e_var 1 rfl rfl (.inl rfl)) (e_var 0 rfl rfl (.inl rfl)) (e_var 2 rfl rfl (.inl rfl))))) rfl))))

def R_fraction (ds : List PyData) (d : PyData) : Prop := ∃ a b : Int, b ≠ 0 ∧ Bits 3000 b ∧ ds = [.int a, .int b] ∧ d = fr (mk a b)
theorem ok_fraction (T : Txt K mg) : FnG P w K mg base CX0 1 T.a_fraction T.d_fraction ["above", "below"] (spOf K (pureS R_fraction)) := by
  refine fn_pure T.F_fraction sc_fraction (by rintro _ _ ⟨a, b, _, _, rfl, _⟩; rfl) fun cdv A outer s H E room grd ds d hR => ?_
  obtain ⟨a, b, hb, hs, rfl, rfl⟩ := hR
  have g0 := gi_pos (a := a) hb
  have g1 := gi_bits (a := a) hb hs
  exact (
    (ss_cons (s_set 2 (e_bf f_gcd (by rfl) T.n_gcd (a_cons (e_var 0 rfl rfl (.inl rfl)) (a_cons (e_var 1 rfl rfl (.inl rfl)) a_nil))) sc_fraction.nd rfl (.inl rfl))
    (ss_split (t_cm c_lt (e_var 1 rfl rfl (.inl rfl)) e_int (nomark _))
    (fun h0 ch0 => (ss_cons (s_ifT ch0 (
      (ss_one (s_set 2 (e_sub e_int (e_var 2 rfl rfl (.inl rfl))) sc_fraction.nd rfl (.inl rfl)))))
      (ss_one (s_ret (e_conv (e_tup (a_cons (e_fdivX (by first | exact divX (n := 3000) (gi_ne2 (a := a) hb) (gi_bits2 (a := a) hb hs) (by decide) | exact divX (n := 3000) (gi_ne (a := a) hb) g1 (by decide)) (e_var 0 rfl rfl (.inl rfl)) (e_var 2 rfl rfl (.inl rfl))) (a_cons (e_fdivX (by first | exact divX (n := 3000) (gi_ne2 (a := a) hb) (gi_bits2 (a := a) hb hs) (by decide) | exact divX (n := 3000) (gi_ne (a := a) hb) g1 (by decide)) (e_var 1 rfl rfl (.inl rfl)) (e_var 2 rfl rfl (.inl rfl))) a_nil))) (by first | exact (mk_frT (of_decide_eq_true (by assumption))).symm | exact (mk_frF (of_decide_eq_false (by assumption))).symm))))))
    (fun h0 ch0 => (ss_cons (s_ifF ch0 (
      ss_nil))
      (ss_one (s_ret (e_conv (e_tup (a_cons (e_fdivX (by first | exact divX (n := 3000) (gi_ne2 (a := a) hb) (gi_bits2 (a := a) hb hs) (by decide) | exact divX (n := 3000) (gi_ne (a := a) hb) g1 (by decide)) (e_var 0 rfl rfl (.inl rfl)) (e_var 2 rfl rfl (.inl rfl))) (a_cons (e_fdivX (by first | exact divX (n := 3000) (gi_ne2 (a := a) hb) (gi_bits2 (a := a) hb hs) (by decide) | exact divX (n := 3000) (gi_ne (a := a) hb) g1 (by decide)) (e_var 1 rfl rfl (.inl rfl)) (e_var 2 rfl rfl (.inl rfl))) a_nil))) (by first | exact (mk_frT (of_decide_eq_true (by assumption))).symm | exact (mk_frF (of_decide_eq_false (by assumption))).symm)))))))))

def R_added (ds : List PyData) (d : PyData) : Prop := ∃ a b : Fr, Low a ∧ Low b ∧ Bd 1400 a ∧ Bd 1400 b ∧ ds = [fr a, fr b] ∧ d = fr (fPlus a b)
theorem ok_added (T : Txt K mg) : FnG P w K mg base CX0 2 T.a_added T.d_added ["a", "b"] (spOf K (pureS R_added)) := by
  have G_fraction := (ok_fraction (P := P) (w := w) (base := base) T).mono (by decide : 1 ≤ 1)
  refine fn_pure T.F_added sc_added (by rintro _ _ ⟨a, b, _, _, _, _, rfl, _⟩; rfl) fun cdv A outer s H E room grd ds d hR => ?_
  obtain ⟨a, b, la, lb, ba, bb, rfl, rfl⟩ := hR
  exact (
    (ss_one (s_ret (e_conv (e_call G_fraction room grd (by rfl) T.g_fraction T.F_fraction.kp T.b_fraction (a_cons (e_add (e_mul (by first | exact mulW ba.1 bb.2 (by decide) | exact mulW bb.1 ba.2 (by decide) | exact mulW ba.2 bb.2 (by decide) | exact mulW ba.1 bb.1 (by decide) | exact mulW ba.2 bb.1 (by decide)) (e_ixT (e_var 0 rfl rfl (.inl rfl)) e_int rfl) (e_ixT (e_var 1 rfl rfl (.inl rfl)) e_int rfl)) (e_mul (by first | exact mulW ba.1 bb.2 (by decide) | exact mulW bb.1 ba.2 (by decide) | exact mulW ba.2 bb.2 (by decide) | exact mulW ba.1 bb.1 (by decide) | exact mulW ba.2 bb.1 (by decide)) (e_ixT (e_var 1 rfl rfl (.inl rfl)) e_int rfl) (e_ixT (e_var 0 rfl rfl (.inl rfl)) e_int rfl))) (a_cons (e_mul (by first | exact mulW ba.1 bb.2 (by decide) | exact mulW bb.1 ba.2 (by decide) | exact mulW ba.2 bb.2 (by decide) | exact mulW ba.1 bb.1 (by decide) | exact mulW ba.2 bb.1 (by decide)) (e_ixT (e_var 0 rfl rfl (.inl rfl)) e_int rfl) (e_ixT (e_var 1 rfl rfl (.inl rfl)) e_int rfl)) a_nil)) (⟨_, _, mul_ne la.ne lb.ne, bits_up (mul_bits ba.2 bb.2) (by decide), rfl, rfl⟩)) rfl))))

def R_taken (ds : List PyData) (d : PyData) : Prop := ∃ a b : Fr, Low a ∧ Low b ∧ Bd 1400 a ∧ Bd 1400 b ∧ ds = [fr a, fr b] ∧ d = fr (fMinus a b)
theorem ok_taken (T : Txt K mg) : FnG P w K mg base CX0 2 T.a_taken T.d_taken ["a", "b"] (spOf K (pureS R_taken)) := by
  have G_fraction := (ok_fraction (P := P) (w := w) (base := base) T).mono (by decide : 1 ≤ 1)
  refine fn_pure T.F_taken sc_taken (by rintro _ _ ⟨a, b, _, _, _, _, rfl, _⟩; rfl) fun cdv A outer s H E room grd ds d hR => ?_
  obtain ⟨a, b, la, lb, ba, bb, rfl, rfl⟩ := hR
  exact (
    (ss_one (s_ret (e_conv (e_call G_fraction room grd (by rfl) T.g_fraction T.F_fraction.kp T.b_fraction (a_cons (e_sub (e_mul (by first | exact mulW ba.1 bb.2 (by decide) | exact mulW bb.1 ba.2 (by decide) | exact mulW ba.2 bb.2 (by decide) | exact mulW ba.1 bb.1 (by decide) | exact mulW ba.2 bb.1 (by decide)) (e_ixT (e_var 0 rfl rfl (.inl rfl)) e_int rfl) (e_ixT (e_var 1 rfl rfl (.inl rfl)) e_int rfl)) (e_mul (by first | exact mulW ba.1 bb.2 (by decide) | exact mulW bb.1 ba.2 (by decide) | exact mulW ba.2 bb.2 (by decide) | exact mulW ba.1 bb.1 (by decide) | exact mulW ba.2 bb.1 (by decide)) (e_ixT (e_var 1 rfl rfl (.inl rfl)) e_int rfl) (e_ixT (e_var 0 rfl rfl (.inl rfl)) e_int rfl))) (a_cons (e_mul (by first | exact mulW ba.1 bb.2 (by decide) | exact mulW bb.1 ba.2 (by decide) | exact mulW ba.2 bb.2 (by decide) | exact mulW ba.1 bb.1 (by decide) | exact mulW ba.2 bb.1 (by decide)) (e_ixT (e_var 0 rfl rfl (.inl rfl)) e_int rfl) (e_ixT (e_var 1 rfl rfl (.inl rfl)) e_int rfl)) a_nil)) (⟨_, _, mul_ne la.ne lb.ne, bits_up (mul_bits ba.2 bb.2) (by decide), rfl, rfl⟩)) rfl))))

def R_scaled (ds : List PyData) (d : PyData) : Prop := ∃ a b : Fr, Low a ∧ Low b ∧ Bd 1400 a ∧ Bd 1400 b ∧ ds = [fr a, fr b] ∧ d = fr (fTimes a b)
theorem ok_scaled (T : Txt K mg) : FnG P w K mg base CX0 2 T.a_scaled T.d_scaled ["a", "b"] (spOf K (pureS R_scaled)) := by
  have G_fraction := (ok_fraction (P := P) (w := w) (base := base) T).mono (by decide : 1 ≤ 1)
  refine fn_pure T.F_scaled sc_scaled (by rintro _ _ ⟨a, b, _, _, _, _, rfl, _⟩; rfl) fun cdv A outer s H E room grd ds d hR => ?_
  obtain ⟨a, b, la, lb, ba, bb, rfl, rfl⟩ := hR
  exact (
    (ss_one (s_ret (e_conv (e_call G_fraction room grd (by rfl) T.g_fraction T.F_fraction.kp T.b_fraction (a_cons (e_mul (by first | exact mulW ba.1 bb.2 (by decide) | exact mulW bb.1 ba.2 (by decide) | exact mulW ba.2 bb.2 (by decide) | exact mulW ba.1 bb.1 (by decide) | exact mulW ba.2 bb.1 (by decide)) (e_ixT (e_var 0 rfl rfl (.inl rfl)) e_int rfl) (e_ixT (e_var 1 rfl rfl (.inl rfl)) e_int rfl)) (a_cons (e_mul (by first | exact mulW ba.1 bb.2 (by decide) | exact mulW bb.1 ba.2 (by decide) | exact mulW ba.2 bb.2 (by decide) | exact mulW ba.1 bb.1 (by decide) | exact mulW ba.2 bb.1 (by decide)) (e_ixT (e_var 0 rfl rfl (.inl rfl)) e_int rfl) (e_ixT (e_var 1 rfl rfl (.inl rfl)) e_int rfl)) a_nil)) (⟨_, _, mul_ne la.ne lb.ne, bits_up (mul_bits ba.2 bb.2) (by decide), rfl, rfl⟩)) rfl))))

def R_is_fraction (ds : List PyData) (d : PyData) : Prop := ∃ x, ds = [x] ∧ d = .bool (isFr x)
theorem ok_is_fraction (T : Txt K mg) : FnG P w K mg base CX0 2 T.a_is_fraction T.d_is_fraction ["value"] (spOf K (pureS R_is_fraction)) := by
  have G_is_integer := (ok_is_integer (P := P) (w := w) (base := base) T).mono (by decide : 1 ≤ 1)
  refine fn_pure T.F_is_fraction sc_is_fraction (by rintro _ _ ⟨x, rfl, _⟩; rfl) fun cdv A outer s H E room grd ds d hR => ?_
  obtain ⟨x, rfl, rfl⟩ := hR
  by_cases h : isName x "tuple" = true
  · obtain ⟨l, rfl⟩ := tuple_of h
    by_cases hl : l.length = 2
    · obtain ⟨a, b, rfl⟩ := two_of hl
      by_cases ha : isI a = true
      · obtain ⟨i, rfl⟩ := int_of ha
        by_cases hb : isI b = true
        · obtain ⟨j, rfl⟩ := int_of hb
          exact (
    (ss_cons (s_ifF (t_conv (t_w (w_or (t_not (t_val (e_isi1 (by rfl) T.n_isinstance (pe_bltn (by rfl) T.n_tuple (by decide +kernel) rfl) kit_tuple (e_var 0 rfl rfl (.inl rfl))))) fun hw => (w_or (t_cm c_neI (e_bi f_lenT (by rfl) T.n_len PySem.boot_len (a_cons (e_var 0 rfl rfl (.inl rfl)) a_nil)) e_int (nomark _)) fun hw => (w_or (t_not (t_val (e_call G_is_integer room grd (by rfl) T.g_is_integer T.F_is_integer.kp T.b_is_integer (a_cons (e_ixT (e_var 0 rfl rfl (.inl rfl)) e_int rfl) a_nil) (⟨_, rfl, rfl⟩)))) fun hw => (w_or1 (t_not (t_val (e_call G_is_integer room grd (by rfl) T.g_is_integer T.F_is_integer.kp T.b_is_integer (a_cons (e_ixT (e_var 0 rfl rfl (.inl rfl)) e_int rfl) a_nil) (⟨_, rfl, rfl⟩))))))))) rfl) (
      ss_nil))
    (ss_one (s_ret (e_conv (e_and (e_cm c_ge (e_ixT (e_var 0 rfl rfl (.inl rfl)) e_int rfl) e_int (nomark _)) fun hw => (e_one (e_cm c_eqI (e_bf f_gcd (by rfl) T.n_gcd (a_cons (e_ixT (e_var 0 rfl rfl (.inl rfl)) e_int rfl) (a_cons (e_ixT (e_var 0 rfl rfl (.inl rfl)) e_int rfl) a_nil))) e_int (nomark _)))) rfl)))))
        · exact (
    (ss_stop (s_ifT (t_conv (t_w (w_or (t_not (t_val (e_isi1 (by rfl) T.n_isinstance (pe_bltn (by rfl) T.n_tuple (by decide +kernel) rfl) kit_tuple (e_var 0 rfl rfl (.inl rfl))))) fun hw => (w_or (t_cm c_neI (e_bi f_lenT (by rfl) T.n_len PySem.boot_len (a_cons (e_var 0 rfl rfl (.inl rfl)) a_nil)) e_int (nomark _)) fun hw => (w_or (t_not (t_val (e_call G_is_integer room grd (by rfl) T.g_is_integer T.F_is_integer.kp T.b_is_integer (a_cons (e_ixT (e_var 0 rfl rfl (.inl rfl)) e_int rfl) a_nil) (⟨_, rfl, rfl⟩)))) fun hw => (w_or1 (t_not (t_val (e_call G_is_integer room grd (by rfl) T.g_is_integer T.F_is_integer.kp T.b_is_integer (a_cons (e_ixT (e_var 0 rfl rfl (.inl rfl)) e_int rfl) a_nil) (⟨_, rfl, rfl⟩))))))))) (by first | rfl | (have := Bool.eq_false_iff.mpr hb; unfold isI at this; rw [this]; rfl))) (
      (ss_one (s_ret (e_conv e_bl (congrArg PyData.bool (isFr_b hb).symm))))))))
      · exact (
    (ss_stop (s_ifT (t_conv (t_w (w_or (t_not (t_val (e_isi1 (by rfl) T.n_isinstance (pe_bltn (by rfl) T.n_tuple (by decide +kernel) rfl) kit_tuple (e_var 0 rfl rfl (.inl rfl))))) fun hw => (w_or (t_cm c_neI (e_bi f_lenT (by rfl) T.n_len PySem.boot_len (a_cons (e_var 0 rfl rfl (.inl rfl)) a_nil)) e_int (nomark _)) fun hw => (w_or (u := true) (v := false) (t_conv (t_not (t_val (e_call G_is_integer room grd (by rfl) T.g_is_integer T.F_is_integer.kp T.b_is_integer (a_cons (e_ixT (e_var 0 rfl rfl (.inl rfl)) e_int rfl) a_nil) (⟨_, rfl, rfl⟩)))) (by first | rfl | (have := Bool.eq_false_iff.mpr ha; unfold isI at this; rw [this]; rfl))) (fun hd => nomatch hd))))) (by first | rfl | (have := Bool.eq_false_iff.mpr ha; unfold isI at this; rw [this]; rfl))) (
      (ss_one (s_ret (e_conv e_bl (congrArg PyData.bool (isFr_a ha).symm))))))))
    · exact (
    (ss_stop (s_ifT (t_conv (t_w (w_or (t_not (t_val (e_isi1 (by rfl) T.n_isinstance (pe_bltn (by rfl) T.n_tuple (by decide +kernel) rfl) kit_tuple (e_var 0 rfl rfl (.inl rfl))))) fun hw => (w_or (u := true) (v := false) (t_conv (t_cm c_neI (e_bi f_lenT (by rfl) T.n_len PySem.boot_len (a_cons (e_var 0 rfl rfl (.inl rfl)) a_nil)) e_int (nomark _)) (by first | (simp; done) | (simp; omega))) (fun hd => nomatch hd)))) (by first | (simp; done) | (simp; omega))) (
      (ss_one (s_ret (e_conv e_bl (congrArg PyData.bool (isFr_len hl).symm))))))))
  · exact (
    (ss_stop (s_ifT (t_conv (t_w (w_or (u := true) (v := false) (t_conv (t_not (t_val (e_isi1 (by rfl) T.n_isinstance (pe_bltn (by rfl) T.n_tuple (by decide +kernel) rfl) kit_tuple (e_var 0 rfl rfl (.inl rfl))))) (by simp [h])) (fun hd => nomatch hd))) (by simp [h])) (
      (ss_one (s_ret (e_conv e_bl (congrArg PyData.bool (isFr_no h).symm))))))))

def R_nought (ds : List PyData) (d : PyData) : Prop := ∃ n : Int, 1 ≤ n ∧ n ≤ 3 ∧ ds = [.int n] ∧ d = vec (List.replicate n.toNat (0, 1))
theorem ok_nought (T : Txt K mg) : FnG P w K mg base CX0 1 T.a_nought T.d_nought ["dims"] (spOf K (pureS R_nought)) := by
  refine fn_pure T.F_nought sc_nought (by rintro _ _ ⟨n, _, _, rfl, _⟩; rfl) fun cdv A outer s H E room grd ds d hR => ?_
  obtain ⟨n, h1, h2, rfl, rfl⟩ := hR
  exact (
    (ss_one (s_ret (e_conv (e_repTn (e_tup (a_cons (e_const T.c_NOUGHT (by rfl)) a_nil)) (e_var 0 rfl rfl (.inl rfl)) h1 (by omega) (fun z => nomatch z) (by decide) (rep_vec _)) rfl))))

def R_joined (ds : List PyData) (d : PyData) : Prop := ∃ a b : List Fr, Few a ∧ Few b ∧ ds = [vec a, vec b] ∧ d = vec (vPlus a b)
theorem ok_joined (T : Txt K mg) : FnG P w K mg base CX0 3 T.a_joined T.d_joined ["a", "b"] (spOf K (pureS R_joined)) := by
  have G_added := (ok_added (P := P) (w := w) (base := base) T).mono (by decide : 2 ≤ 2)
  refine fn_pure T.F_joined sc_joined (by rintro _ _ ⟨a, b, _, _, rfl, _⟩; rfl) fun cdv A outer s H E room grd ds d hR => ?_
  obtain ⟨a, b, ⟨ha, pa⟩, ⟨hb, pb⟩, rfl, rfl⟩ := hR
  exact (
    (ss_one (s_ret (e_conv (e_conv (e_bt f_tupL (by rfl) T.n_tuple (by decide +kernel) (a_cons (e_lc (own := [("one", 2), ("other", 3)]) rfl sc_joined.nd (i_zipT (by rfl) T.n_zip (a_cons (e_var 0 rfl rfl (.inl rfl)) (a_cons (e_var 1 rfl rfl (.inl rfl)) a_nil))) (blkOk_by (N := ["a", "b", "one", "other"]) (sc := defScope s_joined) (by decide +kernel)) rfl (lc_pair fr fr (fun p => fr (fPlus p.1 p.2)) a b (fun x hx => ⟨_, _, _, (fun _ _ _ _ _ => (g_tup rfl (gs_cons (g_name 2 sc_joined.nd rfl (.inl rfl)) (gs_cons (g_name 3 sc_joined.nd rfl (.inl rfl)) gs_nil)))), (fun _ _ _ _ _ => ts_nil), (fun _ _ _ _ _ => (e_call G_added room grd (by rfl) T.g_added T.F_added.kp T.b_added (a_cons (e_var 2 rfl rfl (.inl rfl)) (a_cons (e_var 3 rfl rfl (.inl rfl)) a_nil)) (⟨x.1, x.2, (pa _ (mem_zip hx).1).1, (pb _ (mem_zip hx).2).1, (pa _ (mem_zip hx).1).2.up (by decide), (pb _ (mem_zip hx).2).2.up (by decide), rfl, rfl⟩))), rfl⟩)) (len_pair ha)) a_nil)) rfl) (vec_zip (f := fPlus))))))

def R_apart (ds : List PyData) (d : PyData) : Prop := ∃ a b : List Fr, Few a ∧ Few b ∧ ds = [vec a, vec b] ∧ d = vec (vMinus a b)
theorem ok_apart (T : Txt K mg) : FnG P w K mg base CX0 3 T.a_apart T.d_apart ["a", "b"] (spOf K (pureS R_apart)) := by
  have G_taken := (ok_taken (P := P) (w := w) (base := base) T).mono (by decide : 2 ≤ 2)
  refine fn_pure T.F_apart sc_apart (by rintro _ _ ⟨a, b, _, _, rfl, _⟩; rfl) fun cdv A outer s H E room grd ds d hR => ?_
  obtain ⟨a, b, ⟨ha, pa⟩, ⟨hb, pb⟩, rfl, rfl⟩ := hR
  exact (
    (ss_one (s_ret (e_conv (e_conv (e_bt f_tupL (by rfl) T.n_tuple (by decide +kernel) (a_cons (e_lc (own := [("one", 2), ("other", 3)]) rfl sc_apart.nd (i_zipT (by rfl) T.n_zip (a_cons (e_var 0 rfl rfl (.inl rfl)) (a_cons (e_var 1 rfl rfl (.inl rfl)) a_nil))) (blkOk_by (N := ["a", "b", "one", "other"]) (sc := defScope s_apart) (by decide +kernel)) rfl (lc_pair fr fr (fun p => fr (fMinus p.1 p.2)) a b (fun x hx => ⟨_, _, _, (fun _ _ _ _ _ => (g_tup rfl (gs_cons (g_name 2 sc_apart.nd rfl (.inl rfl)) (gs_cons (g_name 3 sc_apart.nd rfl (.inl rfl)) gs_nil)))), (fun _ _ _ _ _ => ts_nil), (fun _ _ _ _ _ => (e_call G_taken room grd (by rfl) T.g_taken T.F_taken.kp T.b_taken (a_cons (e_var 2 rfl rfl (.inl rfl)) (a_cons (e_var 3 rfl rfl (.inl rfl)) a_nil)) (⟨x.1, x.2, (pa _ (mem_zip hx).1).1, (pb _ (mem_zip hx).2).1, (pa _ (mem_zip hx).1).2.up (by decide), (pb _ (mem_zip hx).2).2.up (by decide), rfl, rfl⟩))), rfl⟩)) (len_pair ha)) a_nil)) rfl) (vec_zip (f := fMinus))))))

def R_stretched (ds : List PyData) (d : PyData) : Prop := ∃ (a : List Fr) (n : Fr), Few a ∧ Low n ∧ Bd 100 n ∧ ds = [vec a, fr n] ∧ d = vec (vTimes a n)
theorem ok_stretched (T : Txt K mg) : FnG P w K mg base CX0 3 T.a_stretched T.d_stretched ["a", "number"] (spOf K (pureS R_stretched)) := by
  have G_scaled := (ok_scaled (P := P) (w := w) (base := base) T).mono (by decide : 2 ≤ 2)
  refine fn_pure T.F_stretched sc_stretched (by rintro _ _ ⟨a, b, _, _, _, rfl, _⟩; rfl) fun cdv A outer s H E room grd ds d hR => ?_
  obtain ⟨a, n, ⟨ha, pa⟩, ln, bn, rfl, rfl⟩ := hR
  exact (
    (ss_one (s_ret (e_conv (e_conv (e_bt f_tupL (by rfl) T.n_tuple (by decide +kernel) (a_cons (e_lc (own := [("one", 2)]) rfl sc_stretched.nd (i_tup (e_var 0 rfl rfl (.inl rfl))) (blkOk_by (N := ["a", "number", "one"]) (sc := defScope s_stretched) (by decide +kernel)) rfl (lc_map fr (fun p => fr (fTimes p n)) a (fun x hx => ⟨_, _, _, (fun _ _ _ _ _ => (g_name 2 sc_stretched.nd rfl (.inl rfl))), (fun _ _ _ _ _ => ts_nil), (fun _ _ _ _ _ => (e_call G_scaled room grd (by rfl) T.g_scaled T.F_scaled.kp T.b_scaled (a_cons (e_var 2 rfl rfl (.inl rfl)) (a_cons (e_var 1 rfl rfl (.inr (.inl rfl))) a_nil)) (⟨x, n, (pa _ hx).1, ln, (pa _ hx).2.up (by decide), bn.up (by decide), rfl, rfl⟩))), rfl⟩)) (len_map (by omega))) a_nil)) rfl) (vec_map (f := fun p => fTimes p n))))))

def R_is_any_vector (ds : List PyData) (d : PyData) : Prop := ∃ x, ds = [x] ∧ d = .bool (isV x)
theorem ok_is_any_vector (T : Txt K mg) : FnG P w K mg base CX0 3 T.a_is_any_vector T.d_is_any_vector ["value"] (spOf K (pureS R_is_any_vector)) := by
  have G_is_fraction := (ok_is_fraction (P := P) (w := w) (base := base) T).mono (by decide : 2 ≤ 2)
  refine fn_pure T.F_is_any_vector sc_is_any_vector (by rintro _ _ ⟨x, rfl, _⟩; rfl) fun cdv A outer s H E room grd ds d hR => ?_
  obtain ⟨x, rfl, rfl⟩ := hR
  by_cases h : isName x "tuple" = true
  · obtain ⟨l, rfl⟩ := tuple_of h
    by_cases hl : 1 ≤ l.length ∧ l.length ≤ 3
    · exact (
    (ss_one (s_ret (e_conv (e_and (e_isi1 (by rfl) T.n_isinstance (pe_bltn (by rfl) T.n_tuple (by decide +kernel) rfl) kit_tuple (e_var 0 rfl rfl (.inl rfl))) fun hw => (e_and (e_chain c_le c_le e_int (e_bi f_lenT (by rfl) T.n_len PySem.boot_len (a_cons (e_var 0 rfl rfl (.inl rfl)) a_nil)) (e_const T.c_MOST_DIMS (by rfl))) fun hw => (e_one (e_bi (f_all rfl (all_isFr l)) (by rfl) T.n_all (by decide +kernel) (a_cons (e_lc (own := [("one", 1)]) rfl sc_is_any_vector.nd (i_tup (e_var 0 rfl rfl (.inl rfl))) (blkOk_by (N := ["value", "one"]) (sc := defScope s_is_any_vector) (by decide +kernel)) rfl (lc_each (fun x => .bool (isFr x)) l (fun x hx => ⟨_, _, _, (fun _ _ _ _ _ => (g_name 1 sc_is_any_vector.nd rfl (.inl rfl))), (fun _ _ _ _ _ => ts_nil), (fun _ _ _ _ _ => (e_call G_is_fraction room grd (by rfl) T.g_is_fraction T.F_is_fraction.kp T.b_is_fraction (a_cons (e_var 1 rfl rfl (.inl rfl)) a_nil) (⟨_, rfl, rfl⟩))), rfl⟩)) (by omega)) a_nil))))) rfl))))
    · exact (
    (ss_one (s_ret (e_conv (e_and (e_isi1 (by rfl) T.n_isinstance (pe_bltn (by rfl) T.n_tuple (by decide +kernel) rfl) kit_tuple (e_var 0 rfl rfl (.inl rfl))) fun hw => (e_and (u := false) (v := true) (e_convB (e_chain c_le c_le e_int (e_bi f_lenT (by rfl) T.n_len PySem.boot_len (a_cons (e_var 0 rfl rfl (.inl rfl)) a_nil)) (e_const T.c_MOST_DIMS (by rfl))) (isV_in hl)) (fun hd => nomatch hd))) (congrArg PyData.bool (isV_out hl).symm)))))
  · exact (
    (ss_one (s_ret (e_conv (e_and (u := false) (v := true) (e_convB (e_isi1 (by rfl) T.n_isinstance (pe_bltn (by rfl) T.n_tuple (by decide +kernel) rfl) kit_tuple (e_var 0 rfl rfl (.inl rfl))) (by simp [h])) (fun hd => nomatch hd)) (congrArg PyData.bool (isV_no h).symm)))))

def R_want_vector (ds : List PyData) (d : PyData) : Prop := ∃ v : List Fr, 1 ≤ v.length ∧ v.length ≤ 3 ∧ (∀ p ∈ v, Low p) ∧ ds = [vec v] ∧ d = .none
theorem ok_want_vector (T : Txt K mg) : FnG P w K mg base CX0 4 T.a_want_vector T.d_want_vector ["value"] (spOf K (pureS R_want_vector)) := by
  have G_is_any_vector := (ok_is_any_vector (P := P) (w := w) (base := base) T).mono (by decide : 3 ≤ 3)
  refine fn_fall T.F_want_vector sc_want_vector (by rintro _ _ ⟨_, _, _, _, rfl, _⟩; rfl) fun cdv A outer s H E room grd ds d hR => ?_
  obtain ⟨v, h1, h2, h3, rfl, rfl⟩ := hR
  exact ⟨rfl, _, (
    (ss_cons (s_ifF (t_conv (t_not (t_val (e_call G_is_any_vector room grd (by rfl) T.g_is_any_vector T.F_is_any_vector.kp T.b_is_any_vector (a_cons (e_var 0 rfl rfl (.inl rfl)) a_nil) (⟨_, rfl, rfl⟩)))) (by rw [isV_vec h1 h2 h3]; rfl)) ss_nil)
    ss_nil))⟩

def R_want_alike (ds : List PyData) (d : PyData) : Prop := ∃ a b : List Fr, 1 ≤ a.length ∧ Few a ∧ Few b ∧ a.length = b.length ∧ ds = [vec a, vec b] ∧ d = .none
theorem ok_want_alike (T : Txt K mg) : FnG P w K mg base CX0 5 T.a_want_alike T.d_want_alike ["vector", "other"] (spOf K (pureS R_want_alike)) := by
  have G_want_vector := (ok_want_vector (P := P) (w := w) (base := base) T).mono (by decide : 4 ≤ 4)
  refine fn_fall T.F_want_alike sc_want_alike (by rintro _ _ ⟨_, _, _, _, _, _, rfl, _⟩; rfl) fun cdv A outer s H E room grd ds d hR => ?_
  obtain ⟨a, b, h1, ha, hb, hl, rfl, rfl⟩ := hR
  exact ⟨rfl, _, (
    (ss_cons (s_expr (e_call G_want_vector room grd (by rfl) T.g_want_vector T.F_want_vector.kp T.b_want_vector (a_cons (e_var 0 rfl rfl (.inl rfl)) a_nil) (⟨a, h1, ha.1, fun p hp => (ha.2 p hp).1, rfl, rfl⟩)))
    (ss_cons (s_expr (e_call G_want_vector room grd (by rfl) T.g_want_vector T.F_want_vector.kp T.b_want_vector (a_cons (e_var 1 rfl rfl (.inl rfl)) a_nil) (⟨b, by omega, hb.1, fun p hp => (hb.2 p hp).1, rfl, rfl⟩)))
    (ss_cons (s_ifF (t_conv (t_cm c_neI (e_bi f_lenT (by rfl) T.n_len PySem.boot_len (a_cons (e_var 0 rfl rfl (.inl rfl)) a_nil)) (e_bi f_lenT (by rfl) T.n_len PySem.boot_len (a_cons (e_var 1 rfl rfl (.inl rfl)) a_nil)) (nomark _)) (by rw [List.length_map, List.length_map, hl]; simp)) ss_nil)
    ss_nil))))⟩

def R_is_vector (ds : List PyData) (d : PyData) : Prop := ∃ x, ds = [x] ∧ d = .bool (isV x)
theorem ok_is_vector (T : Txt K mg) : FnG P w K mg base CX0 4 T.a_is_vector T.d_is_vector ["value"] (spOf K (pureS R_is_vector)) := by
  have G_is_any_vector := (ok_is_any_vector (P := P) (w := w) (base := base) T).mono (by decide : 3 ≤ 3)
  refine fn_pure T.F_is_vector sc_is_vector (by rintro _ _ ⟨x, rfl, _⟩; rfl) fun cdv A outer s H E room grd ds d hR => ?_
  obtain ⟨x, rfl, rfl⟩ := hR
  exact (
    (ss_one (s_ret (e_conv (e_call G_is_any_vector room grd (by rfl) T.g_is_any_vector T.F_is_any_vector.kp T.b_is_any_vector (a_cons (e_var 0 rfl rfl (.inl rfl)) a_nil) (⟨_, rfl, rfl⟩)) rfl))))

def R_nought_of (ds : List PyData) (d : PyData) : Prop := ∃ n : Int, 1 ≤ n ∧ n ≤ 3 ∧ ds = [.int n] ∧ d = vec (List.replicate n.toNat (0, 1))
theorem ok_nought_of (T : Txt K mg) : FnG P w K mg base CX0 3 T.a_nought_of T.d_nought_of ["dims"] (spOf K (pureS R_nought_of)) := by
  have G_nought := (ok_nought (P := P) (w := w) (base := base) T).mono (by decide : 1 ≤ 2)
  have G_is_within := (ok_is_within (P := P) (w := w) (base := base) T).mono (by decide : 2 ≤ 2)
  refine fn_pure T.F_nought_of sc_nought_of (by rintro _ _ ⟨n, _, _, rfl, _⟩; rfl) fun cdv A outer s H E room grd ds d hR => ?_
  obtain ⟨n, h1, h2, rfl, rfl⟩ := hR
  exact (
    (ss_cons (s_ifF (t_conv (t_not (t_val (e_call G_is_within room grd (by rfl) T.g_is_within T.F_is_within.kp T.b_is_within (a_cons (e_var 0 rfl rfl (.inl rfl)) (a_cons e_int (a_cons (e_const T.c_MOST_DIMS (by rfl)) a_nil))) (⟨n, 1, 3, rfl, rfl⟩)))) (by rw [decide_eq_true h1, decide_eq_true h2]; rfl)) ss_nil)
    (ss_one (s_ret (e_conv (e_call G_nought room grd (by rfl) T.g_nought T.F_nought.kp T.b_nought (a_cons (e_var 0 rfl rfl (.inl rfl)) a_nil) (⟨n, h1, h2, rfl, rfl⟩)) rfl)))))

def R_vector_sum (ds : List PyData) (d : PyData) : Prop := ∃ a b : List Fr, 1 ≤ a.length ∧ Few a ∧ Few b ∧ a.length = b.length ∧ ds = [vec a, vec b] ∧ d = vec (vPlus a b)
theorem ok_vector_sum (T : Txt K mg) : FnG P w K mg base CX0 6 T.a_vector_sum T.d_vector_sum ["vector", "other"] (spOf K (pureS R_vector_sum)) := by
  have G_want_alike := (ok_want_alike (P := P) (w := w) (base := base) T).mono (by decide : 5 ≤ 5)
  have G_joined := (ok_joined (P := P) (w := w) (base := base) T).mono (by decide : 3 ≤ 5)
  refine fn_pure T.F_vector_sum sc_vector_sum (by rintro _ _ ⟨_, _, _, _, _, _, rfl, _⟩; rfl) fun cdv A outer s H E room grd ds d hR => ?_
  obtain ⟨a, b, h1, ha, hb, hl, rfl, rfl⟩ := hR
  exact (
    (ss_cons (s_expr (e_call G_want_alike room grd (by rfl) T.g_want_alike T.F_want_alike.kp T.b_want_alike (a_cons (e_var 0 rfl rfl (.inl rfl)) (a_cons (e_var 1 rfl rfl (.inl rfl)) a_nil)) (⟨a, b, h1, ha, hb, hl, rfl, rfl⟩)))
    (ss_one (s_ret (e_conv (e_call G_joined room grd (by rfl) T.g_joined T.F_joined.kp T.b_joined (a_cons (e_var 0 rfl rfl (.inl rfl)) (a_cons (e_var 1 rfl rfl (.inl rfl)) a_nil)) (⟨a, b, ha, hb, rfl, rfl⟩)) rfl)))))

def R_vector_less (ds : List PyData) (d : PyData) : Prop := ∃ a b : List Fr, 1 ≤ a.length ∧ Few a ∧ Few b ∧ a.length = b.length ∧ ds = [vec a, vec b] ∧ d = vec (vMinus a b)
theorem ok_vector_less (T : Txt K mg) : FnG P w K mg base CX0 6 T.a_vector_less T.d_vector_less ["vector", "other"] (spOf K (pureS R_vector_less)) := by
  have G_want_alike := (ok_want_alike (P := P) (w := w) (base := base) T).mono (by decide : 5 ≤ 5)
  have G_apart := (ok_apart (P := P) (w := w) (base := base) T).mono (by decide : 3 ≤ 5)
  refine fn_pure T.F_vector_less sc_vector_less (by rintro _ _ ⟨_, _, _, _, _, _, rfl, _⟩; rfl) fun cdv A outer s H E room grd ds d hR => ?_
  obtain ⟨a, b, h1, ha, hb, hl, rfl, rfl⟩ := hR
  exact (
    (ss_cons (s_expr (e_call G_want_alike room grd (by rfl) T.g_want_alike T.F_want_alike.kp T.b_want_alike (a_cons (e_var 0 rfl rfl (.inl rfl)) (a_cons (e_var 1 rfl rfl (.inl rfl)) a_nil)) (⟨a, b, h1, ha, hb, hl, rfl, rfl⟩)))
    (ss_one (s_ret (e_conv (e_call G_apart room grd (by rfl) T.g_apart T.F_apart.kp T.b_apart (a_cons (e_var 0 rfl rfl (.inl rfl)) (a_cons (e_var 1 rfl rfl (.inl rfl)) a_nil)) (⟨a, b, ha, hb, rfl, rfl⟩)) rfl)))))

def R_vector_times (ds : List PyData) (d : PyData) : Prop := ∃ (a : List Fr) (n : Fr), 1 ≤ a.length ∧ Few a ∧ Low n ∧ Bd 100 n ∧ ds = [vec a, fr n] ∧ d = vec (vTimes a n)
theorem ok_vector_times (T : Txt K mg) : FnG P w K mg base CX0 5 T.a_vector_times T.d_vector_times ["vector", "a"] (spOf K (pureS R_vector_times)) := by
  have G_want_vector := (ok_want_vector (P := P) (w := w) (base := base) T).mono (by decide : 4 ≤ 4)
  have G_stretched := (ok_stretched (P := P) (w := w) (base := base) T).mono (by decide : 3 ≤ 4)
  have G_is_fraction := (ok_is_fraction (P := P) (w := w) (base := base) T).mono (by decide : 2 ≤ 4)
  refine fn_pure T.F_vector_times sc_vector_times (by rintro _ _ ⟨_, _, _, _, _, _, rfl, _⟩; rfl) fun cdv A outer s H E room grd ds d hR => ?_
  obtain ⟨a, n, h1, ha, ln, bn, rfl, rfl⟩ := hR
  exact (
    (ss_cons (s_expr (e_call G_want_vector room grd (by rfl) T.g_want_vector T.F_want_vector.kp T.b_want_vector (a_cons (e_var 0 rfl rfl (.inl rfl)) a_nil) (⟨a, h1, ha.1, fun p hp => (ha.2 p hp).1, rfl, rfl⟩)))
    (ss_cons (s_ifF (t_conv (t_not (t_val (e_call G_is_fraction room grd (by rfl) T.g_is_fraction T.F_is_fraction.kp T.b_is_fraction (a_cons (e_var 1 rfl rfl (.inl rfl)) a_nil) (⟨_, rfl, rfl⟩)))) (by rw [isFr_fr ln]; rfl)) ss_nil)
    (ss_one (s_ret (e_conv (e_call G_stretched room grd (by rfl) T.g_stretched T.F_stretched.kp T.b_stretched (a_cons (e_var 0 rfl rfl (.inl rfl)) (a_cons (e_var 1 rfl rfl (.inl rfl)) a_nil)) (⟨a, n, ha, ln, bn, rfl, rfl⟩)) rfl))))))

def R_vector_of (ds : List PyData) (d : PyData) : Prop := ∃ ns : List Int, 1 ≤ ns.length ∧ ns.length ≤ 3 ∧ (ds = [.list (ns.map .int)] ∨ ds = [.tuple (ns.map .int)]) ∧ d = vec (wholes ns)
theorem ok_vector_of (T : Txt K mg) : FnG P w K mg base CX0 2 T.a_vector_of T.d_vector_of ["numbers"] (spOf K (pureS R_vector_of)) := by
  have G_is_integer := (ok_is_integer (P := P) (w := w) (base := base) T).mono (by decide : 1 ≤ 1)
  refine fn_pure T.F_vector_of sc_vector_of (by rintro _ _ ⟨l, _, _, (rfl | rfl), _⟩ <;> rfl) fun cdv A outer s H E room grd ds d hR => ?_
  obtain ⟨ns, h1, h2, (rfl | rfl), rfl⟩ := hR
  · exact (
    (ss_cons (s_ifF (t_conv (t_w (w_or (t_not (t_val (e_isi2 (by rfl) T.n_isinstance (pe_bltn (by rfl) T.n_list (by decide +kernel) rfl) (pe_bltn (by rfl) T.n_tuple (by decide +kernel) rfl) kit_list kit_tuple (e_var 0 rfl rfl (.inl rfl))))) fun hw => (w_or1 (t_not (t_chain c_le c_le e_int (e_bi f_lenL (by rfl) T.n_len PySem.boot_len (a_cons (e_var 0 rfl rfl (.inl rfl)) a_nil)) (e_const T.c_MOST_DIMS (by rfl))))))) (by first | (rw [wholes_in h1 h2]; rfl) | (rw [all_true]; rfl))) ss_nil)
    (ss_cons (s_ifF (t_conv (t_not (t_val (e_bi (f_all rfl (map_true ns)) (by rfl) T.n_all (by decide +kernel) (a_cons (e_lc (own := [("one", 1)]) rfl sc_vector_of.nd (i_list (e_var 0 rfl rfl (.inl rfl))) (blkOk_by (N := ["numbers", "one"]) (sc := defScope s_vector_of) (by decide +kernel)) rfl (by first | exact lc_map PyData.int (fun _ => .bool true) ns (fun x hx => ⟨_, _, _, (fun _ _ _ _ _ => (g_name 1 sc_vector_of.nd rfl (.inl rfl))), (fun _ _ _ _ _ => ts_nil), (fun _ _ _ _ _ => (e_call G_is_integer room grd (by rfl) T.g_is_integer T.F_is_integer.kp T.b_is_integer (a_cons (e_var 1 rfl rfl (.inl rfl)) a_nil) (⟨_, rfl, rfl⟩))), rfl⟩) | exact lc_map PyData.int (fun i => .tuple [.int i, .int 1]) ns (fun x hx => ⟨_, _, _, (fun _ _ _ _ _ => (g_name 1 sc_vector_of.nd rfl (.inl rfl))), (fun _ _ _ _ _ => ts_nil), (fun _ _ _ _ _ => (e_call G_is_integer room grd (by rfl) T.g_is_integer T.F_is_integer.kp T.b_is_integer (a_cons (e_var 1 rfl rfl (.inl rfl)) a_nil) (⟨_, rfl, rfl⟩))), rfl⟩)) (by rw [List.length_map]; omega)) a_nil)))) (by first | (rw [wholes_in h1 h2]; rfl) | (rw [all_true]; rfl))) ss_nil)
    (ss_one (s_ret (e_conv (e_conv (e_bt f_tupL (by rfl) T.n_tuple (by decide +kernel) (a_cons (e_lc (own := [("one", 1)]) rfl sc_vector_of.nd (i_list (e_var 0 rfl rfl (.inl rfl))) (blkOk_by (N := ["numbers", "one"]) (sc := defScope s_vector_of) (by decide +kernel)) rfl (by first | exact lc_map PyData.int (fun _ => .bool true) ns (fun x hx => ⟨_, _, _, (fun _ _ _ _ _ => (g_name 1 sc_vector_of.nd rfl (.inl rfl))), (fun _ _ _ _ _ => ts_nil), (fun _ _ _ _ _ => (e_tup (a_cons (e_var 1 rfl rfl (.inl rfl)) (a_cons e_int a_nil)))), rfl⟩) | exact lc_map PyData.int (fun i => .tuple [.int i, .int 1]) ns (fun x hx => ⟨_, _, _, (fun _ _ _ _ _ => (g_name 1 sc_vector_of.nd rfl (.inl rfl))), (fun _ _ _ _ _ => ts_nil), (fun _ _ _ _ _ => (e_tup (a_cons (e_var 1 rfl rfl (.inl rfl)) (a_cons e_int a_nil)))), rfl⟩)) (by rw [List.length_map]; omega)) a_nil)) rfl) wholes_eq))))))
  · exact (
    (ss_cons (s_ifF (t_conv (t_w (w_or (t_not (t_val (e_isi2 (by rfl) T.n_isinstance (pe_bltn (by rfl) T.n_list (by decide +kernel) rfl) (pe_bltn (by rfl) T.n_tuple (by decide +kernel) rfl) kit_list kit_tuple (e_var 0 rfl rfl (.inl rfl))))) fun hw => (w_or1 (t_not (t_chain c_le c_le e_int (e_bi f_lenT (by rfl) T.n_len PySem.boot_len (a_cons (e_var 0 rfl rfl (.inl rfl)) a_nil)) (e_const T.c_MOST_DIMS (by rfl))))))) (by first | (rw [wholes_in h1 h2]; rfl) | (rw [all_true]; rfl))) ss_nil)
    (ss_cons (s_ifF (t_conv (t_not (t_val (e_bi (f_all rfl (map_true ns)) (by rfl) T.n_all (by decide +kernel) (a_cons (e_lc (own := [("one", 1)]) rfl sc_vector_of.nd (i_tup (e_var 0 rfl rfl (.inl rfl))) (blkOk_by (N := ["numbers", "one"]) (sc := defScope s_vector_of) (by decide +kernel)) rfl (by first | exact lc_map PyData.int (fun _ => .bool true) ns (fun x hx => ⟨_, _, _, (fun _ _ _ _ _ => (g_name 1 sc_vector_of.nd rfl (.inl rfl))), (fun _ _ _ _ _ => ts_nil), (fun _ _ _ _ _ => (e_call G_is_integer room grd (by rfl) T.g_is_integer T.F_is_integer.kp T.b_is_integer (a_cons (e_var 1 rfl rfl (.inl rfl)) a_nil) (⟨_, rfl, rfl⟩))), rfl⟩) | exact lc_map PyData.int (fun i => .tuple [.int i, .int 1]) ns (fun x hx => ⟨_, _, _, (fun _ _ _ _ _ => (g_name 1 sc_vector_of.nd rfl (.inl rfl))), (fun _ _ _ _ _ => ts_nil), (fun _ _ _ _ _ => (e_call G_is_integer room grd (by rfl) T.g_is_integer T.F_is_integer.kp T.b_is_integer (a_cons (e_var 1 rfl rfl (.inl rfl)) a_nil) (⟨_, rfl, rfl⟩))), rfl⟩)) (by rw [List.length_map]; omega)) a_nil)))) (by first | (rw [wholes_in h1 h2]; rfl) | (rw [all_true]; rfl))) ss_nil)
    (ss_one (s_ret (e_conv (e_conv (e_bt f_tupL (by rfl) T.n_tuple (by decide +kernel) (a_cons (e_lc (own := [("one", 1)]) rfl sc_vector_of.nd (i_tup (e_var 0 rfl rfl (.inl rfl))) (blkOk_by (N := ["numbers", "one"]) (sc := defScope s_vector_of) (by decide +kernel)) rfl (by first | exact lc_map PyData.int (fun _ => .bool true) ns (fun x hx => ⟨_, _, _, (fun _ _ _ _ _ => (g_name 1 sc_vector_of.nd rfl (.inl rfl))), (fun _ _ _ _ _ => ts_nil), (fun _ _ _ _ _ => (e_tup (a_cons (e_var 1 rfl rfl (.inl rfl)) (a_cons e_int a_nil)))), rfl⟩) | exact lc_map PyData.int (fun i => .tuple [.int i, .int 1]) ns (fun x hx => ⟨_, _, _, (fun _ _ _ _ _ => (g_name 1 sc_vector_of.nd rfl (.inl rfl))), (fun _ _ _ _ _ => ts_nil), (fun _ _ _ _ _ => (e_tup (a_cons (e_var 1 rfl rfl (.inl rfl)) (a_cons e_int a_nil)))), rfl⟩)) (by rw [List.length_map]; omega)) a_nil)) rfl) wholes_eq))))))

def R__law_pot (ns : List Int) (ds : List PyData) (r : Cell) : Prop := ∃ k : Int, 0 ≤ k ∧ k < 64 ∧ ds = [.int k] ∧ r = .own (.lst (potD (pot0 ns k)))
theorem ok__law_pot (T : Txt K mg) : FnG P w K mg base CX0 1 T.a__law_pot T.d__law_pot ["script", "k"] (spOf K (scrS R__law_pot)) := by
  refine fn_scr T.F__law_pot sc__law_pot (by rintro _ _ _ ⟨k, _, _, rfl, _⟩; rfl) fun cdv A outer s H E room grd ns ds r hR => ?_
  obtain ⟨k, h0, h1, rfl, rfl⟩ := hR
  exact (
    (ss_cons (s_set 2 (e_iteI (t_cm c_lt (e_var 1 rfl rfl (.inl rfl)) (e_lenS 0 (by rfl) T.n_len rfl rfl (.inl rfl)) (nomark _)) (fun hi => (e_bi f_abs (by rfl) T.n_abs (by decide +kernel) (a_cons (e_ixS 0 rfl rfl (.inl rfl) (e_var 1 rfl rfl (.inl rfl)) (pick_int h0 (of_decide_eq_true hi))) a_nil))) (fun hj => (e_add (e_mul (by first | exact mulS (fmB (by decide) (by decide)) (by decide) | exact mulS (by decide) (by omega)) e_int (e_var 1 rfl rfl (.inl rfl))) e_int))) sc__law_pot.nd rfl (.inl rfl))
    (ss_one (s_retO (o_lst (a_cons (e_bi (f_max rfl) (by rfl) T.n_max (by decide +kernel) (a_cons e_int (a_cons (e_sub (e_var 2 rfl rfl (.inl rfl)) (e_pow (by unfold CPow; decide) e_int e_int)) a_nil))) (a_cons (e_add (e_mod (by decide) (e_bt f_int (by rfl) T.n_int (by decide +kernel) (a_cons (e_add (e_add (e_mul (by first | exact mulS (fmB (by decide) (by decide)) (by decide) | exact mulS (by decide) (by omega)) (e_mod (by decide) (e_bt f_int (by rfl) T.n_int (by decide +kernel) (a_cons (e_var 2 rfl rfl (.inl rfl)) a_nil)) e_int) e_int) (e_mul (by first | exact mulS (fmB (by decide) (by decide)) (by decide) | exact mulS (by decide) (by omega)) e_int (e_var 1 rfl rfl (.inl rfl)))) e_int) a_nil)) e_int) e_int) a_nil)))))))

def R__law_draw (m ds m' : List PyData) (d : PyData) : Prop := ∃ (p : Pot) (n : Int), PotOk p ∧ 0 < n ∧ Bits 8000 n ∧ m = potD p ∧ ds = [.int n] ∧ m' = potD (draw dc p n).1 ∧ d = .int (draw dc p n).2
theorem ok__law_draw (T : Txt K mg) : FnG P w K mg base CX0 1 T.a__law_draw T.d__law_draw ["pot", "many"] (spOf K (potS R__law_draw)) := by
  refine fn_pot T.F__law_draw sc__law_draw (by rintro _ _ _ _ ⟨p, n, _, _, _, _, rfl, _⟩; rfl) fun cdv A outer s H E room grd q m ds m' d hR => ?_
  obtain ⟨p, n, hp, hn, hb, rfl, rfl, rfl, rfl⟩ := hR
  by_cases h : 0 < p.1
  · rw [draw_pos h]
    exact (
    (ss_stop (s_ifT (t_conv (t_cm c_gt (e_ixO 0 rfl rfl rfl (.inl rfl) e_int rfl) e_int (nomark _)) (decide_eq_true h)) (
      (ss_cons (s_asg (e_bi (f_divmod hn (bits_log hb (by decide))) (by rfl) T.n_divmod (by decide +kernel) (a_cons (e_ixO 0 rfl rfl rfl (.inl rfl) e_int rfl) (a_cons (e_var 1 rfl rfl (.inl rfl)) a_nil))) (g_tup rfl (gs_cons (g_sub 0 rfl rfl rfl (.inl rfl) e_int rfl) (gs_cons (g_name 2 sc__law_draw.nd rfl (.inl rfl)) gs_nil))))
      (ss_one (s_ret (e_conv (e_var 2 rfl rfl (.inl rfl)) rfl) (one_bor 0 rfl))))))))
  · rw [draw_neg h]
    exact (
    (ss_cons (s_ifF (t_conv (t_cm c_gt (e_ixO 0 rfl rfl rfl (.inl rfl) e_int rfl) e_int (nomark _)) (decide_eq_false h)) (
      ss_nil))
    (ss_cons (s_asg (e_mod (by first | decide | omega) (e_bt f_int (by rfl) T.n_int (by decide +kernel) (a_cons (e_add (e_mul (by first | exact mulS (fmB (by decide) (by decide)) (fmB (by decide) (by decide)) | exact mulS (by have := hp.h1; have := hp.h2; show -(2 ^ 64) < p.2 ∧ p.2 < 2 ^ 64; omega) (by decide)) (e_ixO 0 rfl rfl rfl (.inl rfl) e_int rfl) e_int) e_int) a_nil)) e_int) (g_sub 0 rfl rfl rfl (.inl rfl) e_int rfl))
    (ss_one (s_ret (e_conv (e_mod (by first | decide | omega) (e_bt f_int (by rfl) T.n_int (by decide +kernel) (a_cons (e_fdivX (⟨by decide, by decide⟩) (e_mod (by first | decide | omega) (e_bt f_int (by rfl) T.n_int (by decide +kernel) (a_cons (e_mul (by first | exact mulS (fmB (by decide) (by decide)) (fmB (by decide) (by decide)) | exact mulS (by have := hp.h1; have := hp.h2; show -(2 ^ 64) < p.2 ∧ p.2 < 2 ^ 64; omega) (by decide)) (e_ixO 0 rfl rfl rfl (.inl rfl) e_int rfl) (e_ixO 0 rfl rfl rfl (.inl rfl) e_int rfl)) a_nil)) e_int) e_int) a_nil)) (e_var 1 rfl rfl (.inl rfl))) rfl) (one_bor 0 rfl))))))

def R__law_pick (m ds m' : List PyData) (d : PyData) : Prop := ∃ (p : Pot) (xs : List PyData), PotOk p ∧ 0 < xs.length ∧ xs.length ≤ 1000000 ∧ m = potD p ∧ ds = [.list xs] ∧ m' = potD (draw dc p xs.length).1 ∧ atI xs (draw dc p xs.length).2 = some d
theorem ok__law_pick (T : Txt K mg) : FnG P w K mg base CX0 2 T.a__law_pick T.d__law_pick ["pot", "some"] (spOf K (potS R__law_pick)) := by
  have G__law_draw := (ok__law_draw (P := P) (w := w) (base := base) T).mono (by decide : 1 ≤ 1)
  refine fn_pot T.F__law_pick sc__law_pick (by rintro _ _ _ _ ⟨p, n, _, _, _, _, rfl, _⟩; rfl) fun cdv A outer s H E room grd q m ds m' d hR => ?_
  obtain ⟨p, xs, hp, h0, h1, rfl, rfl, rfl, hd⟩ := hR
  exact (
    (ss_one (s_ret (e_conv (e_ixL (e_var 1 rfl rfl (.inl rfl)) (e_callP 0 G__law_draw room grd (by rfl) T.g__law_draw T.F__law_draw.kp T.b__law_draw rfl rfl (a_cons (e_bi f_lenL (by rfl) T.n_len PySem.boot_len (a_cons (e_var 1 rfl rfl (.inl rfl)) a_nil)) a_nil) rfl rfl (⟨p, (xs.length : Int), hp, (by omega), bits_len h1, rfl, rfl, rfl, rfl⟩) rfl (.inl rfl)) hd) rfl) (one_bor 0 rfl))))

def R__law_frac (ds : List PyData) (d : PyData) : Prop := ∃ a b : Int, b ≠ 0 ∧ Bits 3000 b ∧ ds = [.int a, .int b] ∧ d = fr (mk a b)
theorem ok__law_frac (T : Txt K mg) : FnG P w K mg base CX0 1 T.a__law_frac T.d__law_frac ["above", "below"] (spOf K (pureS R__law_frac)) := by
  refine fn_pure T.F__law_frac sc__law_frac (by rintro _ _ ⟨a, b, _, _, rfl, _⟩; rfl) fun cdv A outer s H E room grd ds d hR => ?_
  obtain ⟨a, b, hb, hs, rfl, rfl⟩ := hR
  exact (
    (ss_cons (s_par 2 3 rfl (e_bi f_abs (by rfl) T.n_abs (by decide +kernel) (a_cons (e_var 0 rfl rfl (.inl rfl)) a_nil)) (e_bi f_abs (by rfl) T.n_abs (by decide +kernel) (a_cons (e_var 1 rfl rfl (.inl rfl)) a_nil)) sc__law_frac.nd rfl rfl (by decide) rfl rfl (by rfl))
    (ss_cons (s_while (wh_euclid (fun x y => [some (.dat (.int a)), some (.dat (.int b)), some (.dat (.int (x : Nat))), some (.dat (.int (y : Nat)))]) (fun x y => (t_cm c_neI (e_var 3 rfl rfl (.inl rfl)) e_int (nomark _))) (fun x y hy => o_conv         (ss_one (s_par 2 3 rfl (e_var 3 rfl rfl (.inl rfl)) (e_bt f_int (by rfl) T.n_int (by decide +kernel) (a_cons (e_mod (by omega) (e_var 2 rfl rfl (.inl rfl)) (e_var 3 rfl rfl (.inl rfl))) a_nil)) sc__law_frac.nd rfl rfl (by decide) rfl rfl (by rfl))) (euclid_env x y)) b.natAbs a.natAbs b.natAbs (Nat.le_refl _)) PassesOwn.never)
    (ss_one (s_ret (e_conv (e_ite (t_cm c_gt (e_var 1 rfl rfl (.inl rfl)) e_int (nomark _)) (fun hi => (e_tup (a_cons (e_fdivX (by exact divX (n := 3000) (gi_ne (a := a) hb) (gi_bits (a := a) hb hs) (by decide)) (e_var 0 rfl rfl (.inl rfl)) (e_var 2 rfl rfl (.inl rfl))) (a_cons (e_fdivX (by exact divX (n := 3000) (gi_ne (a := a) hb) (gi_bits (a := a) hb hs) (by decide)) (e_var 1 rfl rfl (.inl rfl)) (e_var 2 rfl rfl (.inl rfl))) a_nil)))) (fun hj => (e_tup (a_cons (e_fdivX (by exact divX (n := 3000) (gi_ne (a := a) hb) (gi_bits (a := a) hb hs) (by decide)) (e_sub e_int (e_var 0 rfl rfl (.inl rfl))) (e_var 2 rfl rfl (.inl rfl))) (a_cons (e_fdivX (by exact divX (n := 3000) (gi_ne (a := a) hb) (gi_bits (a := a) hb hs) (by decide)) (e_sub e_int (e_var 1 rfl rfl (.inl rfl))) (e_var 2 rfl rfl (.inl rfl))) a_nil))))) (frac_eq hb)))))))

def R__law_plus (ds : List PyData) (d : PyData) : Prop := ∃ a b : Fr, Low a ∧ Low b ∧ Bd 1400 a ∧ Bd 1400 b ∧ ds = [fr a, fr b] ∧ d = fr (fPlus a b)
theorem ok__law_plus (T : Txt K mg) : FnG P w K mg base CX0 2 T.a__law_plus T.d__law_plus ["a", "b"] (spOf K (pureS R__law_plus)) := by
  have G__law_frac := (ok__law_frac (P := P) (w := w) (base := base) T).mono (by decide : 1 ≤ 1)
  refine fn_pure T.F__law_plus sc__law_plus (by rintro _ _ ⟨a, b, _, _, _, _, rfl, _⟩; rfl) fun cdv A outer s H E room grd ds d hR => ?_
  obtain ⟨a, b, la, lb, ba, bb, rfl, rfl⟩ := hR
  exact (
    (ss_one (s_ret (e_conv (e_call G__law_frac room grd (by rfl) T.g__law_frac T.F__law_frac.kp T.b__law_frac (a_cons (e_add (e_mul (by first | exact mulW ba.1 bb.2 (by decide) | exact mulW bb.1 ba.2 (by decide) | exact mulW ba.2 bb.2 (by decide) | exact mulW ba.1 bb.1 (by decide) | exact mulW ba.2 bb.1 (by decide)) (e_ixT (e_var 0 rfl rfl (.inl rfl)) e_int rfl) (e_ixT (e_var 1 rfl rfl (.inl rfl)) e_int rfl)) (e_mul (by first | exact mulW ba.1 bb.2 (by decide) | exact mulW bb.1 ba.2 (by decide) | exact mulW ba.2 bb.2 (by decide) | exact mulW ba.1 bb.1 (by decide) | exact mulW ba.2 bb.1 (by decide)) (e_ixT (e_var 1 rfl rfl (.inl rfl)) e_int rfl) (e_ixT (e_var 0 rfl rfl (.inl rfl)) e_int rfl))) (a_cons (e_mul (by first | exact mulW ba.1 bb.2 (by decide) | exact mulW bb.1 ba.2 (by decide) | exact mulW ba.2 bb.2 (by decide) | exact mulW ba.1 bb.1 (by decide) | exact mulW ba.2 bb.1 (by decide)) (e_ixT (e_var 0 rfl rfl (.inl rfl)) e_int rfl) (e_ixT (e_var 1 rfl rfl (.inl rfl)) e_int rfl)) a_nil)) (⟨_, _, mul_ne la.ne lb.ne, bits_up (mul_bits ba.2 bb.2) (by decide), rfl, rfl⟩)) rfl))))

def R__law_minus (ds : List PyData) (d : PyData) : Prop := ∃ a b : Fr, Low a ∧ Low b ∧ Bd 1400 a ∧ Bd 1400 b ∧ ds = [fr a, fr b] ∧ d = fr (fMinus a b)
theorem ok__law_minus (T : Txt K mg) : FnG P w K mg base CX0 2 T.a__law_minus T.d__law_minus ["a", "b"] (spOf K (pureS R__law_minus)) := by
  have G__law_frac := (ok__law_frac (P := P) (w := w) (base := base) T).mono (by decide : 1 ≤ 1)
  refine fn_pure T.F__law_minus sc__law_minus (by rintro _ _ ⟨a, b, _, _, _, _, rfl, _⟩; rfl) fun cdv A outer s H E room grd ds d hR => ?_
  obtain ⟨a, b, la, lb, ba, bb, rfl, rfl⟩ := hR
  exact (
    (ss_one (s_ret (e_conv (e_call G__law_frac room grd (by rfl) T.g__law_frac T.F__law_frac.kp T.b__law_frac (a_cons (e_sub (e_mul (by first | exact mulW ba.1 bb.2 (by decide) | exact mulW bb.1 ba.2 (by decide) | exact mulW ba.2 bb.2 (by decide) | exact mulW ba.1 bb.1 (by decide) | exact mulW ba.2 bb.1 (by decide)) (e_ixT (e_var 0 rfl rfl (.inl rfl)) e_int rfl) (e_ixT (e_var 1 rfl rfl (.inl rfl)) e_int rfl)) (e_mul (by first | exact mulW ba.1 bb.2 (by decide) | exact mulW bb.1 ba.2 (by decide) | exact mulW ba.2 bb.2 (by decide) | exact mulW ba.1 bb.1 (by decide) | exact mulW ba.2 bb.1 (by decide)) (e_ixT (e_var 1 rfl rfl (.inl rfl)) e_int rfl) (e_ixT (e_var 0 rfl rfl (.inl rfl)) e_int rfl))) (a_cons (e_mul (by first | exact mulW ba.1 bb.2 (by decide) | exact mulW bb.1 ba.2 (by decide) | exact mulW ba.2 bb.2 (by decide) | exact mulW ba.1 bb.1 (by decide) | exact mulW ba.2 bb.1 (by decide)) (e_ixT (e_var 0 rfl rfl (.inl rfl)) e_int rfl) (e_ixT (e_var 1 rfl rfl (.inl rfl)) e_int rfl)) a_nil)) (⟨_, _, mul_ne la.ne lb.ne, bits_up (mul_bits ba.2 bb.2) (by decide), rfl, rfl⟩)) rfl))))

def R__law_times (ds : List PyData) (d : PyData) : Prop := ∃ a b : Fr, Low a ∧ Low b ∧ Bd 1400 a ∧ Bd 1400 b ∧ ds = [fr a, fr b] ∧ d = fr (fTimes a b)
theorem ok__law_times (T : Txt K mg) : FnG P w K mg base CX0 2 T.a__law_times T.d__law_times ["a", "b"] (spOf K (pureS R__law_times)) := by
  have G__law_frac := (ok__law_frac (P := P) (w := w) (base := base) T).mono (by decide : 1 ≤ 1)
  refine fn_pure T.F__law_times sc__law_times (by rintro _ _ ⟨a, b, _, _, _, _, rfl, _⟩; rfl) fun cdv A outer s H E room grd ds d hR => ?_
  obtain ⟨a, b, la, lb, ba, bb, rfl, rfl⟩ := hR
  exact (
    (ss_one (s_ret (e_conv (e_call G__law_frac room grd (by rfl) T.g__law_frac T.F__law_frac.kp T.b__law_frac (a_cons (e_mul (by first | exact mulW ba.1 bb.2 (by decide) | exact mulW bb.1 ba.2 (by decide) | exact mulW ba.2 bb.2 (by decide) | exact mulW ba.1 bb.1 (by decide) | exact mulW ba.2 bb.1 (by decide)) (e_ixT (e_var 0 rfl rfl (.inl rfl)) e_int rfl) (e_ixT (e_var 1 rfl rfl (.inl rfl)) e_int rfl)) (a_cons (e_mul (by first | exact mulW ba.1 bb.2 (by decide) | exact mulW bb.1 ba.2 (by decide) | exact mulW ba.2 bb.2 (by decide) | exact mulW ba.1 bb.1 (by decide) | exact mulW ba.2 bb.1 (by decide)) (e_ixT (e_var 0 rfl rfl (.inl rfl)) e_int rfl) (e_ixT (e_var 1 rfl rfl (.inl rfl)) e_int rfl)) a_nil)) (⟨_, _, mul_ne la.ne lb.ne, bits_up (mul_bits ba.2 bb.2) (by decide), rfl, rfl⟩)) rfl))))

def R__law_some (m ds m' : List PyData) (d : PyData) : Prop := ∃ p : Pot, PotOk p ∧ m = potD p ∧ ds = [] ∧ m' = potD (someF p).1 ∧ d = fr (someF p).2
theorem ok__law_some (T : Txt K mg) : FnG P w K mg base CX0 3 T.a__law_some T.d__law_some ["pot"] (spOf K (potS R__law_some)) := by
  have G__law_frac := (ok__law_frac (P := P) (w := w) (base := base) T).mono (by decide : 1 ≤ 2)
  have G__law_pick := (ok__law_pick (P := P) (w := w) (base := base) T).mono (by decide : 2 ≤ 2)
  have G__law_draw := (ok__law_draw (P := P) (w := w) (base := base) T).mono (by decide : 1 ≤ 2)
  refine fn_pot T.F__law_some sc__law_some (by rintro _ _ _ _ ⟨p, _, _, rfl, _⟩; rfl) fun cdv A outer s H E room grd q m ds m' d hR => ?_
  obtain ⟨p, hp, rfl, rfl, rfl, rfl⟩ := hR
  obtain ⟨a1, a2, a3⟩ := draw_ok dc_ok hp (n := 25) (by decide)
  obtain ⟨b1, b2, b3⟩ := draw_ok dc_ok a1 (n := 7) (by decide)
  obtain ⟨c1, c2⟩ := small_den b2 b3
  have d1 : ([1, 1, 1, 2, 3, 4, 6] : List Int).getD (draw dc (draw dc p 25).1 7).2.toNat 1 ≠ 0 := by omega
  have d2 : Bits 3000 (([1, 1, 1, 2, 3, 4, 6] : List Int).getD (draw dc (draw dc p 25).1 7).2.toNat 1) := bitsS (by omega)
  exact (
    (ss_one (s_ret (e_conv (e_call G__law_frac room grd (by rfl) T.g__law_frac T.F__law_frac.kp T.b__law_frac (a_cons (e_sub (e_callP 0 G__law_draw room grd (by rfl) T.g__law_draw T.F__law_draw.kp T.b__law_draw rfl rfl (a_cons e_int a_nil) rfl rfl (⟨p, 25, hp, by decide, bitsS (by decide), rfl, rfl, rfl, rfl⟩) rfl (.inl rfl)) e_int) (a_cons (e_callP 0 G__law_pick room grd (by rfl) T.g__law_pick T.F__law_pick.kp T.b__law_pick rfl rfl (a_cons (e_lst (a_cons e_int (a_cons e_int (a_cons e_int (a_cons e_int (a_cons e_int (a_cons e_int (a_cons e_int a_nil)))))))) a_nil) rfl rfl (⟨(draw dc p 25).1, ([1, 1, 1, 2, 3, 4, 6] : List Int).map .int, a1, by decide, by decide, rfl, rfl, rfl, pick_map 1 b2 b3⟩) rfl (.inl rfl)) a_nil)) (⟨_, _, d1, d2, rfl, rfl⟩)) rfl) (one_bor 0 rfl))))

def R__law_is_frac (ds : List PyData) (d : PyData) : Prop := ∃ x, Sm x ∧ ds = [x] ∧ d = .bool (isFr x)
theorem ok__law_is_frac (T : Txt K mg) : FnG P w K mg base CX0 2 T.a__law_is_frac T.d__law_is_frac ["value"] (spOf K (pureS R__law_is_frac)) := by
  have G__law_frac := (ok__law_frac (P := P) (w := w) (base := base) T).mono (by decide : 1 ≤ 1)
  refine fn_pure T.F__law_is_frac sc__law_is_frac (by rintro _ _ ⟨x, _, rfl, _⟩; rfl) fun cdv A outer s H E room grd ds d hR => ?_
  obtain ⟨x, hs, rfl, rfl⟩ := hR
  by_cases h : isName x "tuple" = true
  · obtain ⟨l, rfl⟩ := tuple_of h
    by_cases hl : l.length = 2
    · obtain ⟨a, b, rfl⟩ := two_of hl
      by_cases ha : isI a = true
      · obtain ⟨i, rfl⟩ := int_of ha
        by_cases hb : isI b = true
        · obtain ⟨j, rfl⟩ := int_of hb
          have hj := hs.1 i j rfl
          by_cases hp : 0 < j
          · exact (
    (ss_cons (s_ifF (t_conv (t_w (w_or (t_not (t_val (e_isi1 (by rfl) T.n_isinstance (pe_bltn (by rfl) T.n_tuple (by decide +kernel) rfl) kit_tuple (e_var 0 rfl rfl (.inl rfl))))) fun hw => (w_or1 (t_cm c_neI (e_bi f_lenT (by rfl) T.n_len PySem.boot_len (a_cons (e_var 0 rfl rfl (.inl rfl)) a_nil)) e_int (nomark _))))) (by first | rfl | (rw [ho]; rfl))) (
      ss_nil))
    (ss_cons (s_ifF (t_conv (t_not (t_val (e_bi (f_all rfl (isI_map _)) (by rfl) T.n_all (by decide +kernel) (a_cons (e_lc (own := [("one", 1)]) rfl sc__law_is_frac.nd (i_tup (e_var 0 rfl rfl (.inl rfl))) (blkOk_by (N := ["value", "one"]) (sc := defScope s__law_is_frac) (by decide +kernel)) rfl (lc_each (fun x => .bool (isI x)) _ (fun x hx => ⟨_, _, _, (fun _ _ _ _ _ => (g_name 1 sc__law_is_frac.nd rfl (.inl rfl))), (fun _ _ _ _ _ => ts_nil), (fun _ _ _ _ _ => (e_and (e_isi1 (by rfl) T.n_isinstance (pe_bltn (by rfl) T.n_int (by decide +kernel) rfl) kit_int (e_var 1 rfl rfl (.inl rfl))) fun hw => (e_one (e_not (e_isi1 (by rfl) T.n_isinstance (pe_bltn (by rfl) T.n_bool (by decide +kernel) rfl) kit_bool (e_var 1 rfl rfl (.inl rfl))))))), rfl⟩)) (Nat.le_of_ble_eq_true rfl)) a_nil)))) (by first | rfl | (rw [ho]; rfl))) (
      ss_nil))
    (ss_one (s_ret (e_conv (e_and (e_cm c_gt (e_ixT (e_var 0 rfl rfl (.inl rfl)) e_int rfl) e_int (nomark _)) fun hw => (e_one (e_cm (c_eqQ room.units (by first | exact fr_shaped _ | exact fr_shaped (i, j)) (by first | exact fr_shaped _ | exact fr_shaped (i, j))) (e_call G__law_frac room grd (by rfl) T.g__law_frac T.F__law_frac.kp T.b__law_frac (a_cons (e_ixT (e_var 0 rfl rfl (.inl rfl)) e_int rfl) (a_cons (e_ixT (e_var 0 rfl rfl (.inl rfl)) e_int rfl) a_nil)) (⟨i, j, (by omega), hj, rfl, rfl⟩)) (e_var 0 rfl rfl (.inl rfl)) (nomark _)))) (by rw [decide_eq_true hp, Bool.true_and]; exact congrArg PyData.bool ((eqv_fr (mk i j) (i, j)).trans (isFr_mk hp)))))))))
          · exact (
    (ss_cons (s_ifF (t_conv (t_w (w_or (t_not (t_val (e_isi1 (by rfl) T.n_isinstance (pe_bltn (by rfl) T.n_tuple (by decide +kernel) rfl) kit_tuple (e_var 0 rfl rfl (.inl rfl))))) fun hw => (w_or1 (t_cm c_neI (e_bi f_lenT (by rfl) T.n_len PySem.boot_len (a_cons (e_var 0 rfl rfl (.inl rfl)) a_nil)) e_int (nomark _))))) (by first | rfl | exact decide_eq_false hp)) (
      ss_nil))
    (ss_cons (s_ifF (t_conv (t_not (t_val (e_bi (f_all rfl (isI_map _)) (by rfl) T.n_all (by decide +kernel) (a_cons (e_lc (own := [("one", 1)]) rfl sc__law_is_frac.nd (i_tup (e_var 0 rfl rfl (.inl rfl))) (blkOk_by (N := ["value", "one"]) (sc := defScope s__law_is_frac) (by decide +kernel)) rfl (lc_each (fun x => .bool (isI x)) _ (fun x hx => ⟨_, _, _, (fun _ _ _ _ _ => (g_name 1 sc__law_is_frac.nd rfl (.inl rfl))), (fun _ _ _ _ _ => ts_nil), (fun _ _ _ _ _ => (e_and (e_isi1 (by rfl) T.n_isinstance (pe_bltn (by rfl) T.n_int (by decide +kernel) rfl) kit_int (e_var 1 rfl rfl (.inl rfl))) fun hw => (e_one (e_not (e_isi1 (by rfl) T.n_isinstance (pe_bltn (by rfl) T.n_bool (by decide +kernel) rfl) kit_bool (e_var 1 rfl rfl (.inl rfl))))))), rfl⟩)) (Nat.le_of_ble_eq_true rfl)) a_nil)))) (by first | rfl | exact decide_eq_false hp)) (
      ss_nil))
    (ss_one (s_ret (e_conv (e_and (u := false) (v := true) (e_convB (e_cm c_gt (e_ixT (e_var 0 rfl rfl (.inl rfl)) e_int rfl) e_int (nomark _)) (by first | rfl | exact decide_eq_false hp)) (fun hd => nomatch hd)) (congrArg PyData.bool (frac_pos hp).symm)))))))
        · have ho : ([.int i, b].map isI).all id = false := by simp [hb]
          have he := isFr_b (a := .int i) hb
          exact (
    (ss_cons (s_ifF (t_conv (t_w (w_or (t_not (t_val (e_isi1 (by rfl) T.n_isinstance (pe_bltn (by rfl) T.n_tuple (by decide +kernel) rfl) kit_tuple (e_var 0 rfl rfl (.inl rfl))))) fun hw => (w_or1 (t_cm c_neI (e_bi f_lenT (by rfl) T.n_len PySem.boot_len (a_cons (e_var 0 rfl rfl (.inl rfl)) a_nil)) e_int (nomark _))))) (by first | rfl | (rw [ho]; rfl))) (
      ss_nil))
    (ss_stop (s_ifT (t_conv (t_not (t_val (e_bi (f_all rfl (isI_map _)) (by rfl) T.n_all (by decide +kernel) (a_cons (e_lc (own := [("one", 1)]) rfl sc__law_is_frac.nd (i_tup (e_var 0 rfl rfl (.inl rfl))) (blkOk_by (N := ["value", "one"]) (sc := defScope s__law_is_frac) (by decide +kernel)) rfl (lc_each (fun x => .bool (isI x)) _ (fun x hx => ⟨_, _, _, (fun _ _ _ _ _ => (g_name 1 sc__law_is_frac.nd rfl (.inl rfl))), (fun _ _ _ _ _ => ts_nil), (fun _ _ _ _ _ => (e_and (e_isi1 (by rfl) T.n_isinstance (pe_bltn (by rfl) T.n_int (by decide +kernel) rfl) kit_int (e_var 1 rfl rfl (.inl rfl))) fun hw => (e_one (e_not (e_isi1 (by rfl) T.n_isinstance (pe_bltn (by rfl) T.n_bool (by decide +kernel) rfl) kit_bool (e_var 1 rfl rfl (.inl rfl))))))), rfl⟩)) (Nat.le_of_ble_eq_true rfl)) a_nil)))) (by first | rfl | (rw [ho]; rfl))) (
      (ss_one (s_ret (e_conv e_bl (congrArg PyData.bool he.symm)))))))))
      · have ho : ([a, b].map isI).all id = false := by simp [ha]
        have he := isFr_a (b := b) ha
        exact (
    (ss_cons (s_ifF (t_conv (t_w (w_or (t_not (t_val (e_isi1 (by rfl) T.n_isinstance (pe_bltn (by rfl) T.n_tuple (by decide +kernel) rfl) kit_tuple (e_var 0 rfl rfl (.inl rfl))))) fun hw => (w_or1 (t_cm c_neI (e_bi f_lenT (by rfl) T.n_len PySem.boot_len (a_cons (e_var 0 rfl rfl (.inl rfl)) a_nil)) e_int (nomark _))))) (by first | rfl | (rw [ho]; rfl))) (
      ss_nil))
    (ss_stop (s_ifT (t_conv (t_not (t_val (e_bi (f_all rfl (isI_map _)) (by rfl) T.n_all (by decide +kernel) (a_cons (e_lc (own := [("one", 1)]) rfl sc__law_is_frac.nd (i_tup (e_var 0 rfl rfl (.inl rfl))) (blkOk_by (N := ["value", "one"]) (sc := defScope s__law_is_frac) (by decide +kernel)) rfl (lc_each (fun x => .bool (isI x)) _ (fun x hx => ⟨_, _, _, (fun _ _ _ _ _ => (g_name 1 sc__law_is_frac.nd rfl (.inl rfl))), (fun _ _ _ _ _ => ts_nil), (fun _ _ _ _ _ => (e_and (e_isi1 (by rfl) T.n_isinstance (pe_bltn (by rfl) T.n_int (by decide +kernel) rfl) kit_int (e_var 1 rfl rfl (.inl rfl))) fun hw => (e_one (e_not (e_isi1 (by rfl) T.n_isinstance (pe_bltn (by rfl) T.n_bool (by decide +kernel) rfl) kit_bool (e_var 1 rfl rfl (.inl rfl))))))), rfl⟩)) (Nat.le_of_ble_eq_true rfl)) a_nil)))) (by first | rfl | (rw [ho]; rfl))) (
      (ss_one (s_ret (e_conv e_bl (congrArg PyData.bool he.symm)))))))))
    · exact (
    (ss_stop (s_ifT (t_conv (t_w (w_or (t_not (t_val (e_isi1 (by rfl) T.n_isinstance (pe_bltn (by rfl) T.n_tuple (by decide +kernel) rfl) kit_tuple (e_var 0 rfl rfl (.inl rfl))))) fun hw => (w_or1 (t_cm c_neI (e_bi f_lenT (by rfl) T.n_len PySem.boot_len (a_cons (e_var 0 rfl rfl (.inl rfl)) a_nil)) e_int (nomark _))))) (by first | (simp; done) | (simp; omega))) (
      (ss_one (s_ret (e_conv e_bl (congrArg PyData.bool (isFr_len hl).symm))))))))
  · exact (
    (ss_stop (s_ifT (t_conv (t_w (w_or (u := true) (v := false) (t_conv (t_not (t_val (e_isi1 (by rfl) T.n_isinstance (pe_bltn (by rfl) T.n_tuple (by decide +kernel) rfl) kit_tuple (e_var 0 rfl rfl (.inl rfl))))) (by simp [h])) (fun hd => nomatch hd))) (by simp [h])) (
      (ss_one (s_ret (e_conv e_bl (congrArg PyData.bool (isFr_no h).symm))))))))

def R__law_vsum (ds : List PyData) (d : PyData) : Prop := ∃ a b : List Fr, Few a ∧ Few b ∧ ds = [vec a, vec b] ∧ d = vec (vPlus a b)
theorem ok__law_vsum (T : Txt K mg) : FnG P w K mg base CX0 3 T.a__law_vsum T.d__law_vsum ["a", "b"] (spOf K (pureS R__law_vsum)) := by
  have G__law_plus := (ok__law_plus (P := P) (w := w) (base := base) T).mono (by decide : 2 ≤ 2)
  refine fn_pure T.F__law_vsum sc__law_vsum (by rintro _ _ ⟨a, b, _, _, rfl, _⟩; rfl) fun cdv A outer s H E room grd ds d hR => ?_
  obtain ⟨a, b, ⟨ha, pa⟩, ⟨hb, pb⟩, rfl, rfl⟩ := hR
  exact (
    (ss_one (s_ret (e_conv (e_conv (e_bt f_tupL (by rfl) T.n_tuple (by decide +kernel) (a_cons (e_lc (own := [("one", 2), ("other", 3)]) rfl sc__law_vsum.nd (i_zipT (by rfl) T.n_zip (a_cons (e_var 0 rfl rfl (.inl rfl)) (a_cons (e_var 1 rfl rfl (.inl rfl)) a_nil))) (blkOk_by (N := ["a", "b", "one", "other"]) (sc := defScope s__law_vsum) (by decide +kernel)) rfl (lc_pair fr fr (fun p => fr (fPlus p.1 p.2)) a b (fun x hx => ⟨_, _, _, (fun _ _ _ _ _ => (g_tup rfl (gs_cons (g_name 2 sc__law_vsum.nd rfl (.inl rfl)) (gs_cons (g_name 3 sc__law_vsum.nd rfl (.inl rfl)) gs_nil)))), (fun _ _ _ _ _ => ts_nil), (fun _ _ _ _ _ => (e_call G__law_plus room grd (by rfl) T.g__law_plus T.F__law_plus.kp T.b__law_plus (a_cons (e_var 2 rfl rfl (.inl rfl)) (a_cons (e_var 3 rfl rfl (.inl rfl)) a_nil)) (⟨x.1, x.2, (pa _ (mem_zip hx).1).1, (pb _ (mem_zip hx).2).1, (pa _ (mem_zip hx).1).2.up (by decide), (pb _ (mem_zip hx).2).2.up (by decide), rfl, rfl⟩))), rfl⟩)) (len_pair ha)) a_nil)) rfl) (vec_zip (f := fPlus))))))

def R__law_vless (ds : List PyData) (d : PyData) : Prop := ∃ a b : List Fr, Few a ∧ Few b ∧ ds = [vec a, vec b] ∧ d = vec (vMinus a b)
theorem ok__law_vless (T : Txt K mg) : FnG P w K mg base CX0 3 T.a__law_vless T.d__law_vless ["a", "b"] (spOf K (pureS R__law_vless)) := by
  have G__law_minus := (ok__law_minus (P := P) (w := w) (base := base) T).mono (by decide : 2 ≤ 2)
  refine fn_pure T.F__law_vless sc__law_vless (by rintro _ _ ⟨a, b, _, _, rfl, _⟩; rfl) fun cdv A outer s H E room grd ds d hR => ?_
  obtain ⟨a, b, ⟨ha, pa⟩, ⟨hb, pb⟩, rfl, rfl⟩ := hR
  exact (
    (ss_one (s_ret (e_conv (e_conv (e_bt f_tupL (by rfl) T.n_tuple (by decide +kernel) (a_cons (e_lc (own := [("one", 2), ("other", 3)]) rfl sc__law_vless.nd (i_zipT (by rfl) T.n_zip (a_cons (e_var 0 rfl rfl (.inl rfl)) (a_cons (e_var 1 rfl rfl (.inl rfl)) a_nil))) (blkOk_by (N := ["a", "b", "one", "other"]) (sc := defScope s__law_vless) (by decide +kernel)) rfl (lc_pair fr fr (fun p => fr (fMinus p.1 p.2)) a b (fun x hx => ⟨_, _, _, (fun _ _ _ _ _ => (g_tup rfl (gs_cons (g_name 2 sc__law_vless.nd rfl (.inl rfl)) (gs_cons (g_name 3 sc__law_vless.nd rfl (.inl rfl)) gs_nil)))), (fun _ _ _ _ _ => ts_nil), (fun _ _ _ _ _ => (e_call G__law_minus room grd (by rfl) T.g__law_minus T.F__law_minus.kp T.b__law_minus (a_cons (e_var 2 rfl rfl (.inl rfl)) (a_cons (e_var 3 rfl rfl (.inl rfl)) a_nil)) (⟨x.1, x.2, (pa _ (mem_zip hx).1).1, (pb _ (mem_zip hx).2).1, (pa _ (mem_zip hx).1).2.up (by decide), (pb _ (mem_zip hx).2).2.up (by decide), rfl, rfl⟩))), rfl⟩)) (len_pair ha)) a_nil)) rfl) (vec_zip (f := fMinus))))))

def R__law_vector (m ds m' : List PyData) (d : PyData) : Prop := ∃ (p : Pot) (n : Int), PotOk p ∧ 1 ≤ n ∧ n ≤ 3 ∧ m = potD p ∧ ds = [.int n] ∧ m' = potD (vecP p n).1 ∧ d = vec (vecP p n).2
theorem ok__law_vector (T : Txt K mg) : FnG P w K mg base CX0 4 T.a__law_vector T.d__law_vector ["pot", "dims"] (spOf K (potS R__law_vector)) := by
  have G__law_some := (ok__law_some (P := P) (w := w) (base := base) T).mono (by decide : 3 ≤ 3)
  refine fn_pot T.F__law_vector sc__law_vector (by rintro _ _ _ _ ⟨_, _, _, _, _, _, rfl, _⟩; rfl) fun cdv A outer s H E room grd q m ds m' d hR => ?_
  obtain ⟨p, n, hp, h1, h2, rfl, rfl, rfl, rfl⟩ := hR
  exact (
    (ss_one (s_ret (e_conv (e_conv (e_bt f_tupL (by rfl) T.n_tuple (by decide +kernel) (a_cons (e_lc (own := [("at", 2)]) rfl sc__law_vector.nd (i_range1 (by rfl) T.n_range (a_cons (e_var 1 rfl rfl (.inl rfl)) a_nil) (by omega)) (blkOk_by (N := ["pot", "dims", "at"]) (sc := defScope s__law_vector) (by decide +kernel)) rfl (lc_stateT (fun i : Nat => PyData.int (0 + (i : Int))) fr vecF (fun b => [some (.bor q (.lst (potD b))), some (.dat (.int n)), none]) (fun _ b => PotOk b) (List.range n.toNat) p (fun x r b hb => ⟨_, _, _, (fun _ _ _ _ _ => (g_name 2 sc__law_vector.nd rfl (.inl rfl))), (fun _ _ _ _ _ => ts_nil), (fun _ _ _ _ _ => (e_callP 0 G__law_some room grd (by rfl) T.g__law_some T.F__law_some.kp T.b__law_some rfl rfl a_nil rfl rfl (⟨b, hb, rfl, rfl, rfl, rfl⟩) rfl (.inr (.inl rfl)))), rfl, (someF_ok hb).1⟩) hp) (len_map (by rw [List.length_range]; omega))) a_nil)) rfl) rfl) (one_bor 0 rfl))))

def R__law_is_vector (ds : List PyData) (d : PyData) : Prop := ∃ x, SmV x ∧ ds = [x] ∧ d = .bool (isV x)
theorem ok__law_is_vector (T : Txt K mg) : FnG P w K mg base CX0 3 T.a__law_is_vector T.d__law_is_vector ["value"] (spOf K (pureS R__law_is_vector)) := by
  have G__law_is_frac := (ok__law_is_frac (P := P) (w := w) (base := base) T).mono (by decide : 2 ≤ 2)
  refine fn_pure T.F__law_is_vector sc__law_is_vector (by rintro _ _ ⟨x, _, rfl, _⟩; rfl) fun cdv A outer s H E room grd ds d hR => ?_
  obtain ⟨x, hs, rfl, rfl⟩ := hR
  by_cases h : isName x "tuple" = true
  · obtain ⟨l, rfl⟩ := tuple_of h
    by_cases hl : 1 ≤ l.length ∧ l.length ≤ 3
    · exact (
    (ss_one (s_ret (e_conv (e_and (e_isi1 (by rfl) T.n_isinstance (pe_bltn (by rfl) T.n_tuple (by decide +kernel) rfl) kit_tuple (e_var 0 rfl rfl (.inl rfl))) fun hw => (e_and (e_chain c_le c_le e_int (e_bi f_lenT (by rfl) T.n_len PySem.boot_len (a_cons (e_var 0 rfl rfl (.inl rfl)) a_nil)) e_int) fun hw => (e_one (e_bi (f_all rfl (all_isFr l)) (by rfl) T.n_all (by decide +kernel) (a_cons (e_lc (own := [("one", 1)]) rfl sc__law_is_vector.nd (i_tup (e_var 0 rfl rfl (.inl rfl))) (blkOk_by (N := ["value", "one"]) (sc := defScope s__law_is_vector) (by decide +kernel)) rfl (lc_each (fun x => .bool (isFr x)) l (fun x hx => ⟨_, _, _, (fun _ _ _ _ _ => (g_name 1 sc__law_is_vector.nd rfl (.inl rfl))), (fun _ _ _ _ _ => ts_nil), (fun _ _ _ _ _ => (e_call G__law_is_frac room grd (by rfl) T.g__law_is_frac T.F__law_is_frac.kp T.b__law_is_frac (a_cons (e_var 1 rfl rfl (.inl rfl)) a_nil) (⟨_, hs _ rfl _ hx, rfl, rfl⟩))), rfl⟩)) (by omega)) a_nil))))) rfl))))
    · exact (
    (ss_one (s_ret (e_conv (e_and (e_isi1 (by rfl) T.n_isinstance (pe_bltn (by rfl) T.n_tuple (by decide +kernel) rfl) kit_tuple (e_var 0 rfl rfl (.inl rfl))) fun hw => (e_and (u := false) (v := true) (e_convB (e_chain c_le c_le e_int (e_bi f_lenT (by rfl) T.n_len PySem.boot_len (a_cons (e_var 0 rfl rfl (.inl rfl)) a_nil)) e_int) (isV_in hl)) (fun hd => nomatch hd))) (congrArg PyData.bool (isV_out hl).symm)))))
  · exact (
    (ss_one (s_ret (e_conv (e_and (u := false) (v := true) (e_convB (e_isi1 (by rfl) T.n_isinstance (pe_bltn (by rfl) T.n_tuple (by decide +kernel) rfl) kit_tuple (e_var 0 rfl rfl (.inl rfl))) (by simp [h])) (fun hd => nomatch hd)) (congrArg PyData.bool (isV_no h).symm)))))

def R__law_bent (m ds m' : List PyData) (d : PyData) : Prop := ∃ (p : Pot) (v : List Fr), PotOk p ∧ Few v ∧ 1 ≤ v.length ∧ m = potD p ∧ ds = [vec v] ∧ m' = potD (bentV p v).1 ∧ d = (bentV p v).2
theorem ok__law_bent (T : Txt K mg) : FnG P w K mg base CX0 3 T.a__law_bent T.d__law_bent ["pot", "value"] (spOf K (potS R__law_bent)) := by
  have G__law_draw := (ok__law_draw (P := P) (w := w) (base := base) T).mono (by decide : 1 ≤ 2)
  have G__law_pick := (ok__law_pick (P := P) (w := w) (base := base) T).mono (by decide : 2 ≤ 2)
  refine fn_pot T.F__law_bent sc__law_bent (by rintro _ _ _ _ ⟨_, _, _, _, _, _, rfl, _⟩; rfl) fun cdv A outer s H E room grd q m ds m' d hR => ?_
  obtain ⟨p, v, hp, hv, h1, rfl, rfl, rfl, rfl⟩ := hR
  have B := bent_ok hp hv h1
  have ln : (v.map fr).length ≤ 3 := by rw [List.length_map]; exact hv.1
  have hm : CMulW 2 (bX p v).1 := mulW (m := 2) (bitsS2 (by decide)) B.x.1 (by decide)
  have hm2 : CMulW 2 (bX p v).2 := mulW (m := 2) (bitsS2 (by decide)) B.x.2 (by decide)
  have l1 := cutD_len (ds := v.map fr) (m := none) (n := some (bA p v).2)
  have l2 := cutD_len (ds := v.map fr) (m := some ((bA p v).2 + 1)) (n := none)
  exact (
    (ss_cons (s_set 2 (e_callP 0 G__law_draw room grd (by rfl) T.g__law_draw T.F__law_draw.kp T.b__law_draw rfl rfl (a_cons (e_bi f_lenT (by rfl) T.n_len PySem.boot_len (a_cons (e_var 1 rfl rfl (.inl rfl)) a_nil)) a_nil) rfl rfl (⟨p, ((v.map fr).length : Int), hp, (by rw [List.length_map]; omega), bits_len (by omega), rfl, rfl, (by rw [List.length_map]; exact (rfl : potD (bA p v).1 = _)), (by rw [List.length_map]; exact (rfl : PyData.int (bA p v).2 = _))⟩) rfl (.inl rfl)) sc__law_bent.nd rfl (.inl rfl))
    (ss_cons (s_asg (e_ixT (e_var 1 rfl rfl (.inl rfl)) (e_var 2 rfl rfl (.inl rfl)) (pick_map (0, 1) B.a0 B.a1)) (g_tup rfl (gs_cons (g_name 3 sc__law_bent.nd rfl (.inl rfl)) (gs_cons (g_name 4 sc__law_bent.nd rfl (.inl rfl)) gs_nil))))
    (ss_cons (s_set 5 (e_callP 0 G__law_pick room grd (by rfl) T.g__law_pick T.F__law_pick.kp T.b__law_pick rfl rfl (a_cons (e_lst (a_cons e_non (a_cons e_int (a_cons (e_tup (a_cons (e_add (e_mul hm e_int (e_var 3 rfl rfl (.inl rfl))) e_int) (a_cons (e_add (e_mul hm2 e_int (e_var 4 rfl rfl (.inl rfl))) e_int) a_nil))) (a_cons (e_tup (a_cons (e_var 3 rfl rfl (.inl rfl)) (a_cons (e_sub e_int (e_var 4 rfl rfl (.inl rfl))) a_nil))) (a_cons (e_lst (a_cons (e_var 3 rfl rfl (.inl rfl)) (a_cons (e_var 4 rfl rfl (.inl rfl)) a_nil))) (a_cons (e_tup (a_cons (e_var 3 rfl rfl (.inl rfl)) a_nil)) (a_cons (e_tup (a_cons (e_var 3 rfl rfl (.inl rfl)) (a_cons (e_var 4 rfl rfl (.inl rfl)) (a_cons e_int a_nil)))) (a_cons (e_tup (a_cons e_bl (a_cons e_int a_nil))) (a_cons (e_tup (a_cons e_int (a_cons e_int a_nil))) (a_cons (e_tup (a_cons (e_var 3 rfl rfl (.inl rfl)) (a_cons e_non a_nil))) (a_cons e_str a_nil)))))))))))) a_nil) rfl rfl (⟨(bA p v).1, odds (bX p v), B.pa, (show 0 < 11 by decide), (show 11 ≤ 1000000 by decide), rfl, rfl, (rfl : potD (bB p v).1 = _), pick_get B.b0 B.b1⟩) rfl (.inl rfl)) sc__law_bent.nd rfl (.inl rfl))
    (ss_cons (s_set 6 (e_lst (a_cons (e_bt f_listT (by rfl) T.n_list (by decide +kernel) (a_cons (e_var 1 rfl rfl (.inl rfl)) a_nil)) (a_cons (e_catT (e_var 1 rfl rfl (.inl rfl)) (e_var 1 rfl rfl (.inl rfl)) (by omega)) (a_cons (e_tup a_nil) (a_cons e_non (a_cons e_dict0 (a_cons e_int (a_cons (e_catT (e_catT (e_slT (e_var 1 rfl rfl (.inl rfl)) o_none (o_some (e_var 2 rfl rfl (.inl rfl)))) (e_tup (a_cons (e_var 5 rfl rfl (.inl rfl)) a_nil)) (by simp only [List.length_append, List.length_singleton]; omega)) (e_slT (e_var 1 rfl rfl (.inl rfl)) (o_some (e_add (e_var 2 rfl rfl (.inl rfl)) e_int)) o_none) (by simp only [List.length_append, List.length_singleton]; omega)) (a_cons (e_catT (e_catT (e_slT (e_var 1 rfl rfl (.inl rfl)) o_none (o_some (e_var 2 rfl rfl (.inl rfl)))) (e_tup (a_cons (e_var 5 rfl rfl (.inl rfl)) a_nil)) (by simp only [List.length_append, List.length_singleton]; omega)) (e_slT (e_var 1 rfl rfl (.inl rfl)) (o_some (e_add (e_var 2 rfl rfl (.inl rfl)) e_int)) o_none) (by simp only [List.length_append, List.length_singleton]; omega)) a_nil))))))))) sc__law_bent.nd rfl (.inl rfl))
    (ss_one (s_ret (e_conv (e_callP 0 G__law_pick room grd (by rfl) T.g__law_pick T.F__law_pick.kp T.b__law_pick rfl rfl (a_cons (e_var 6 rfl rfl (.inl rfl)) a_nil) rfl rfl (⟨(bB p v).1, kinds v (bA p v).2 (bO p v), B.pb, (show 0 < 8 by decide), (show 8 ≤ 1000000 by decide), rfl, rfl, (rfl : potD (bC p v).1 = _), pick_get B.c0 B.c1⟩) rfl (.inl rfl)) rfl) (one_bor 0 rfl))))))))

def R__law_right (m ds m' : List PyData) (d : PyData) : Prop := ∃ p : Pot, PotOk p ∧ m = potD p ∧ ds = [] ∧ m' = potD (rightP p) ∧ d = .bool true
theorem ok__law_right (T : Txt K mg) : FnG P w K mg base CX0 7 T.a__law_right T.d__law_right ["pot"] (spOf K (potS R__law_right)) := by
  have G__law_some := (ok__law_some (P := P) (w := w) (base := base) T).mono (by decide : 3 ≤ 6)
  have G__law_vector := (ok__law_vector (P := P) (w := w) (base := base) T).mono (by decide : 4 ≤ 6)
  have G__law_vsum := (ok__law_vsum (P := P) (w := w) (base := base) T).mono (by decide : 3 ≤ 6)
  have G__law_vless := (ok__law_vless (P := P) (w := w) (base := base) T).mono (by decide : 3 ≤ 6)
  have G_vector_sum := (ok_vector_sum (P := P) (w := w) (base := base) T).mono (by decide : 6 ≤ 6)
  have G_vector_less := (ok_vector_less (P := P) (w := w) (base := base) T).mono (by decide : 6 ≤ 6)
  have G_vector_times := (ok_vector_times (P := P) (w := w) (base := base) T).mono (by decide : 5 ≤ 6)
  have G_vector_of := (ok_vector_of (P := P) (w := w) (base := base) T).mono (by decide : 2 ≤ 6)
  have G_nought_of := (ok_nought_of (P := P) (w := w) (base := base) T).mono (by decide : 3 ≤ 6)
  have G__law_draw := (ok__law_draw (P := P) (w := w) (base := base) T).mono (by decide : 1 ≤ 6)
  have G__law_bent := (ok__law_bent (P := P) (w := w) (base := base) T).mono (by decide : 3 ≤ 6)
  have G__law_is_vector := (ok__law_is_vector (P := P) (w := w) (base := base) T).mono (by decide : 3 ≤ 6)
  have G__law_times := (ok__law_times (P := P) (w := w) (base := base) T).mono (by decide : 2 ≤ 6)
  have G_is_vector := (ok_is_vector (P := P) (w := w) (base := base) T).mono (by decide : 4 ≤ 6)
  refine fn_pot T.F__law_right sc__law_right (by rintro _ _ _ _ ⟨p, _, _, rfl, _⟩; rfl) fun cdv A outer s H E room grd q m ds m' d hR => ?_
  obtain ⟨p, hp, rfl, rfl, rfl, rfl⟩ := hR
  have B := right_ok hp
  have d0 := B.d0
  have d1 := B.d1
  have w1 := B.w1
  have w3 := B.w3
  have lo : ∀ x ∈ (rO p).2, Low x := fun x hx => (B.fo.2 x hx).1
  have lt : ∀ x ∈ (rT p).2, Low x := fun x hx => (B.ft.2 x hx).1
  exact (
    (ss_cons (s_parC 1 2 rfl (e_add e_int (e_callP 0 G__law_draw room grd (by rfl) T.g__law_draw T.F__law_draw.kp T.b__law_draw rfl rfl (a_cons e_int a_nil) rfl rfl (⟨p, 3, hp, by decide, bitsS (by decide), rfl, rfl, (rfl : potD (rD p).1 = _), (rfl : PyData.int (rD p).2 = _)⟩) rfl (.inr (.inl rfl)))) (e_callP 0 G__law_some room grd (by rfl) T.g__law_some T.F__law_some.kp T.b__law_some rfl rfl a_nil rfl rfl (⟨(rD p).1, B.d, rfl, rfl, (rfl : potD (rN p).1 = _), (rfl : fr (rN p).2 = _)⟩) rfl (.inr (.inl rfl))) sc__law_right.nd rfl rfl (by decide) (.inl rfl) (.inr rfl) (by rfl))
    (ss_cons (s_parC 3 4 rfl (e_callP 0 G__law_vector room grd (by rfl) T.g__law_vector T.F__law_vector.kp T.b__law_vector rfl rfl (a_cons (e_var 1 rfl rfl (.inl rfl)) a_nil) rfl rfl (⟨(rN p).1, 1 + (rD p).2, B.n, by omega, by omega, rfl, rfl, (rfl : potD (rO p).1 = _), (rfl : vec (rO p).2 = _)⟩) rfl (.inr (.inl rfl))) (e_callP 0 G__law_vector room grd (by rfl) T.g__law_vector T.F__law_vector.kp T.b__law_vector rfl rfl (a_cons (e_var 1 rfl rfl (.inl rfl)) a_nil) rfl rfl (⟨(rO p).1, 1 + (rD p).2, B.o, by omega, by omega, rfl, rfl, (rfl : potD (rT p).1 = _), (rfl : vec (rT p).2 = _)⟩) rfl (.inr (.inl rfl))) sc__law_right.nd rfl rfl (by decide) (.inr rfl) (.inl rfl) (by rfl))
    (ss_cons (s_setLc 5 (own := [("at", 12)]) rfl sc__law_right.nd rfl rfl (sw_true rfl rfl rfl (by decide +kernel)) (i_range1 (by rfl) T.n_range (a_cons (e_var 1 rfl rfl (.inl rfl)) a_nil) (by omega)) (blkOk_by (N := ["pot", "dims", "number", "one", "other", "whole", "due", "told", "named", "value", "is_one", "shown", "at", "part", "turn"]) (sc := defScope s__law_right) (by decide +kernel)) rfl (lc_stateT (fun i : Nat => PyData.int (0 + (i : Int))) PyData.int whF (fun b => [some (.bor q (.lst (potD b))), some (.dat (.int (1 + (rD p).2))), some (.dat (fr (rN p).2)), some (.dat (vec (rO p).2)), some (.dat (vec (rT p).2)), none, none, none, none, none, none, none, none, none, none]) (fun _ b => PotOk b) (List.range (1 + (rD p).2).toNat) (rT p).1 (fun x r b hb => ⟨_, _, _, (fun _ _ _ _ _ => (g_name 12 sc__law_right.nd rfl (.inl rfl))), (fun _ _ _ _ _ => ts_nil), (fun _ _ _ _ _ => (e_sub (e_callP 0 G__law_draw room grd (by rfl) T.g__law_draw T.F__law_draw.kp T.b__law_draw rfl rfl (a_cons e_int a_nil) rfl rfl (⟨b, 2001, hb, by decide, bitsS (by decide), rfl, rfl, rfl, rfl⟩) rfl (.inr (.inl rfl))) e_int)), rfl, (draw_ok dc_ok hb (by decide)).1⟩) B.t) (len_map (by rw [List.length_range]; omega)) (Nat.le_of_ble_eq_true rfl))
    (ss_cons (s_set 6 (e_lst (a_cons (e_call G__law_vsum room grd (by rfl) T.g__law_vsum T.F__law_vsum.kp T.b__law_vsum (a_cons (e_var 3 rfl rfl (.inr (.inl rfl))) (a_cons (e_var 4 rfl rfl (.inl rfl)) a_nil)) (⟨(rO p).2, (rT p).2, B.fo, B.ft, rfl, rfl⟩)) (a_cons (e_call G__law_vless room grd (by rfl) T.g__law_vless T.F__law_vless.kp T.b__law_vless (a_cons (e_var 3 rfl rfl (.inr (.inl rfl))) (a_cons (e_var 4 rfl rfl (.inl rfl)) a_nil)) (⟨(rO p).2, (rT p).2, B.fo, B.ft, rfl, rfl⟩)) (a_cons (e_conv (e_bt f_tupL (by rfl) T.n_tuple (by decide +kernel) (a_cons (e_lc (own := [("part", 13)]) rfl sc__law_right.nd (i_tup (e_var 3 rfl rfl (.inr (.inl rfl)))) (blkOk_by (N := ["pot", "dims", "number", "one", "other", "whole", "due", "told", "named", "value", "is_one", "shown", "at", "part", "turn"]) (sc := defScope s__law_right) (by decide +kernel)) rfl (lc_map fr (fun y => fr (fTimes y (rN p).2)) (rO p).2 (fun x hx => ⟨_, _, _, (fun _ _ _ _ _ => (g_name 13 sc__law_right.nd rfl (.inl rfl))), (fun _ _ _ _ _ => ts_nil), (fun _ _ _ _ _ => (e_call G__law_times room grd (by rfl) T.g__law_times T.F__law_times.kp T.b__law_times (a_cons (e_var 13 rfl rfl (.inl rfl)) (a_cons (e_var 2 rfl rfl (.inr (.inl rfl))) a_nil)) (⟨x, (rN p).2, (B.fo.2 x hx).1, B.nl, (B.fo.2 x hx).2.up (by decide), B.nb.up (by decide), rfl, rfl⟩))), rfl⟩)) (len_map (by have := B.fo.1; omega))) a_nil)) (vec_map (f := fun y => fTimes y (rN p).2))) a_nil)))) sc__law_right.nd rfl (.inl rfl))
    (ss_cons (s_set 6 (e_catLc (e_var 6 rfl rfl (.inl rfl)) (e_lst (a_cons (e_conv (e_bt f_tupL (by rfl) T.n_tuple (by decide +kernel) (a_cons (e_lc (own := [("part", 13)]) rfl sc__law_right.nd (i_list (e_var 5 rfl rfl (.inl rfl))) (blkOk_by (N := ["pot", "dims", "number", "one", "other", "whole", "due", "told", "named", "value", "is_one", "shown", "at", "part", "turn"]) (sc := defScope s__law_right) (by decide +kernel)) rfl (lc_map PyData.int (fun i => .tuple [.int i, .int 1]) (rW p).2 (fun x hx => ⟨_, _, _, (fun _ _ _ _ _ => (g_name 13 sc__law_right.nd rfl (.inl rfl))), (fun _ _ _ _ _ => ts_nil), (fun _ _ _ _ _ => (e_tup (a_cons (e_var 13 rfl rfl (.inl rfl)) (a_cons e_int a_nil)))), rfl⟩)) (len_map (show (rW p).2.length ≤ 1000 by omega))) a_nil)) wholes_eq) (a_cons (e_repTn (e_tup (a_cons (e_tup (a_cons e_int (a_cons e_int a_nil))) a_nil)) (e_var 1 rfl rfl (.inl rfl)) (by omega) (by omega) (fun z => nomatch z) (by decide) (rep_vec (p := (0, 1)) _)) a_nil))) (Nat.le_of_ble_eq_true rfl) (show [_, _, _] ++ [_, _] = [_, _, _, _, _] from rfl)) sc__law_right.nd rfl (.inl rfl))
    (ss_cons (s_set 7 (e_lst (a_cons (e_call G_vector_sum room grd (by rfl) T.g_vector_sum T.F_vector_sum.kp T.b_vector_sum (a_cons (e_var 3 rfl rfl (.inr (.inl rfl))) (a_cons (e_var 4 rfl rfl (.inl rfl)) a_nil)) (⟨(rO p).2, (rT p).2, B.o1, B.fo, B.ft, B.len, rfl, rfl⟩)) (a_cons (e_call G_vector_less room grd (by rfl) T.g_vector_less T.F_vector_less.kp T.b_vector_less (a_cons (e_var 3 rfl rfl (.inr (.inl rfl))) (a_cons (e_var 4 rfl rfl (.inl rfl)) a_nil)) (⟨(rO p).2, (rT p).2, B.o1, B.fo, B.ft, B.len, rfl, rfl⟩)) (a_cons (e_call G_vector_times room grd (by rfl) T.g_vector_times T.F_vector_times.kp T.b_vector_times (a_cons (e_var 3 rfl rfl (.inr (.inl rfl))) (a_cons (e_var 2 rfl rfl (.inr (.inl rfl))) a_nil)) (⟨(rO p).2, (rN p).2, B.o1, B.fo, B.nl, B.nb, rfl, rfl⟩)) (a_cons (e_call G_vector_of room grd (by rfl) T.g_vector_of T.F_vector_of.kp T.b_vector_of (a_cons (e_var 5 rfl rfl (.inl rfl)) a_nil) (⟨(rW p).2, w1, w3, .inl rfl, rfl⟩)) (a_cons (e_call G_nought_of room grd (by rfl) T.g_nought_of T.F_nought_of.kp T.b_nought_of (a_cons (e_var 1 rfl rfl (.inl rfl)) a_nil) (⟨1 + (rD p).2, (by omega), (by omega), rfl, rfl⟩)) a_nil)))))) sc__law_right.nd rfl (.inl rfl))
    (ss_cons (s_set 8 (e_lst (a_cons (e_callK0 G_vector_sum room grd (by rfl) T.g_vector_sum T.F_vector_sum.kp T.kb_vector_sum_other_vector (k_cons (e_var 4 rfl rfl (.inl rfl)) (k_cons (e_var 3 rfl rfl (.inr (.inl rfl))) k_nil)) rfl (⟨(rO p).2, (rT p).2, B.o1, B.fo, B.ft, B.len, rfl, rfl⟩)) (a_cons (e_callK0 G_vector_less room grd (by rfl) T.g_vector_less T.F_vector_less.kp T.kb_vector_less_other_vector (k_cons (e_var 4 rfl rfl (.inl rfl)) (k_cons (e_var 3 rfl rfl (.inr (.inl rfl))) k_nil)) rfl (⟨(rO p).2, (rT p).2, B.o1, B.fo, B.ft, B.len, rfl, rfl⟩)) (a_cons (e_callK0 G_vector_times room grd (by rfl) T.g_vector_times T.F_vector_times.kp T.kb_vector_times_a_vector (k_cons (e_var 2 rfl rfl (.inr (.inl rfl))) (k_cons (e_var 3 rfl rfl (.inr (.inl rfl))) k_nil)) rfl (⟨(rO p).2, (rN p).2, B.o1, B.fo, B.nl, B.nb, rfl, rfl⟩)) a_nil)))) sc__law_right.nd rfl (.inl rfl))
    (ss_cons (s_set 8 (e_catLc (e_var 8 rfl rfl (.inl rfl)) (e_lst (a_cons (e_callK0 G_vector_of room grd (by rfl) T.g_vector_of T.F_vector_of.kp T.kb_vector_of_numbers (k_cons (e_conv (e_bt f_tupL (by rfl) T.n_tuple (by decide +kernel) (a_cons (e_var 5 rfl rfl (.inl rfl)) a_nil)) rfl) k_nil) rfl (⟨(rW p).2, w1, w3, .inr rfl, rfl⟩)) (a_cons (e_callK0 G_nought_of room grd (by rfl) T.g_nought_of T.F_nought_of.kp T.kb_nought_of_dims (k_cons (e_var 1 rfl rfl (.inl rfl)) k_nil) rfl (⟨1 + (rD p).2, (by omega), (by omega), rfl, rfl⟩)) a_nil))) (Nat.le_of_ble_eq_true rfl) (show [_, _, _] ++ [_, _] = [_, _, _, _, _] from rfl)) sc__law_right.nd rfl (.inl rfl))
    (ss_cons (s_ifF (t_conv (t_w (w_or (t_cm c_neS (e_bi (f_reprL grd room.units B.sh) (by rfl) T.n_repr (by decide +kernel) (a_cons (e_lst (a_cons (e_var 7 rfl rfl (.inl rfl)) (a_cons (e_var 8 rfl rfl (.inl rfl)) a_nil))) a_nil)) (e_bi (f_reprL grd room.units B.sh) (by rfl) T.n_repr (by decide +kernel) (a_cons (e_lst (a_cons (e_var 6 rfl rfl (.inl rfl)) (a_cons (e_var 6 rfl rfl (.inl rfl)) a_nil))) a_nil)) (nomark _)) fun hw => (w_or1 (t_cm (c_neQ room.units (by rw [vec_plus_minus B.len lo lt]; exact vec_shaped B.fo.1) (vec_shaped B.fo.1)) (e_call G_vector_less room grd (by rfl) T.g_vector_less T.F_vector_less.kp T.b_vector_less (a_cons (e_ixL (e_var 7 rfl rfl (.inl rfl)) e_int rfl) (a_cons (e_var 4 rfl rfl (.inl rfl)) a_nil)) (⟨vPlus (rO p).2 (rT p).2, (rT p).2, (by have := B.fS1; have := B.len; have := B.o1; omega), B.fS, B.ft, B.fS1, rfl, rfl⟩)) (e_var 3 rfl rfl (.inr (.inl rfl))) (nomark _))))) (or_ff (sames _) (by rw [vec_plus_minus B.len lo lt, vec_eqv]; rfl))) (
      ss_nil))
    (ss_cons (s_forF [9, 10, 11] (i_list (e_catLc (e_lst (a_cons (e_var 3 rfl rfl (.inr (.inl rfl))) (a_cons (e_repTn (e_tup (a_cons (e_tup (a_cons e_int (a_cons e_int a_nil))) a_nil)) e_int (by decide) (by decide) (fun z => nomatch z) (by decide) (rep_vec (p := (0, 1)) _)) a_nil))) (e_lc (own := [("turn", 14)]) rfl sc__law_right.nd (i_range1 (by rfl) T.n_range (a_cons e_int a_nil) (by decide)) (blkOk_by (N := ["pot", "dims", "number", "one", "other", "whole", "due", "told", "named", "value", "is_one", "shown", "at", "part", "turn"]) (sc := defScope s__law_right) (by decide +kernel)) rfl (lc_state (fun i : Nat => PyData.int (0 + (i : Int))) (bentF (rO p).2) (fun b => [some (.bor q (.lst (potD b))), some (.dat (.int (1 + (rD p).2))), some (.dat (fr (rN p).2)), some (.dat (vec (rO p).2)), some (.dat (vec (rT p).2)), some (.dat (.list ((rW p).2.map .int))), some (.dat (.list (dueL p))), some (.dat (.list (dueL p))), some (.dat (.list (dueL p))), none, none, none, none, none, none]) (fun _ b => PotOk b) (List.range (Int.toNat 8)) (rW p).1 (fun x r b hb => ⟨_, _, _, (fun _ _ _ _ _ => (g_name 14 sc__law_right.nd rfl (.inl rfl))), (fun _ _ _ _ _ => ts_nil), (fun _ _ _ _ _ => (e_callP 0 G__law_bent room grd (by rfl) T.g__law_bent T.F__law_bent.kp T.b__law_bent rfl rfl (a_cons (e_var 3 rfl rfl (.inr (.inl rfl))) a_nil) rfl rfl (⟨b, (rO p).2, hb, B.fo, B.o1, rfl, rfl, rfl, rfl⟩) rfl (.inr (.inl rfl)))), rfl, (bent_ok hb B.fo B.o1).pc⟩) B.w) (by rw [rangeD_len]; decide)) (by rw [runL_len, List.length_range]; exact Nat.le_of_ble_eq_true rfl) rfl)) (forD_each [9, 10, 11] Okv _ (fun x hx => ⟨_, _, (g_name 9 sc__law_right.nd rfl (.inl rfl)),         (ss_cons (s_par 10 11 rfl (e_call G__law_is_vector room grd (by rfl) T.g__law_is_vector T.F__law_is_vector.kp T.b__law_is_vector (a_cons (e_var 9 rfl rfl (.inl rfl)) a_nil) (⟨x, hx.1, rfl, rfl⟩)) (e_bi (f_reprA grd room.units hx.2) (by rfl) T.n_repr (by decide +kernel) (a_cons (e_var 9 rfl rfl (.inl rfl)) a_nil)) sc__law_right.nd rfl rfl (by decide) rfl rfl (by rfl))
        (ss_one (s_ifF (t_conv (t_w (w_or (t_cm c_neS (e_bi (f_reprL grd room.units (showy (n := 2) (okl (okc okb (okc okb okn))) (by decide) (by simp [nod, nodA]))) (by rfl) T.n_repr (by decide +kernel) (a_cons (e_lst (a_cons (e_call G_is_vector room grd (by rfl) T.g_is_vector T.F_is_vector.kp T.b_is_vector (a_cons (e_var 9 rfl rfl (.inl rfl)) a_nil) (⟨_, rfl, rfl⟩)) (a_cons (e_callK0 G_is_vector room grd (by rfl) T.g_is_vector T.F_is_vector.kp T.kb_is_vector_value (k_cons (e_var 9 rfl rfl (.inl rfl)) k_nil) rfl (⟨_, rfl, rfl⟩)) a_nil))) a_nil)) (e_bi (f_reprL grd room.units (showy (n := 2) (okl (okc okb (okc okb okn))) (by decide) (by simp [nod, nodA]))) (by rfl) T.n_repr (by decide +kernel) (a_cons (e_lst (a_cons (e_var 10 rfl rfl (.inl rfl)) (a_cons (e_var 10 rfl rfl (.inl rfl)) a_nil))) a_nil)) (nomark _)) fun hw => (w_or1 (t_cm c_neS (e_bi (f_reprA grd room.units hx.2) (by rfl) T.n_repr (by decide +kernel) (a_cons (e_var 9 rfl rfl (.inl rfl)) a_nil)) (e_var 11 rfl rfl (.inl rfl)) (nomark _))))) (or_ff (sames _) (sames _))) (
          ss_nil)))), rfl⟩) B.ok) PassesOwn.never rfl)
    (ss_one (s_ret (e_conv e_bl rfl) (one_bor 0 rfl))))))))))))))

theorem ok_law (T : Txt K mg) : FnG P w K mg base CX0 8 T.a_law T.d_law ["script"] (spOf K (lawS 63)) := by
  have G__law_pot := (ok__law_pot (P := P) (w := w) (base := base) T).mono (by decide : 1 ≤ 7)
  have G__law_right := (ok__law_right (P := P) (w := w) (base := base) T).mono (by decide : 7 ≤ 7)
  refine fn_scr T.F_law sc_law (by rintro _ _ _ ⟨rfl, _, _⟩; rfl) fun cdv A outer s H E room grd ns ds r hR => ?_
  obtain ⟨rfl, hn, rfl⟩ := hR
  exact (
    (ss_cons (s_forF [1, 2, 3] (i_range1 (by rfl) T.n_range (a_cons (e_bi (f_max rfl) (by rfl) T.n_max (by decide +kernel) (a_cons e_int (a_cons (e_bi (f_min rfl) (by rfl) T.n_min (by decide +kernel) (a_cons e_int (a_cons (e_lenS 0 (by rfl) T.n_len rfl rfl (.inl rfl)) a_nil))) a_nil))) a_nil) (by omega)) (forD_fold [1, 2, 3] (fun i : Nat => PyData.int (0 + (i : Int))) (fun (_ : Unit) (_ : Nat) => ()) (fun _ => [some (.scr ns), none, none, none]) (fun r _ => ∀ x ∈ r, x < 64) (List.range (max 1 (min 3 (ns.length : Int))).toNat) () (fun x r b h => ⟨_, _, (g_name 1 sc_law.nd rfl (.inl rfl)),         (ss_cons (s_setO 2 (c_callS 0 G__law_pot room grd (by rfl) T.g__law_pot T.F__law_pot.kp T.b__law_pot rfl (a_cons (e_var 1 rfl rfl (.inl rfl)) a_nil) (⟨0 + (x : Int), (by omega), (by have := h x List.mem_cons_self; omega), rfl, rfl⟩) rfl (.inl rfl)) sc_law.nd rfl (.inr rfl))
        (ss_one (s_ifF (t_conv (t_not (t_val (e_bi (f_all rfl rfl) (by rfl) T.n_all (by decide +kernel) (a_cons (e_lc (own := [("turn", 3)]) rfl sc_law.nd (i_range1 (by rfl) T.n_range (a_cons e_int a_nil) (by decide)) (blkOk_by (N := ["script", "k", "pot", "turn"]) (sc := defScope s_law) (by decide +kernel)) rfl (lc_stateT (fun i : Nat => PyData.int (0 + (i : Int))) PyData.bool (fun b (_ : Nat) => (rightP b, true)) (fun b => [some (.scr ns), some (.dat (.int (0 + (x : Int)))), some (.own (.lst (potD b))), none]) (fun _ b => PotOk b) (List.range (Int.toNat 3)) (pot0 ns (0 + (x : Int))) (fun x r b hb => ⟨_, _, _, (fun _ _ _ _ _ => (g_name 3 sc_law.nd rfl (.inl rfl))), (fun _ _ _ _ _ => ts_nil), (fun y1 y2 y3 y4 y5 => e_conv ((fun _ _ _ _ _ => (e_callP 2 G__law_right room grd (by rfl) T.g__law_right T.F__law_right.kp T.b__law_right rfl rfl a_nil rfl rfl (⟨b, hb, rfl, rfl, rfl, rfl⟩) rfl (.inr (.inl rfl)))) y1 y2 y3 y4 y5) rfl), rfl, (right_ok hb).e⟩) (pot0_ok ns _)) (by rw [rangeD_len]; decide)) a_nil)))) (by rw [runT_true (g := fun b (_ : Nat) => rightP b)]; rfl)) (
          ss_nil)))), rfl, fun y hy => h y (List.mem_cons_of_mem _ hy)⟩) (fun x hx => by have := List.mem_range.mp hx; omega)) PassesOwn.never rfl)
    (ss_one (s_ret (e_conv e_bl rfl)))))
end

theorem all_mk {l : PySem.W.OpenLaw} {w : World} {K : PySem.W.Frag} {h : Heap} {mg : Str → Option Value} {fa : Addr} (X : K.In h) (G : h.Ns mainGlobals mg) (hfa : mg "law" = some (.ref fa))
    {f0 : Addr} {od0 an0 : Option Addr} {sl0 : Array (Option Value)} {oc0 kV0 dc0 pm0 cd0 ct0 : Value} (a0 : PySem.W.nsIn K mainGlobals "is_integer" = some (some (.ref f0))) (l0 : K.lookup f0 = some ⟨oc0, od0, .func (PySem.W.fnOf "is_integer" "is_integer" (defArgs s_is_integer) (defBody s_is_integer) (defScope s_is_integer) .none kV0 dc0 pm0 an0 cd0 ct0), sl0⟩) (c0 : PySem.W.codeIn K cd0 "is_integer" = true) (k0 : PySem.W.keepIn K (.ref f0) = true)
    {f1 : Addr} {od1 an1 : Option Addr} {sl1 : Array (Option Value)} {oc1 kV1 dc1 pm1 cd1 ct1 : Value} (a1 : PySem.W.nsIn K mainGlobals "is_within" = some (some (.ref f1))) (l1 : K.lookup f1 = some ⟨oc1, od1, .func (PySem.W.fnOf "is_within" "is_within" (defArgs s_is_within) (defBody s_is_within) (defScope s_is_within) .none kV1 dc1 pm1 an1 cd1 ct1), sl1⟩) (c1 : PySem.W.codeIn K cd1 "is_within" = true) (k1 : PySem.W.keepIn K (.ref f1) = true)
    {f2 : Addr} {od2 an2 : Option Addr} {sl2 : Array (Option Value)} {oc2 kV2 dc2 pm2 cd2 ct2 : Value} (a2 : PySem.W.nsIn K mainGlobals "fraction" = some (some (.ref f2))) (l2 : K.lookup f2 = some ⟨oc2, od2, .func (PySem.W.fnOf "fraction" "fraction" (defArgs s_fraction) (defBody s_fraction) (defScope s_fraction) .none kV2 dc2 pm2 an2 cd2 ct2), sl2⟩) (c2 : PySem.W.codeIn K cd2 "fraction" = true) (k2 : PySem.W.keepIn K (.ref f2) = true)
    {f3 : Addr} {od3 an3 : Option Addr} {sl3 : Array (Option Value)} {oc3 kV3 dc3 pm3 cd3 ct3 : Value} (a3 : PySem.W.nsIn K mainGlobals "added" = some (some (.ref f3))) (l3 : K.lookup f3 = some ⟨oc3, od3, .func (PySem.W.fnOf "added" "added" (defArgs s_added) (defBody s_added) (defScope s_added) .none kV3 dc3 pm3 an3 cd3 ct3), sl3⟩) (c3 : PySem.W.codeIn K cd3 "added" = true) (k3 : PySem.W.keepIn K (.ref f3) = true)
    {f4 : Addr} {od4 an4 : Option Addr} {sl4 : Array (Option Value)} {oc4 kV4 dc4 pm4 cd4 ct4 : Value} (a4 : PySem.W.nsIn K mainGlobals "taken" = some (some (.ref f4))) (l4 : K.lookup f4 = some ⟨oc4, od4, .func (PySem.W.fnOf "taken" "taken" (defArgs s_taken) (defBody s_taken) (defScope s_taken) .none kV4 dc4 pm4 an4 cd4 ct4), sl4⟩) (c4 : PySem.W.codeIn K cd4 "taken" = true) (k4 : PySem.W.keepIn K (.ref f4) = true)
    {f5 : Addr} {od5 an5 : Option Addr} {sl5 : Array (Option Value)} {oc5 kV5 dc5 pm5 cd5 ct5 : Value} (a5 : PySem.W.nsIn K mainGlobals "scaled" = some (some (.ref f5))) (l5 : K.lookup f5 = some ⟨oc5, od5, .func (PySem.W.fnOf "scaled" "scaled" (defArgs s_scaled) (defBody s_scaled) (defScope s_scaled) .none kV5 dc5 pm5 an5 cd5 ct5), sl5⟩) (c5 : PySem.W.codeIn K cd5 "scaled" = true) (k5 : PySem.W.keepIn K (.ref f5) = true)
    {f6 : Addr} {od6 an6 : Option Addr} {sl6 : Array (Option Value)} {oc6 kV6 dc6 pm6 cd6 ct6 : Value} (a6 : PySem.W.nsIn K mainGlobals "is_fraction" = some (some (.ref f6))) (l6 : K.lookup f6 = some ⟨oc6, od6, .func (PySem.W.fnOf "is_fraction" "is_fraction" (defArgs s_is_fraction) (defBody s_is_fraction) (defScope s_is_fraction) .none kV6 dc6 pm6 an6 cd6 ct6), sl6⟩) (c6 : PySem.W.codeIn K cd6 "is_fraction" = true) (k6 : PySem.W.keepIn K (.ref f6) = true)
    {f7 : Addr} {od7 an7 : Option Addr} {sl7 : Array (Option Value)} {oc7 kV7 dc7 pm7 cd7 ct7 : Value} (a7 : PySem.W.nsIn K mainGlobals "nought" = some (some (.ref f7))) (l7 : K.lookup f7 = some ⟨oc7, od7, .func (PySem.W.fnOf "nought" "nought" (defArgs s_nought) (defBody s_nought) (defScope s_nought) .none kV7 dc7 pm7 an7 cd7 ct7), sl7⟩) (c7 : PySem.W.codeIn K cd7 "nought" = true) (k7 : PySem.W.keepIn K (.ref f7) = true)
    {f8 : Addr} {od8 an8 : Option Addr} {sl8 : Array (Option Value)} {oc8 kV8 dc8 pm8 cd8 ct8 : Value} (a8 : PySem.W.nsIn K mainGlobals "joined" = some (some (.ref f8))) (l8 : K.lookup f8 = some ⟨oc8, od8, .func (PySem.W.fnOf "joined" "joined" (defArgs s_joined) (defBody s_joined) (defScope s_joined) .none kV8 dc8 pm8 an8 cd8 ct8), sl8⟩) (c8 : PySem.W.codeIn K cd8 "joined" = true) (k8 : PySem.W.keepIn K (.ref f8) = true)
    {f9 : Addr} {od9 an9 : Option Addr} {sl9 : Array (Option Value)} {oc9 kV9 dc9 pm9 cd9 ct9 : Value} (a9 : PySem.W.nsIn K mainGlobals "apart" = some (some (.ref f9))) (l9 : K.lookup f9 = some ⟨oc9, od9, .func (PySem.W.fnOf "apart" "apart" (defArgs s_apart) (defBody s_apart) (defScope s_apart) .none kV9 dc9 pm9 an9 cd9 ct9), sl9⟩) (c9 : PySem.W.codeIn K cd9 "apart" = true) (k9 : PySem.W.keepIn K (.ref f9) = true)
    {f10 : Addr} {od10 an10 : Option Addr} {sl10 : Array (Option Value)} {oc10 kV10 dc10 pm10 cd10 ct10 : Value} (a10 : PySem.W.nsIn K mainGlobals "stretched" = some (some (.ref f10))) (l10 : K.lookup f10 = some ⟨oc10, od10, .func (PySem.W.fnOf "stretched" "stretched" (defArgs s_stretched) (defBody s_stretched) (defScope s_stretched) .none kV10 dc10 pm10 an10 cd10 ct10), sl10⟩) (c10 : PySem.W.codeIn K cd10 "stretched" = true) (k10 : PySem.W.keepIn K (.ref f10) = true)
    {f11 : Addr} {od11 an11 : Option Addr} {sl11 : Array (Option Value)} {oc11 kV11 dc11 pm11 cd11 ct11 : Value} (a11 : PySem.W.nsIn K mainGlobals "is_any_vector" = some (some (.ref f11))) (l11 : K.lookup f11 = some ⟨oc11, od11, .func (PySem.W.fnOf "is_any_vector" "is_any_vector" (defArgs s_is_any_vector) (defBody s_is_any_vector) (defScope s_is_any_vector) .none kV11 dc11 pm11 an11 cd11 ct11), sl11⟩) (c11 : PySem.W.codeIn K cd11 "is_any_vector" = true) (k11 : PySem.W.keepIn K (.ref f11) = true)
    {f12 : Addr} {od12 an12 : Option Addr} {sl12 : Array (Option Value)} {oc12 kV12 dc12 pm12 cd12 ct12 : Value} (a12 : PySem.W.nsIn K mainGlobals "want_vector" = some (some (.ref f12))) (l12 : K.lookup f12 = some ⟨oc12, od12, .func (PySem.W.fnOf "want_vector" "want_vector" (defArgs s_want_vector) (defBody s_want_vector) (defScope s_want_vector) .none kV12 dc12 pm12 an12 cd12 ct12), sl12⟩) (c12 : PySem.W.codeIn K cd12 "want_vector" = true) (k12 : PySem.W.keepIn K (.ref f12) = true)
    {f13 : Addr} {od13 an13 : Option Addr} {sl13 : Array (Option Value)} {oc13 kV13 dc13 pm13 cd13 ct13 : Value} (a13 : PySem.W.nsIn K mainGlobals "want_alike" = some (some (.ref f13))) (l13 : K.lookup f13 = some ⟨oc13, od13, .func (PySem.W.fnOf "want_alike" "want_alike" (defArgs s_want_alike) (defBody s_want_alike) (defScope s_want_alike) .none kV13 dc13 pm13 an13 cd13 ct13), sl13⟩) (c13 : PySem.W.codeIn K cd13 "want_alike" = true) (k13 : PySem.W.keepIn K (.ref f13) = true)
    {f14 : Addr} {od14 an14 : Option Addr} {sl14 : Array (Option Value)} {oc14 kV14 dc14 pm14 cd14 ct14 : Value} (a14 : PySem.W.nsIn K mainGlobals "is_vector" = some (some (.ref f14))) (l14 : K.lookup f14 = some ⟨oc14, od14, .func (PySem.W.fnOf "is_vector" "is_vector" (defArgs s_is_vector) (defBody s_is_vector) (defScope s_is_vector) .none kV14 dc14 pm14 an14 cd14 ct14), sl14⟩) (c14 : PySem.W.codeIn K cd14 "is_vector" = true) (k14 : PySem.W.keepIn K (.ref f14) = true)
    {f15 : Addr} {od15 an15 : Option Addr} {sl15 : Array (Option Value)} {oc15 kV15 dc15 pm15 cd15 ct15 : Value} (a15 : PySem.W.nsIn K mainGlobals "nought_of" = some (some (.ref f15))) (l15 : K.lookup f15 = some ⟨oc15, od15, .func (PySem.W.fnOf "nought_of" "nought_of" (defArgs s_nought_of) (defBody s_nought_of) (defScope s_nought_of) .none kV15 dc15 pm15 an15 cd15 ct15), sl15⟩) (c15 : PySem.W.codeIn K cd15 "nought_of" = true) (k15 : PySem.W.keepIn K (.ref f15) = true)
    {f16 : Addr} {od16 an16 : Option Addr} {sl16 : Array (Option Value)} {oc16 kV16 dc16 pm16 cd16 ct16 : Value} (a16 : PySem.W.nsIn K mainGlobals "vector_sum" = some (some (.ref f16))) (l16 : K.lookup f16 = some ⟨oc16, od16, .func (PySem.W.fnOf "vector_sum" "vector_sum" (defArgs s_vector_sum) (defBody s_vector_sum) (defScope s_vector_sum) .none kV16 dc16 pm16 an16 cd16 ct16), sl16⟩) (c16 : PySem.W.codeIn K cd16 "vector_sum" = true) (k16 : PySem.W.keepIn K (.ref f16) = true)
    {f17 : Addr} {od17 an17 : Option Addr} {sl17 : Array (Option Value)} {oc17 kV17 dc17 pm17 cd17 ct17 : Value} (a17 : PySem.W.nsIn K mainGlobals "vector_less" = some (some (.ref f17))) (l17 : K.lookup f17 = some ⟨oc17, od17, .func (PySem.W.fnOf "vector_less" "vector_less" (defArgs s_vector_less) (defBody s_vector_less) (defScope s_vector_less) .none kV17 dc17 pm17 an17 cd17 ct17), sl17⟩) (c17 : PySem.W.codeIn K cd17 "vector_less" = true) (k17 : PySem.W.keepIn K (.ref f17) = true)
    {f18 : Addr} {od18 an18 : Option Addr} {sl18 : Array (Option Value)} {oc18 kV18 dc18 pm18 cd18 ct18 : Value} (a18 : PySem.W.nsIn K mainGlobals "vector_times" = some (some (.ref f18))) (l18 : K.lookup f18 = some ⟨oc18, od18, .func (PySem.W.fnOf "vector_times" "vector_times" (defArgs s_vector_times) (defBody s_vector_times) (defScope s_vector_times) .none kV18 dc18 pm18 an18 cd18 ct18), sl18⟩) (c18 : PySem.W.codeIn K cd18 "vector_times" = true) (k18 : PySem.W.keepIn K (.ref f18) = true)
    {f19 : Addr} {od19 an19 : Option Addr} {sl19 : Array (Option Value)} {oc19 kV19 dc19 pm19 cd19 ct19 : Value} (a19 : PySem.W.nsIn K mainGlobals "vector_of" = some (some (.ref f19))) (l19 : K.lookup f19 = some ⟨oc19, od19, .func (PySem.W.fnOf "vector_of" "vector_of" (defArgs s_vector_of) (defBody s_vector_of) (defScope s_vector_of) .none kV19 dc19 pm19 an19 cd19 ct19), sl19⟩) (c19 : PySem.W.codeIn K cd19 "vector_of" = true) (k19 : PySem.W.keepIn K (.ref f19) = true)
    {f20 : Addr} {od20 an20 : Option Addr} {sl20 : Array (Option Value)} {oc20 kV20 dc20 pm20 cd20 ct20 : Value} (a20 : PySem.W.nsIn K mainGlobals "_law_pot" = some (some (.ref f20))) (l20 : K.lookup f20 = some ⟨oc20, od20, .func (PySem.W.fnOf "_law_pot" "_law_pot" (defArgs s__law_pot) (defBody s__law_pot) (defScope s__law_pot) .none kV20 dc20 pm20 an20 cd20 ct20), sl20⟩) (c20 : PySem.W.codeIn K cd20 "_law_pot" = true) (k20 : PySem.W.keepIn K (.ref f20) = true)
    {f21 : Addr} {od21 an21 : Option Addr} {sl21 : Array (Option Value)} {oc21 kV21 dc21 pm21 cd21 ct21 : Value} (a21 : PySem.W.nsIn K mainGlobals "_law_draw" = some (some (.ref f21))) (l21 : K.lookup f21 = some ⟨oc21, od21, .func (PySem.W.fnOf "_law_draw" "_law_draw" (defArgs s__law_draw) (defBody s__law_draw) (defScope s__law_draw) .none kV21 dc21 pm21 an21 cd21 ct21), sl21⟩) (c21 : PySem.W.codeIn K cd21 "_law_draw" = true) (k21 : PySem.W.keepIn K (.ref f21) = true)
    {f22 : Addr} {od22 an22 : Option Addr} {sl22 : Array (Option Value)} {oc22 kV22 dc22 pm22 cd22 ct22 : Value} (a22 : PySem.W.nsIn K mainGlobals "_law_pick" = some (some (.ref f22))) (l22 : K.lookup f22 = some ⟨oc22, od22, .func (PySem.W.fnOf "_law_pick" "_law_pick" (defArgs s__law_pick) (defBody s__law_pick) (defScope s__law_pick) .none kV22 dc22 pm22 an22 cd22 ct22), sl22⟩) (c22 : PySem.W.codeIn K cd22 "_law_pick" = true) (k22 : PySem.W.keepIn K (.ref f22) = true)
    {f23 : Addr} {od23 an23 : Option Addr} {sl23 : Array (Option Value)} {oc23 kV23 dc23 pm23 cd23 ct23 : Value} (a23 : PySem.W.nsIn K mainGlobals "_law_frac" = some (some (.ref f23))) (l23 : K.lookup f23 = some ⟨oc23, od23, .func (PySem.W.fnOf "_law_frac" "_law_frac" (defArgs s__law_frac) (defBody s__law_frac) (defScope s__law_frac) .none kV23 dc23 pm23 an23 cd23 ct23), sl23⟩) (c23 : PySem.W.codeIn K cd23 "_law_frac" = true) (k23 : PySem.W.keepIn K (.ref f23) = true)
    {f24 : Addr} {od24 an24 : Option Addr} {sl24 : Array (Option Value)} {oc24 kV24 dc24 pm24 cd24 ct24 : Value} (a24 : PySem.W.nsIn K mainGlobals "_law_plus" = some (some (.ref f24))) (l24 : K.lookup f24 = some ⟨oc24, od24, .func (PySem.W.fnOf "_law_plus" "_law_plus" (defArgs s__law_plus) (defBody s__law_plus) (defScope s__law_plus) .none kV24 dc24 pm24 an24 cd24 ct24), sl24⟩) (c24 : PySem.W.codeIn K cd24 "_law_plus" = true) (k24 : PySem.W.keepIn K (.ref f24) = true)
    {f25 : Addr} {od25 an25 : Option Addr} {sl25 : Array (Option Value)} {oc25 kV25 dc25 pm25 cd25 ct25 : Value} (a25 : PySem.W.nsIn K mainGlobals "_law_minus" = some (some (.ref f25))) (l25 : K.lookup f25 = some ⟨oc25, od25, .func (PySem.W.fnOf "_law_minus" "_law_minus" (defArgs s__law_minus) (defBody s__law_minus) (defScope s__law_minus) .none kV25 dc25 pm25 an25 cd25 ct25), sl25⟩) (c25 : PySem.W.codeIn K cd25 "_law_minus" = true) (k25 : PySem.W.keepIn K (.ref f25) = true)
    {f26 : Addr} {od26 an26 : Option Addr} {sl26 : Array (Option Value)} {oc26 kV26 dc26 pm26 cd26 ct26 : Value} (a26 : PySem.W.nsIn K mainGlobals "_law_times" = some (some (.ref f26))) (l26 : K.lookup f26 = some ⟨oc26, od26, .func (PySem.W.fnOf "_law_times" "_law_times" (defArgs s__law_times) (defBody s__law_times) (defScope s__law_times) .none kV26 dc26 pm26 an26 cd26 ct26), sl26⟩) (c26 : PySem.W.codeIn K cd26 "_law_times" = true) (k26 : PySem.W.keepIn K (.ref f26) = true)
    {f27 : Addr} {od27 an27 : Option Addr} {sl27 : Array (Option Value)} {oc27 kV27 dc27 pm27 cd27 ct27 : Value} (a27 : PySem.W.nsIn K mainGlobals "_law_some" = some (some (.ref f27))) (l27 : K.lookup f27 = some ⟨oc27, od27, .func (PySem.W.fnOf "_law_some" "_law_some" (defArgs s__law_some) (defBody s__law_some) (defScope s__law_some) .none kV27 dc27 pm27 an27 cd27 ct27), sl27⟩) (c27 : PySem.W.codeIn K cd27 "_law_some" = true) (k27 : PySem.W.keepIn K (.ref f27) = true)
    {f28 : Addr} {od28 an28 : Option Addr} {sl28 : Array (Option Value)} {oc28 kV28 dc28 pm28 cd28 ct28 : Value} (a28 : PySem.W.nsIn K mainGlobals "_law_is_frac" = some (some (.ref f28))) (l28 : K.lookup f28 = some ⟨oc28, od28, .func (PySem.W.fnOf "_law_is_frac" "_law_is_frac" (defArgs s__law_is_frac) (defBody s__law_is_frac) (defScope s__law_is_frac) .none kV28 dc28 pm28 an28 cd28 ct28), sl28⟩) (c28 : PySem.W.codeIn K cd28 "_law_is_frac" = true) (k28 : PySem.W.keepIn K (.ref f28) = true)
    {f29 : Addr} {od29 an29 : Option Addr} {sl29 : Array (Option Value)} {oc29 kV29 dc29 pm29 cd29 ct29 : Value} (a29 : PySem.W.nsIn K mainGlobals "_law_vsum" = some (some (.ref f29))) (l29 : K.lookup f29 = some ⟨oc29, od29, .func (PySem.W.fnOf "_law_vsum" "_law_vsum" (defArgs s__law_vsum) (defBody s__law_vsum) (defScope s__law_vsum) .none kV29 dc29 pm29 an29 cd29 ct29), sl29⟩) (c29 : PySem.W.codeIn K cd29 "_law_vsum" = true) (k29 : PySem.W.keepIn K (.ref f29) = true)
    {f30 : Addr} {od30 an30 : Option Addr} {sl30 : Array (Option Value)} {oc30 kV30 dc30 pm30 cd30 ct30 : Value} (a30 : PySem.W.nsIn K mainGlobals "_law_vless" = some (some (.ref f30))) (l30 : K.lookup f30 = some ⟨oc30, od30, .func (PySem.W.fnOf "_law_vless" "_law_vless" (defArgs s__law_vless) (defBody s__law_vless) (defScope s__law_vless) .none kV30 dc30 pm30 an30 cd30 ct30), sl30⟩) (c30 : PySem.W.codeIn K cd30 "_law_vless" = true) (k30 : PySem.W.keepIn K (.ref f30) = true)
    {f31 : Addr} {od31 an31 : Option Addr} {sl31 : Array (Option Value)} {oc31 kV31 dc31 pm31 cd31 ct31 : Value} (a31 : PySem.W.nsIn K mainGlobals "_law_vector" = some (some (.ref f31))) (l31 : K.lookup f31 = some ⟨oc31, od31, .func (PySem.W.fnOf "_law_vector" "_law_vector" (defArgs s__law_vector) (defBody s__law_vector) (defScope s__law_vector) .none kV31 dc31 pm31 an31 cd31 ct31), sl31⟩) (c31 : PySem.W.codeIn K cd31 "_law_vector" = true) (k31 : PySem.W.keepIn K (.ref f31) = true)
    {f32 : Addr} {od32 an32 : Option Addr} {sl32 : Array (Option Value)} {oc32 kV32 dc32 pm32 cd32 ct32 : Value} (a32 : PySem.W.nsIn K mainGlobals "_law_is_vector" = some (some (.ref f32))) (l32 : K.lookup f32 = some ⟨oc32, od32, .func (PySem.W.fnOf "_law_is_vector" "_law_is_vector" (defArgs s__law_is_vector) (defBody s__law_is_vector) (defScope s__law_is_vector) .none kV32 dc32 pm32 an32 cd32 ct32), sl32⟩) (c32 : PySem.W.codeIn K cd32 "_law_is_vector" = true) (k32 : PySem.W.keepIn K (.ref f32) = true)
    {f33 : Addr} {od33 an33 : Option Addr} {sl33 : Array (Option Value)} {oc33 kV33 dc33 pm33 cd33 ct33 : Value} (a33 : PySem.W.nsIn K mainGlobals "_law_bent" = some (some (.ref f33))) (l33 : K.lookup f33 = some ⟨oc33, od33, .func (PySem.W.fnOf "_law_bent" "_law_bent" (defArgs s__law_bent) (defBody s__law_bent) (defScope s__law_bent) .none kV33 dc33 pm33 an33 cd33 ct33), sl33⟩) (c33 : PySem.W.codeIn K cd33 "_law_bent" = true) (k33 : PySem.W.keepIn K (.ref f33) = true)
    {f34 : Addr} {od34 an34 : Option Addr} {sl34 : Array (Option Value)} {oc34 kV34 dc34 pm34 cd34 ct34 : Value} (a34 : PySem.W.nsIn K mainGlobals "_law_right" = some (some (.ref f34))) (l34 : K.lookup f34 = some ⟨oc34, od34, .func (PySem.W.fnOf "_law_right" "_law_right" (defArgs s__law_right) (defBody s__law_right) (defScope s__law_right) .none kV34 dc34 pm34 an34 cd34 ct34), sl34⟩) (c34 : PySem.W.codeIn K cd34 "_law_right" = true) (k34 : PySem.W.keepIn K (.ref f34) = true)
    {f35 : Addr} {od35 an35 : Option Addr} {sl35 : Array (Option Value)} {oc35 kV35 dc35 pm35 cd35 ct35 : Value} (a35 : PySem.W.nsIn K mainGlobals "law" = some (some (.ref f35))) (l35 : K.lookup f35 = some ⟨oc35, od35, .func (PySem.W.fnOf "law" "law" (defArgs s_law) (defBody s_law) (defScope s_law) .none kV35 dc35 pm35 an35 cd35 ct35), sl35⟩) (c35 : PySem.W.codeIn K cd35 "law" = true) (k35 : PySem.W.keepIn K (.ref f35) = true)
    (z_isinstance : PySem.W.nsIn K mainGlobals "isinstance" = some none)
    (z_int : PySem.W.nsIn K mainGlobals "int" = some none)
    (z_bool : PySem.W.nsIn K mainGlobals "bool" = some none)
    (z_tuple : PySem.W.nsIn K mainGlobals "tuple" = some none)
    (z_len : PySem.W.nsIn K mainGlobals "len" = some none)
    (z_zip : PySem.W.nsIn K mainGlobals "zip" = some none)
    (z_all : PySem.W.nsIn K mainGlobals "all" = some none)
    (z_list : PySem.W.nsIn K mainGlobals "list" = some none)
    (z_abs : PySem.W.nsIn K mainGlobals "abs" = some none)
    (z_max : PySem.W.nsIn K mainGlobals "max" = some none)
    (z_divmod : PySem.W.nsIn K mainGlobals "divmod" = some none)
    (z_range : PySem.W.nsIn K mainGlobals "range" = some none)
    (z_repr : PySem.W.nsIn K mainGlobals "repr" = some none)
    (z_min : PySem.W.nsIn K mainGlobals "min" = some none)
    (z_gcd : PySem.W.nsIn K mainGlobals "gcd" = some (some (.builtin "math.gcd")))
    {aN : Addr} {oN : Option Addr} {tN uN : Tok} {nN : Nat} {sN : Array (Option Value)} (n1 : PySem.W.nsIn K mainGlobals "NOUGHT" = some (some (.ref aN))) (n2 : K.lookup aN = some ⟨.type "tuple", oN, .seq #[.int 0 tN, .int 1 uN] nN, sN⟩)
    {tM : Tok} (m1 : PySem.W.nsIn K mainGlobals "MOST_DIMS" = some (some (.int 3 tM)))
    : ∃ fd : FuncData, (∀ (s : Shared) (v : Value), BindsTo s fd ⟨[v], []⟩ [("script", v)]) ∧ ∀ base : Heap, K.In base → base.Ns mainGlobals mg → FnG l.prog w K mg base CX0 8 fa fd ["script"] (spOf K (lawS 63)) := by
  have e : f35 = fa := by
    have e := hfa.symm.trans (PySem.W.mg_of X G a35)
    cases e
    rfl
  subst e
  have F0 := fun_mk (st := s_is_integer) l0 c0 k0
  have b0 := F0.binds (ps := ["value"]) fun _ _ _ _ _ _ us hl => match us, hl with | [_], _ => rfl
  have F1 := fun_mk (st := s_is_within) l1 c1 k1
  have b1 := F1.binds (ps := ["value", "least", "most"]) fun _ _ _ _ _ _ us hl => match us, hl with | [_, _, _], _ => rfl
  have F2 := fun_mk (st := s_fraction) l2 c2 k2
  have b2 := F2.binds (ps := ["above", "below"]) fun _ _ _ _ _ _ us hl => match us, hl with | [_, _], _ => rfl
  have F3 := fun_mk (st := s_added) l3 c3 k3
  have b3 := F3.binds (ps := ["a", "b"]) fun _ _ _ _ _ _ us hl => match us, hl with | [_, _], _ => rfl
  have F4 := fun_mk (st := s_taken) l4 c4 k4
  have b4 := F4.binds (ps := ["a", "b"]) fun _ _ _ _ _ _ us hl => match us, hl with | [_, _], _ => rfl
  have F5 := fun_mk (st := s_scaled) l5 c5 k5
  have b5 := F5.binds (ps := ["a", "b"]) fun _ _ _ _ _ _ us hl => match us, hl with | [_, _], _ => rfl
  have F6 := fun_mk (st := s_is_fraction) l6 c6 k6
  have b6 := F6.binds (ps := ["value"]) fun _ _ _ _ _ _ us hl => match us, hl with | [_], _ => rfl
  have F7 := fun_mk (st := s_nought) l7 c7 k7
  have b7 := F7.binds (ps := ["dims"]) fun _ _ _ _ _ _ us hl => match us, hl with | [_], _ => rfl
  have F8 := fun_mk (st := s_joined) l8 c8 k8
  have b8 := F8.binds (ps := ["a", "b"]) fun _ _ _ _ _ _ us hl => match us, hl with | [_, _], _ => rfl
  have F9 := fun_mk (st := s_apart) l9 c9 k9
  have b9 := F9.binds (ps := ["a", "b"]) fun _ _ _ _ _ _ us hl => match us, hl with | [_, _], _ => rfl
  have F10 := fun_mk (st := s_stretched) l10 c10 k10
  have b10 := F10.binds (ps := ["a", "number"]) fun _ _ _ _ _ _ us hl => match us, hl with | [_, _], _ => rfl
  have F11 := fun_mk (st := s_is_any_vector) l11 c11 k11
  have b11 := F11.binds (ps := ["value"]) fun _ _ _ _ _ _ us hl => match us, hl with | [_], _ => rfl
  have F12 := fun_mk (st := s_want_vector) l12 c12 k12
  have b12 := F12.binds (ps := ["value"]) fun _ _ _ _ _ _ us hl => match us, hl with | [_], _ => rfl
  have F13 := fun_mk (st := s_want_alike) l13 c13 k13
  have b13 := F13.binds (ps := ["vector", "other"]) fun _ _ _ _ _ _ us hl => match us, hl with | [_, _], _ => rfl
  have F14 := fun_mk (st := s_is_vector) l14 c14 k14
  have b14 := F14.binds (ps := ["value"]) fun _ _ _ _ _ _ us hl => match us, hl with | [_], _ => rfl
  have F15 := fun_mk (st := s_nought_of) l15 c15 k15
  have b15 := F15.binds (ps := ["dims"]) fun _ _ _ _ _ _ us hl => match us, hl with | [_], _ => rfl
  have F16 := fun_mk (st := s_vector_sum) l16 c16 k16
  have b16 := F16.binds (ps := ["vector", "other"]) fun _ _ _ _ _ _ us hl => match us, hl with | [_, _], _ => rfl
  have F17 := fun_mk (st := s_vector_less) l17 c17 k17
  have b17 := F17.binds (ps := ["vector", "other"]) fun _ _ _ _ _ _ us hl => match us, hl with | [_, _], _ => rfl
  have F18 := fun_mk (st := s_vector_times) l18 c18 k18
  have b18 := F18.binds (ps := ["vector", "a"]) fun _ _ _ _ _ _ us hl => match us, hl with | [_, _], _ => rfl
  have F19 := fun_mk (st := s_vector_of) l19 c19 k19
  have b19 := F19.binds (ps := ["numbers"]) fun _ _ _ _ _ _ us hl => match us, hl with | [_], _ => rfl
  have F20 := fun_mk (st := s__law_pot) l20 c20 k20
  have b20 := F20.binds (ps := ["script", "k"]) fun _ _ _ _ _ _ us hl => match us, hl with | [_, _], _ => rfl
  have F21 := fun_mk (st := s__law_draw) l21 c21 k21
  have b21 := F21.binds (ps := ["pot", "many"]) fun _ _ _ _ _ _ us hl => match us, hl with | [_, _], _ => rfl
  have F22 := fun_mk (st := s__law_pick) l22 c22 k22
  have b22 := F22.binds (ps := ["pot", "some"]) fun _ _ _ _ _ _ us hl => match us, hl with | [_, _], _ => rfl
  have F23 := fun_mk (st := s__law_frac) l23 c23 k23
  have b23 := F23.binds (ps := ["above", "below"]) fun _ _ _ _ _ _ us hl => match us, hl with | [_, _], _ => rfl
  have F24 := fun_mk (st := s__law_plus) l24 c24 k24
  have b24 := F24.binds (ps := ["a", "b"]) fun _ _ _ _ _ _ us hl => match us, hl with | [_, _], _ => rfl
  have F25 := fun_mk (st := s__law_minus) l25 c25 k25
  have b25 := F25.binds (ps := ["a", "b"]) fun _ _ _ _ _ _ us hl => match us, hl with | [_, _], _ => rfl
  have F26 := fun_mk (st := s__law_times) l26 c26 k26
  have b26 := F26.binds (ps := ["a", "b"]) fun _ _ _ _ _ _ us hl => match us, hl with | [_, _], _ => rfl
  have F27 := fun_mk (st := s__law_some) l27 c27 k27
  have b27 := F27.binds (ps := ["pot"]) fun _ _ _ _ _ _ us hl => match us, hl with | [_], _ => rfl
  have F28 := fun_mk (st := s__law_is_frac) l28 c28 k28
  have b28 := F28.binds (ps := ["value"]) fun _ _ _ _ _ _ us hl => match us, hl with | [_], _ => rfl
  have F29 := fun_mk (st := s__law_vsum) l29 c29 k29
  have b29 := F29.binds (ps := ["a", "b"]) fun _ _ _ _ _ _ us hl => match us, hl with | [_, _], _ => rfl
  have F30 := fun_mk (st := s__law_vless) l30 c30 k30
  have b30 := F30.binds (ps := ["a", "b"]) fun _ _ _ _ _ _ us hl => match us, hl with | [_, _], _ => rfl
  have F31 := fun_mk (st := s__law_vector) l31 c31 k31
  have b31 := F31.binds (ps := ["pot", "dims"]) fun _ _ _ _ _ _ us hl => match us, hl with | [_, _], _ => rfl
  have F32 := fun_mk (st := s__law_is_vector) l32 c32 k32
  have b32 := F32.binds (ps := ["value"]) fun _ _ _ _ _ _ us hl => match us, hl with | [_], _ => rfl
  have F33 := fun_mk (st := s__law_bent) l33 c33 k33
  have b33 := F33.binds (ps := ["pot", "value"]) fun _ _ _ _ _ _ us hl => match us, hl with | [_, _], _ => rfl
  have F34 := fun_mk (st := s__law_right) l34 c34 k34
  have b34 := F34.binds (ps := ["pot"]) fun _ _ _ _ _ _ us hl => match us, hl with | [_], _ => rfl
  have F35 := fun_mk (st := s_law) l35 c35 k35
  have b35 := F35.binds (ps := ["script"]) fun _ _ _ _ _ _ us hl => match us, hl with | [_], _ => rfl
  have T : Txt K mg := ⟨f0, _, F0, PySem.W.mg_of X G a0, b0, f1, _, F1, PySem.W.mg_of X G a1, b1, f2, _, F2, PySem.W.mg_of X G a2, b2, f3, _, F3, PySem.W.mg_of X G a3, b3, f4, _, F4, PySem.W.mg_of X G a4, b4, f5, _, F5, PySem.W.mg_of X G a5, b5, f6, _, F6, PySem.W.mg_of X G a6, b6, f7, _, F7, PySem.W.mg_of X G a7, b7, f8, _, F8, PySem.W.mg_of X G a8, b8, f9, _, F9, PySem.W.mg_of X G a9, b9, f10, _, F10, PySem.W.mg_of X G a10, b10, f11, _, F11, PySem.W.mg_of X G a11, b11, f12, _, F12, PySem.W.mg_of X G a12, b12, f13, _, F13, PySem.W.mg_of X G a13, b13, f14, _, F14, PySem.W.mg_of X G a14, b14, f15, _, F15, PySem.W.mg_of X G a15, b15, f16, _, F16, PySem.W.mg_of X G a16, b16, f17, _, F17, PySem.W.mg_of X G a17, b17, f18, _, F18, PySem.W.mg_of X G a18, b18, f19, _, F19, PySem.W.mg_of X G a19, b19, f20, _, F20, PySem.W.mg_of X G a20, b20, f21, _, F21, PySem.W.mg_of X G a21, b21, f22, _, F22, PySem.W.mg_of X G a22, b22, f23, _, F23, PySem.W.mg_of X G a23, b23, f24, _, F24, PySem.W.mg_of X G a24, b24, f25, _, F25, PySem.W.mg_of X G a25, b25, f26, _, F26, PySem.W.mg_of X G a26, b26, f27, _, F27, PySem.W.mg_of X G a27, b27, f28, _, F28, PySem.W.mg_of X G a28, b28, f29, _, F29, PySem.W.mg_of X G a29, b29, f30, _, F30, PySem.W.mg_of X G a30, b30, f31, _, F31, PySem.W.mg_of X G a31, b31, f32, _, F32, PySem.W.mg_of X G a32, b32, f33, _, F33, PySem.W.mg_of X G a33, b33, f34, _, F34, PySem.W.mg_of X G a34, b34, f35, _, F35, PySem.W.mg_of X G a35, b35, kbinds_of (by decide) (fun ws hw => match ws, hw with | [_, _], _ => rfl), kbinds_of (by decide) (fun ws hw => match ws, hw with | [_, _], _ => rfl), kbinds_of (by decide) (fun ws hw => match ws, hw with | [_, _], _ => rfl), kbinds_of (by decide) (fun ws hw => match ws, hw with | [_], _ => rfl), kbinds_of (by decide) (fun ws hw => match ws, hw with | [_], _ => rfl), kbinds_of (by decide) (fun ws hw => match ws, hw with | [_], _ => rfl), PySem.W.mg_none_of X G z_isinstance, PySem.W.mg_none_of X G z_int, PySem.W.mg_none_of X G z_bool, PySem.W.mg_none_of X G z_tuple, PySem.W.mg_none_of X G z_len, PySem.W.mg_none_of X G z_zip, PySem.W.mg_none_of X G z_all, PySem.W.mg_none_of X G z_list, PySem.W.mg_none_of X G z_abs, PySem.W.mg_none_of X G z_max, PySem.W.mg_none_of X G z_divmod, PySem.W.mg_none_of X G z_range, PySem.W.mg_none_of X G z_repr, PySem.W.mg_none_of X G z_min, PySem.W.mg_of X G z_gcd, (konst_fr (PySem.W.mg_of X G n1) n2), (konst_int (PySem.W.mg_of X G m1))⟩
  exact ⟨_, fun s v => .of_eq rfl, fun base _ _ => ok_law (P := l.prog) (w := w) (base := base) ⟨f0, _, F0, PySem.W.mg_of X G a0, b0, f1, _, F1, PySem.W.mg_of X G a1, b1, f2, _, F2, PySem.W.mg_of X G a2, b2, f3, _, F3, PySem.W.mg_of X G a3, b3, f4, _, F4, PySem.W.mg_of X G a4, b4, f5, _, F5, PySem.W.mg_of X G a5, b5, f6, _, F6, PySem.W.mg_of X G a6, b6, f7, _, F7, PySem.W.mg_of X G a7, b7, f8, _, F8, PySem.W.mg_of X G a8, b8, f9, _, F9, PySem.W.mg_of X G a9, b9, f10, _, F10, PySem.W.mg_of X G a10, b10, f11, _, F11, PySem.W.mg_of X G a11, b11, f12, _, F12, PySem.W.mg_of X G a12, b12, f13, _, F13, PySem.W.mg_of X G a13, b13, f14, _, F14, PySem.W.mg_of X G a14, b14, f15, _, F15, PySem.W.mg_of X G a15, b15, f16, _, F16, PySem.W.mg_of X G a16, b16, f17, _, F17, PySem.W.mg_of X G a17, b17, f18, _, F18, PySem.W.mg_of X G a18, b18, f19, _, F19, PySem.W.mg_of X G a19, b19, f20, _, F20, PySem.W.mg_of X G a20, b20, f21, _, F21, PySem.W.mg_of X G a21, b21, f22, _, F22, PySem.W.mg_of X G a22, b22, f23, _, F23, PySem.W.mg_of X G a23, b23, f24, _, F24, PySem.W.mg_of X G a24, b24, f25, _, F25, PySem.W.mg_of X G a25, b25, f26, _, F26, PySem.W.mg_of X G a26, b26, f27, _, F27, PySem.W.mg_of X G a27, b27, f28, _, F28, PySem.W.mg_of X G a28, b28, f29, _, F29, PySem.W.mg_of X G a29, b29, f30, _, F30, PySem.W.mg_of X G a30, b30, f31, _, F31, PySem.W.mg_of X G a31, b31, f32, _, F32, PySem.W.mg_of X G a32, b32, f33, _, F33, PySem.W.mg_of X G a33, b33, f34, _, F34, PySem.W.mg_of X G a34, b34, f35, _, F35, PySem.W.mg_of X G a35, b35, kbinds_of (by decide) (fun ws hw => match ws, hw with | [_, _], _ => rfl), kbinds_of (by decide) (fun ws hw => match ws, hw with | [_, _], _ => rfl), kbinds_of (by decide) (fun ws hw => match ws, hw with | [_, _], _ => rfl), kbinds_of (by decide) (fun ws hw => match ws, hw with | [_], _ => rfl), kbinds_of (by decide) (fun ws hw => match ws, hw with | [_], _ => rfl), kbinds_of (by decide) (fun ws hw => match ws, hw with | [_], _ => rfl), PySem.W.mg_none_of X G z_isinstance, PySem.W.mg_none_of X G z_int, PySem.W.mg_none_of X G z_bool, PySem.W.mg_none_of X G z_tuple, PySem.W.mg_none_of X G z_len, PySem.W.mg_none_of X G z_zip, PySem.W.mg_none_of X G z_all, PySem.W.mg_none_of X G z_list, PySem.W.mg_none_of X G z_abs, PySem.W.mg_none_of X G z_max, PySem.W.mg_none_of X G z_divmod, PySem.W.mg_none_of X G z_range, PySem.W.mg_none_of X G z_repr, PySem.W.mg_none_of X G z_min, PySem.W.mg_of X G z_gcd, (konst_fr (PySem.W.mg_of X G n1) n2), (konst_int (PySem.W.mg_of X G m1))⟩⟩
end K11
open PySem PySem.W PyProof.Rows
set_option maxHeartbeats 0 in
theorem PySem.Challenge.cw_cavelegs_k11_whole_vectors_holds : PySem.Challenge.rw_cavelegs_k11_whole_vectors.Holds := by
  w_on; o_law; k_head; (case hw => w_witness2)
  k_fill
  refine Cl.walk_end (l := PySem.Challenge.rw_cavelegs_k11_whole_vectors) (n := 63) (k := 8) (x := "script") rfl (by decide) rfl ⟨rfl, by decide, by decide⟩ (fun w h Y => PySem.W.kIn_of Y) ?F
  case F =>
    intro w mg fa h KX G hmg
    refine' K11.all_mk KX G hmg ?a0 ?l0 ?c0 ?k0 ?a1 ?l1 ?c1 ?k1 ?a2 ?l2 ?c2 ?k2 ?a3 ?l3 ?c3 ?k3 ?a4 ?l4 ?c4 ?k4 ?a5 ?l5 ?c5 ?k5 ?a6 ?l6 ?c6 ?k6 ?a7 ?l7 ?c7 ?k7 ?a8 ?l8 ?c8 ?k8 ?a9 ?l9 ?c9 ?k9 ?a10 ?l10 ?c10 ?k10 ?a11 ?l11 ?c11 ?k11 ?a12 ?l12 ?c12 ?k12 ?a13 ?l13 ?c13 ?k13 ?a14 ?l14 ?c14 ?k14 ?a15 ?l15 ?c15 ?k15 ?a16 ?l16 ?c16 ?k16 ?a17 ?l17 ?c17 ?k17 ?a18 ?l18 ?c18 ?k18 ?a19 ?l19 ?c19 ?k19 ?a20 ?l20 ?c20 ?k20 ?a21 ?l21 ?c21 ?k21 ?a22 ?l22 ?c22 ?k22 ?a23 ?l23 ?c23 ?k23 ?a24 ?l24 ?c24 ?k24 ?a25 ?l25 ?c25 ?k25 ?a26 ?l26 ?c26 ?k26 ?a27 ?l27 ?c27 ?k27 ?a28 ?l28 ?c28 ?k28 ?a29 ?l29 ?c29 ?k29 ?a30 ?l30 ?c30 ?k30 ?a31 ?l31 ?c31 ?k31 ?a32 ?l32 ?c32 ?k32 ?a33 ?l33 ?c33 ?k33 ?a34 ?l34 ?c34 ?k34 ?a35 ?l35 ?c35 ?k35 ?z_isinstance ?z_int ?z_bool ?z_tuple ?z_len ?z_zip ?z_all ?z_list ?z_abs ?z_max ?z_divmod ?z_range ?z_repr ?z_min ?z_gcd ?n1 ?n2 ?m1
    (case a0 => k_is)
    (case l0 => k_is)
    (case c0 => k_is)
    (case k0 => k_is)
    (case a1 => k_is)
    (case l1 => k_is)
    (case c1 => k_is)
    (case k1 => k_is)
    (case a2 => k_is)
    (case l2 => k_is)
    (case c2 => k_is)
    (case k2 => k_is)
    (case a3 => k_is)
    (case l3 => k_is)
    (case c3 => k_is)
    (case k3 => k_is)
    (case a4 => k_is)
    (case l4 => k_is)
    (case c4 => k_is)
    (case k4 => k_is)
    (case a5 => k_is)
    (case l5 => k_is)
    (case c5 => k_is)
    (case k5 => k_is)
    (case a6 => k_is)
    (case l6 => k_is)
    (case c6 => k_is)
    (case k6 => k_is)
    (case a7 => k_is)
    (case l7 => k_is)
    (case c7 => k_is)
    (case k7 => k_is)
    (case a8 => k_is)
    (case l8 => k_is)
    (case c8 => k_is)
    (case k8 => k_is)
    (case a9 => k_is)
    (case l9 => k_is)
    (case c9 => k_is)
    (case k9 => k_is)
    (case a10 => k_is)
    (case l10 => k_is)
    (case c10 => k_is)
    (case k10 => k_is)
    (case a11 => k_is)
    (case l11 => k_is)
    (case c11 => k_is)
    (case k11 => k_is)
    (case a12 => k_is)
    (case l12 => k_is)
    (case c12 => k_is)
    (case k12 => k_is)
    (case a13 => k_is)
    (case l13 => k_is)
    (case c13 => k_is)
    (case k13 => k_is)
    (case a14 => k_is)
    (case l14 => k_is)
    (case c14 => k_is)
    (case k14 => k_is)
    (case a15 => k_is)
    (case l15 => k_is)
    (case c15 => k_is)
    (case k15 => k_is)
    (case a16 => k_is)
    (case l16 => k_is)
    (case c16 => k_is)
    (case k16 => k_is)
    (case a17 => k_is)
    (case l17 => k_is)
    (case c17 => k_is)
    (case k17 => k_is)
    (case a18 => k_is)
    (case l18 => k_is)
    (case c18 => k_is)
    (case k18 => k_is)
    (case a19 => k_is)
    (case l19 => k_is)
    (case c19 => k_is)
    (case k19 => k_is)
    (case a20 => k_is)
    (case l20 => k_is)
    (case c20 => k_is)
    (case k20 => k_is)
    (case a21 => k_is)
    (case l21 => k_is)
    (case c21 => k_is)
    (case k21 => k_is)
    (case a22 => k_is)
    (case l22 => k_is)
    (case c22 => k_is)
    (case k22 => k_is)
    (case a23 => k_is)
    (case l23 => k_is)
    (case c23 => k_is)
    (case k23 => k_is)
    (case a24 => k_is)
    (case l24 => k_is)
    (case c24 => k_is)
    (case k24 => k_is)
    (case a25 => k_is)
    (case l25 => k_is)
    (case c25 => k_is)
    (case k25 => k_is)
    (case a26 => k_is)
    (case l26 => k_is)
    (case c26 => k_is)
    (case k26 => k_is)
    (case a27 => k_is)
    (case l27 => k_is)
    (case c27 => k_is)
    (case k27 => k_is)
    (case a28 => k_is)
    (case l28 => k_is)
    (case c28 => k_is)
    (case k28 => k_is)
    (case a29 => k_is)
    (case l29 => k_is)
    (case c29 => k_is)
    (case k29 => k_is)
    (case a30 => k_is)
    (case l30 => k_is)
    (case c30 => k_is)
    (case k30 => k_is)
    (case a31 => k_is)
    (case l31 => k_is)
    (case c31 => k_is)
    (case k31 => k_is)
    (case a32 => k_is)
    (case l32 => k_is)
    (case c32 => k_is)
    (case k32 => k_is)
    (case a33 => k_is)
    (case l33 => k_is)
    (case c33 => k_is)
    (case k33 => k_is)
    (case a34 => k_is)
    (case l34 => k_is)
    (case c34 => k_is)
    (case k34 => k_is)
    (case a35 => k_is)
    (case l35 => k_is)
    (case c35 => k_is)
    (case k35 => k_is)
    (case z_isinstance => k_is)
    (case z_int => k_is)
    (case z_bool => k_is)
    (case z_tuple => k_is)
    (case z_len => k_is)
    (case z_zip => k_is)
    (case z_all => k_is)
    (case z_list => k_is)
    (case z_abs => k_is)
    (case z_max => k_is)
    (case z_divmod => k_is)
    (case z_range => k_is)
    (case z_repr => k_is)
    (case z_min => k_is)
    (case z_gcd => k_is)
    (case n1 => k_is)
    (case n2 => k_is)
    (case m1 => k_is)
