import PyProof.Rows.All
import HandS.ForMost
import HandS.Wide
import HandS.Gcd
import KE.KDictKeyed
import KE.KeyNested
import HandS.Deep
import HandS.NoneIn
import HandS.Zip
import HandS.IsInst
import HandS.TupSets
import PySem.Challenge.RW_fourfolds_k35_whole_double_turns
set_option Elab.async false
set_option linter.all false
set_option maxRecDepth 100000
set_option maxHeartbeats 4000000
/-! G1: plain data under a frozen heap: states, readings, expressions. -/
namespace G
open PySem PySem.Spec PyProof.Rows L2
/-! ### data -/
mutual
/-- no list within -/
def pur : PyData → Bool
  | .none => true
  | .bool _ => true
  | .int _ => true
  | .str _ => true
  | .tuple ds => purAll ds
  | .list _ => false
  | .dict _ => false
def purAll : List PyData → Bool
  | [] => true
  | d :: ds => pur d && purAll ds
end
mutual
/-- the value v is the data d in the heap H: lists that stand in H, tuples there or in the written part -/
inductive Dq (K : PySem.W.Frag) (H : Hp) : V → PyData → Prop
  | non : Dq K H .non .none
  | bl (b : Bool) : Dq K H (.bl b) (.bool b)
  | int (i : Int) : Dq K H (.int i) (.int i)
  | str (x : Str) : Dq K H (.str x) (.str x)
  | lst {a : Addr} {xs : List V} {ds : List PyData} : Rd H a (.lst xs) → DqAll K H xs ds → Dq K H (.ref a) (.list ds)
  | tup {a : Addr} {xs : List V} {ds : List PyData} : SqT K H a xs → DqAll K H xs ds → Dq K H (.ref a) (.tuple ds)
inductive DqAll (K : PySem.W.Frag) (H : Hp) : List V → List PyData → Prop
  | nil : DqAll K H [] []
  | cons {v : V} {vs : List V} {d : PyData} {ds : List PyData} : Dq K H v d → DqAll K H vs ds → DqAll K H (v :: vs) (d :: ds)
end
section
variable {K : PySem.W.Frag} {H H' : Hp}
mutual
theorem Dq.dp : ∀ (d : PyData) {v : V}, Dq K H v d → Dp K H v d
  | .none, _, h => by cases h; exact .non
  | .bool _, _, h => by cases h; exact .bl _
  | .int _, _, h => by cases h; exact .int _
  | .str _, _, h => by cases h; exact .str _
  | .list ds, _, h => by
    cases h with
    | lst a b => exact .lst (.inl a) (DqAll.dp ds b)
  | .tuple ds, _, h => by
    cases h with
    | tup a b => exact .tup a (DqAll.dp ds b)
  | .dict _, _, h => by cases h
theorem DqAll.dp : ∀ (ds : List PyData) {vs : List V}, DqAll K H vs ds → DpAll K H vs ds
  | [], _, h => by cases h; exact .nil
  | d :: ds, _, h => by
    cases h with
    | cons a b => exact .cons (Dq.dp d a) (DqAll.dp ds b)
end
theorem rd_mono {a : Addr} {u : HO} (e : Same H H') (h : Rd H a u) : Rd H' a u := by
  rcases h with h | ⟨o, h⟩
  · exact .inl (e _ _ h)
  · exact .inr ⟨o, e _ _ h⟩
theorem sqT_mono {a : Addr} {xs : List V} (e : Same H H') (h : SqT K H a xs) : SqT K H' a xs := by
  rcases h with h | h
  · exact .inl (rd_mono e h)
  · exact .inr h
mutual
theorem Dq.mono (e : Same H H') : ∀ (d : PyData) {v : V}, Dq K H v d → Dq K H' v d
  | .none, _, h => by cases h; exact .non
  | .bool _, _, h => by cases h; exact .bl _
  | .int _, _, h => by cases h; exact .int _
  | .str _, _, h => by cases h; exact .str _
  | .list ds, _, h => by
    cases h with
    | lst a b => exact .lst (rd_mono e a) (DqAll.mono e ds b)
  | .tuple ds, _, h => by
    cases h with
    | tup a b => exact .tup (sqT_mono e a) (DqAll.mono e ds b)
  | .dict _, _, h => by cases h
theorem DqAll.mono (e : Same H H') : ∀ (ds : List PyData) {vs : List V}, DqAll K H vs ds → DqAll K H' vs ds
  | [], _, h => by cases h; exact .nil
  | d :: ds, _, h => by
    cases h with
    | cons a b => exact .cons (Dq.mono e d a) (DqAll.mono e ds b)
end
/-- tuples alone are looked at -/
def SameT (H H' : Hp) : Prop := ∀ a xs, Rd H a (.tup xs) → Rd H' a (.tup xs)
mutual
theorem Dq.pur (e : SameT H H') : ∀ (d : PyData) {v : V}, pur d = true → Dq K H v d → Dq K H' v d
  | .none, _, _, h => by cases h; exact .non
  | .bool _, _, _, h => by cases h; exact .bl _
  | .int _, _, _, h => by cases h; exact .int _
  | .str _, _, _, h => by cases h; exact .str _
  | .list ds, _, p, h => by simp [G.pur] at p
  | .tuple ds, _, p, h => by
    cases h with
    | tup a b =>
      refine .tup ?_ (DqAll.pur e ds (by simpa [G.pur] using p) b)
      rcases a with a | a
      · exact .inl (e _ _ a)
      · exact .inr a
  | .dict _, _, _, h => by cases h
theorem DqAll.pur (e : SameT H H') : ∀ (ds : List PyData) {vs : List V}, purAll ds = true → DqAll K H vs ds → DqAll K H' vs ds
  | [], _, _, h => by cases h; exact .nil
  | d :: ds, _, p, h => by
    simp only [G.purAll, Bool.and_eq_true] at p
    cases h with
    | cons a b => exact .cons (Dq.pur e d p.1 a) (DqAll.pur e ds p.2 b)
end
theorem DqAll.length : ∀ {ds : List PyData} {vs : List V}, DqAll K H vs ds → vs.length = ds.length
  | [], _, h => by cases h; rfl
  | d :: ds, _, h => by
    cases h with
    | cons a b => rw [List.length_cons, List.length_cons, DqAll.length b]
theorem DqAll.get : ∀ {ds : List PyData} {vs : List V} {i : Nat} {d : PyData}, DqAll K H vs ds → ds[i]? = some d → ∃ v, vs[i]? = some v ∧ Dq K H v d
  | [], _, _, _, _, e => by simp at e
  | x :: ds, _, 0, d, h, e => by
    cases h with
    | cons a b =>
      have e' : x = d := by simpa using e
      exact ⟨_, rfl, e' ▸ a⟩
  | x :: ds, _, i + 1, d, h, e => by
    cases h with
    | cons a b =>
      obtain ⟨v, h1, h2⟩ := DqAll.get (i := i) (d := d) b (by simpa using e)
      exact ⟨v, by simpa using h1, h2⟩
theorem DqAll.getV : ∀ {ds : List PyData} {vs : List V} {i : Nat} {v : V}, DqAll K H vs ds → vs[i]? = some v → ∃ d, ds[i]? = some d ∧ Dq K H v d
  | [], _, _, _, h, e => by cases h; simp at e
  | x :: ds, _, 0, v, h, e => by
    cases h with
    | cons a b =>
      obtain rfl := (by simpa using e : _ = v)
      exact ⟨x, rfl, a⟩
  | x :: ds, _, i + 1, v, h, e => by
    cases h with
    | cons a b =>
      obtain ⟨d, h1, h2⟩ := DqAll.getV (i := i) (v := v) b (by simpa using e)
      exact ⟨d, by simpa using h1, h2⟩
theorem DqAll.append : ∀ {ds es : List PyData} {vs us : List V}, DqAll K H vs ds → DqAll K H us es → DqAll K H (vs ++ us) (ds ++ es)
  | [], _, _, _, h, g => by cases h; exact g
  | x :: ds, _, _, _, h, g => by
    cases h with
    | cons a b => exact .cons a (DqAll.append b g)
theorem DqAll.one {v : V} {d : PyData} (h : Dq K H v d) : DqAll K H [v] [d] := .cons h .nil
theorem DqAll.take : ∀ {ds : List PyData} {vs : List V} (n : Nat), DqAll K H vs ds → DqAll K H (vs.take n) (ds.take n)
  | _, _, 0, _ => .nil
  | [], _, n + 1, h => by cases h; exact .nil
  | x :: ds, _, n + 1, h => by
    cases h with
    | cons a b => exact .cons a (DqAll.take n b)
theorem DqAll.drop : ∀ {ds : List PyData} {vs : List V} (n : Nat), DqAll K H vs ds → DqAll K H (vs.drop n) (ds.drop n)
  | _, _, 0, h => h
  | [], _, n + 1, h => by cases h; exact .nil
  | x :: ds, _, n + 1, h => by
    cases h with
    | cons a b => exact DqAll.drop n b
theorem DqAll.set : ∀ {ds : List PyData} {vs : List V} {v : V} {d : PyData} (i : Nat), DqAll K H vs ds → Dq K H v d → DqAll K H (vs.set i v) (ds.set i d)
  | [], _, _, _, _, h, _ => by cases h; exact .nil
  | x :: ds, _, _, _, 0, h, g => by
    cases h with
    | cons a b => exact .cons g b
  | x :: ds, _, _, _, i + 1, h, g => by
    cases h with
    | cons a b => exact .cons a (DqAll.set i b g)
theorem DqAll.ints : ∀ {ns : List Int} {vs : List V}, DqAll K H vs (ns.map PyData.int) → vs = ns.map V.int
  | [], _, h => by cases h; rfl
  | n :: ns, _, h => by
    cases h with
    | cons a b =>
      cases a
      rw [List.map_cons, DqAll.ints b]
theorem DqAll.ofInts : ∀ (ns : List Int), DqAll K H (ns.map V.int) (ns.map PyData.int)
  | [] => .nil
  | n :: ns => .cons (.int n) (DqAll.ofInts ns)
end
/-- the program, the world, the written part -/
structure Cn where
  P : Program
  w : World
  K : PySem.W.Frag
abbrev cn (X : Cx) : Cn := ⟨X.prog, X.w, X.K⟩
/-! ### states -/
/-- the law's own state: a list of a list of numbers from 0 on and a seed -/
structure StObj (H : Hp) (s c : Addr) : Prop where
  ne : s ≠ c
  ex : ∃ (cells : List Int) (seed : Int), H s = some (.lst [.ref c, .int seed]) ∧ H c = some (.lst (cells.map V.int)) ∧ (∀ z ∈ cells, 0 ≤ z) ∧ 0 ≤ seed ∧ seed < 2147483648
/-- a dict whose keys are tuples of any depth: its entries (key, the key's own tuple, value) -/
def DX0 (w : World) (h : Heap) (a : Addr) (xs : List (NestedKey × Addr × Value)) : Prop :=
  (∃ o es ep, h.get? a = some o ∧ o.ExactDict ∧ o.data = .dict es ep ∧ es.toList = xs.map (fun x => (⟨x.1.hash w, .ref x.2.1, x.2.2⟩ : DictEntry))) ∧ (xs.map (·.1)).Nodup ∧ (a == sysModules) = false ∧ xs.length ≤ sizeLine
def DXo (w : World) (a : Addr) (xs : List (NestedKey × Addr × Value)) : HO := .ext fun h => DX0 w h a xs
/-- what is the body's own: a list, a dict -/
inductive Ow where
  | lst (ds : List PyData)
  | dK (kvs : List (Key × PyData))
  | dX (kvs : List (NestedKey × PyData))
/-- a slot -/
inductive Sl where
  | no
  | va (d : PyData)
  | ow (o : Ow)
  | st
abbrev Slots := List Sl
section
variable (K : Cn)
def OwOk (F H : Hp) (a : Addr) : Ow → Prop
  | .lst ds => ∃ vs, H a = some (.lst vs) ∧ DqAll K.K F vs ds
  | .dK kvs => ∃ vs, H a = some (.dK vs) ∧ vs.map (·.1) = kvs.map (·.1) ∧ DqAll K.K F (vs.map (·.2)) (kvs.map (·.2))
  | .dX kvs => ∃ (xs : List (NestedKey × Addr × Value)) (vs : List V), H a = some (DXo K.w a xs) ∧ xs.map (·.1) = kvs.map (·.1) ∧ Vals vs (xs.map (·.2.2)) ∧ DqAll K.K F vs (kvs.map (·.2)) ∧ ∀ x ∈ xs, Dq K.K F (.ref x.2.1) x.1.data ∧ x.1.depth ≤ 8
abbrev Sta := Option (Addr × Addr)
abbrev Own := Nat → Option Addr
structure Sok (S : Sta) (O : Own) (ρ : Slots) (σ : L2.St) (F H : Hp) : Prop where
  len : ρ.length = σ.length
  va : ∀ (i : Nat) (d : PyData), ρ[i]? = some (.va d) → ∃ v, σ[i]? = some (some v) ∧ Dq K.K F v d
  ow : ∀ (i : Nat) (o : Ow), ρ[i]? = some (.ow o) → ∃ a, O i = some a ∧ σ[i]? = some (some (.ref a)) ∧ OwOk K F H a o
  oi : ∀ (i : Nat) (a : Addr), O i = some a → F a = none ∧ H a ≠ none ∧ (∀ j, O j = some a → j = i) ∧ ∀ s c, S = some (s, c) → a ≠ s ∧ a ≠ c
  stv : ∀ (i : Nat), ρ[i]? = some .st → ∃ s c, S = some (s, c) ∧ σ[i]? = some (some (.ref s))
  sto : ∀ s c, S = some (s, c) → StObj H s c ∧ F s = none ∧ F c = none
  FH : Same F H
end
/-- what a step may change: the law's state alone; what is new is frozen or loose -/
structure Tr (S : Sta) (F H F' H' : Hp) : Prop where
  ff : Same F F'
  hh : ∀ b o, H b = some o → (∀ s c, S = some (s, c) → b ≠ s ∧ b ≠ c) → H' b = some o
  nw : ∀ b, F b = none → H b ≠ none → F' b = none
  ke : ∀ b, H b ≠ none → H' b ≠ none
section
variable {K : Cn} {S : Sta} {O : Own} {ρ : Slots} {σ : L2.St} {F H F' H' F1 H1 : Hp}
theorem Tr.refl : Tr S F H F H := ⟨Same.refl F, fun _ _ h _ => h, fun _ h _ => h, fun _ h => h⟩
theorem Tr.trans (a : Tr S F H F1 H1) (b : Tr S F1 H1 F' H') : Tr S F H F' H' :=
  ⟨a.ff.trans b.ff, fun x o h n => b.hh x o (a.hh x o h n) n, fun x h h' => b.nw x (a.nw x h h') (a.ke x h'), fun x h => b.ke x (a.ke x h)⟩
/-- where nothing is changed at all -/
theorem Tr.of0 (t : Tr none F H F' H') : Tr S F H F' H' := ⟨t.ff, fun b o h _ => t.hh b o h (by intro s c e; cases e), t.nw, t.ke⟩
theorem Tr.same (t : Tr none F H F' H') : Same H H' := fun b o h => t.hh b o h (by intro s c e; cases e)
theorem Tr.mk0 (ff : Same F F') (hh : Same H H') (nw : ∀ b, F b = none → H b ≠ none → F' b = none) : Tr none F H F' H' :=
  ⟨ff, fun b o h _ => hh b o h, nw, fun b h => by
    cases e : H b with
    | none => exact absurd e h
    | some o => rw [hh b o e]; intro z; cases z⟩
theorem ne_none {α : Type} {x : Option α} {o : α} (h : x = some o) : x ≠ none := by rw [h]; intro z; cases z
theorem same_new {p : Addr} {o : HO} (h : H p = none) : Same H (upd H p o) := fun b u e => by
  rw [upd_ne (ne_of_none e h)]
  exact e
theorem Sok.fnone (X : Sok K S O ρ σ F H) {p : Addr} (h : H p = none) : F p = none := X.FH.free h
/-- a new frozen object -/
theorem Tr.new {p : Addr} {o : HO} (hF : F p = none) (h : H p = none) : Tr none F H (upd F p o) (upd H p o) := by
  refine Tr.mk0 (same_new hF) (same_new h) fun b hb hb' => ?_
  rw [upd_ne (show b ≠ p from fun e => hb' (e ▸ h))]
  exact hb
/-- a new loose object -/
theorem Tr.newL {p : Addr} {o : HO} (h : H p = none) : Tr none F H F (upd H p o) := Tr.mk0 (Same.refl F) (same_new h) fun _ hb _ => hb
theorem OwOk.mono {a : Addr} (e : Same F F') (eh : H' a = H a) : ∀ {o : Ow}, OwOk K F H a o → OwOk K F' H' a o
  | .lst ds, ⟨vs, h1, h2⟩ => ⟨vs, eh.trans h1, DqAll.mono e ds h2⟩
  | .dK kvs, ⟨vs, h1, h2, h3⟩ => ⟨vs, eh.trans h1, h2, DqAll.mono e _ h3⟩
  | .dX kvs, ⟨xs, vs, h1, h2, h3, h4, h5⟩ => ⟨xs, vs, eh.trans h1, h2, h3, DqAll.mono e _ h4, fun x hx => ⟨Dq.mono e _ (h5 x hx).1, (h5 x hx).2⟩⟩
theorem OwOk.some {a : Addr} : ∀ {o : Ow}, OwOk K F H a o → H a ≠ none
  | .lst ds, ⟨vs, h1, h2⟩ => ne_none h1
  | .dK kvs, ⟨vs, h1, h2, h3⟩ => ne_none h1
  | .dX kvs, ⟨xs, vs, h1, _⟩ => ne_none h1
theorem StObj.mono {s c : Addr} (x : StObj H s c) (h1 : H' s = H s) (h2 : H' c = H c) : StObj H' s c := by
  obtain ⟨ne, cells, seed, e1, e2, r⟩ := x
  exact ⟨ne, cells, seed, h1.trans e1, h2.trans e2, r⟩
theorem StObj.some {s c : Addr} (x : StObj H s c) : H s ≠ none ∧ H c ≠ none := by
  obtain ⟨ne, cells, seed, e1, e2, r⟩ := x
  exact ⟨ne_none e1, ne_none e2⟩
/-- a state is carried over a step that leaves the law's state -/
theorem Sok.go (X : Sok K S O ρ σ F H) (t : Tr none F H F' H') (fh : Same F' H') : Sok K S O ρ σ F' H' where
  len := X.len
  va := fun i d h => let ⟨v, h1, h2⟩ := X.va i d h; ⟨v, h1, Dq.mono t.ff d h2⟩
  ow := fun i o h => by
    obtain ⟨a, h1, h2, h3⟩ := X.ow i o h
    refine ⟨a, h1, h2, h3.mono t.ff ?_⟩
    cases e : H a with
    | none => exact absurd e h3.some
    | some u => exact t.same a u e
  oi := fun i a h => by
    obtain ⟨h1, h2, h3, h4⟩ := X.oi i a h
    exact ⟨t.nw a h1 h2, t.ke a h2, h3, h4⟩
  stv := X.stv
  sto := fun s c h => by
    obtain ⟨h1, h2, h3⟩ := X.sto s c h
    obtain ⟨n1, n2⟩ := h1.some
    refine ⟨h1.mono ?_ ?_, t.nw s h2 n1, t.nw c h3 n2⟩
    · cases e : H s with
      | none => exact absurd e n1
      | some u => exact t.same s u e
    · cases e : H c with
      | none => exact absurd e n2
      | some u => exact t.same c u e
  FH := fh
theorem Sok.new (X : Sok K S O ρ σ F H) {p : Addr} {o : HO} (h : H p = none) : Sok K S O ρ σ (upd F p o) (upd H p o) :=
  X.go (Tr.new (X.fnone h) h) fun b u e => by
    by_cases hb : b = p
    · subst hb; rw [upd_same] at e ⊢; exact e
    · rw [upd_ne hb] at e ⊢; exact X.FH b u e
theorem Sok.newL (X : Sok K S O ρ σ F H) {p : Addr} {o : HO} (h : H p = none) : Sok K S O ρ σ F (upd H p o) :=
  X.go (Tr.newL h) fun b u e => by
    have hn := X.FH b u e
    rw [upd_ne (ne_of_none hn h)]; exact hn
/-- a loose object is frozen -/
theorem Sok.fix (X : Sok K S O ρ σ F H) {p : Addr} {o : HO} (h : H p = some o) (hF : F p = none) (hO : ∀ i, O i ≠ some p) (hS : ∀ s c, S = some (s, c) → p ≠ s ∧ p ≠ c) : Sok K S O ρ σ (upd F p o) H where
  len := X.len
  va := fun i d h => let ⟨v, h1, h2⟩ := X.va i d h; ⟨v, h1, Dq.mono (same_new hF) d h2⟩
  ow := fun i o h => let ⟨a, h1, h2, h3⟩ := X.ow i o h; ⟨a, h1, h2, h3.mono (same_new hF) rfl⟩
  oi := fun i a h => by
    obtain ⟨h1, h2, h3, h4⟩ := X.oi i a h
    refine ⟨?_, h2, h3, h4⟩
    rw [upd_ne (show a ≠ p from fun e => hO i (e ▸ h))]
    exact h1
  stv := X.stv
  sto := fun s c h => by
    obtain ⟨h1, h2, h3⟩ := X.sto s c h
    obtain ⟨n1, n2⟩ := hS s c h
    exact ⟨h1, by rw [upd_ne (Ne.symm n1)]; exact h2, by rw [upd_ne (Ne.symm n2)]; exact h3⟩
  FH := fun b u e => by
    by_cases hb : b = p
    · subst hb; rw [upd_same] at e; rw [h]; exact e
    · rw [upd_ne hb] at e; exact X.FH b u e
/-- an address that was free at a state is none of its own -/
theorem Sok.notO (X : Sok K S O ρ σ F H) {p : Addr} (h : H p = none) : ∀ i, O i ≠ some p := fun i e => (X.oi i p e).2.1 h
theorem Sok.notS (X : Sok K S O ρ σ F H) {p : Addr} (h : H p = none) : ∀ s c, S = some (s, c) → p ≠ s ∧ p ≠ c := fun s c e => by
  obtain ⟨n1, n2⟩ := (X.sto s c e).1.some
  exact ⟨fun z => n1 (z ▸ h), fun z => n2 (z ▸ h)⟩
end
/-! ### readings -/
section
variable (X : Cx)
def wpE (e : Expr) : TE := fun σ H Q => ∀ pins s, Inv X pins σ H s → wpAny (model X.prog X.w) X.A (eval e X.env) (EP X pins σ Q) X.xe s
theorem pe_wp {X : Cx} {e : Expr} : PE X e (wpE X e) := ⟨fun pins s σ H Q I h => h pins s I⟩
theorem of_pe {X : Cx} {e : Expr} {t : TE} (h : PE X e t) {σ : L2.St} {H : Hp} {Q : VK} (q : t σ H Q) : wpE X e σ H Q := fun pins s I => h.run pins s σ H Q I q
def wpT (e : Expr) : TT := fun σ H Q => ∀ pins s, Inv X pins σ H s → wpAny (model X.prog X.w) X.A (isTrue e X.env (eval e X.env)) (TP X pins σ Q) X.xe s
theorem pt_wp {X : Cx} {e : Expr} : PT X e (wpT X e) := ⟨fun pins s σ H Q I h => h pins s I⟩
theorem of_pt {X : Cx} {e : Expr} {t : TT} (h : PT X e t) {σ : L2.St} {H : Hp} {Q : Bool → Hp → Prop} (q : t σ H Q) : wpT X e σ H Q := fun pins s I => h.run pins s σ H Q I q
def wpA (es : List Expr) : TA := fun σ H Q => ∀ pos pins s, Inv X pins σ H s → wpAny (model X.prog X.w) X.A (spliced (backTo pos (starEach es X.env))) (AP X pins σ Q) X.xe s
theorem pa_wp {X : Cx} {es : List Expr} : PA X es (wpA X es) := ⟨fun pos pins s σ H Q I h => h pos pins s I⟩
theorem of_pa {X : Cx} {es : List Expr} {t : TA} (h : PA X es t) {σ : L2.St} {H : Hp} {Q : List V → Hp → Prop} (q : t σ H Q) : wpA X es σ H Q := fun pos pins s I => h.run pos pins s σ H Q I q
def wpS (st : Stmt) : TS := fun D σ H => ∀ pins s, Inv X pins σ H s → wpAny (model X.prog X.w) X.A (exec st X.env) (SP X pins D) X.xe s
theorem ps_wp {X : Cx} {st : Stmt} : PS X st (wpS X st) := ⟨fun pins s σ H D I h => h pins s I⟩
theorem of_ps {X : Cx} {st : Stmt} {t : TS} (h : PS X st t) {σ : L2.St} {H : Hp} {D : Ends} (q : t D σ H) : wpS X st D σ H := fun pins s I => h.run pins s σ H D I q
def wpB (sts : List Stmt) : TS := fun D σ H => ∀ pins s, Inv X pins σ H s → wpAny (model X.prog X.w) X.A (execs sts X.env) (SP X pins D) X.xe s
theorem pss_wp {X : Cx} {sts : List Stmt} : PSs X sts (wpB X sts) := ⟨fun pins s σ H D I h => h pins s I⟩
theorem of_pss {X : Cx} {sts : List Stmt} {t : TS} (h : PSs X sts t) {σ : L2.St} {H : Hp} {D : Ends} (q : t D σ H) : wpB X sts D σ H := fun pins s I => h.run pins s σ H D I q
/-- an expression tells some data with P, by its reading -/
def De1 (K : Cn) (ρ : Slots) (te : TE) (P : PyData → Prop) : Prop :=
  ∀ (S : Sta) (O : Own) (σ : L2.St) (F H : Hp), Sok K S O ρ σ F H → ∀ Q : VK, (∀ v d F' H', Sok K S O ρ σ F' H' → Tr S F H F' H' → Dq K.K F' v d → P d → Q v H') → te σ H Q
/-- .. a new list -/
def DL1 (K : Cn) (ρ : Slots) (te : TE) (P : List PyData → Prop) : Prop :=
  ∀ (S : Sta) (O : Own) (σ : L2.St) (F H : Hp), Sok K S O ρ σ F H → ∀ Q : VK, (∀ p vs ds F' H', Sok K S O ρ σ F' H' → Tr S F H F' H' → H p = none → F' p = none → H' p = some (.lst vs) → DqAll K.K F' vs ds → P ds → Q (.ref p) H') → te σ H Q
def DT1 (K : Cn) (ρ : Slots) (te : TT) (P : Bool → Prop) : Prop :=
  ∀ (S : Sta) (O : Own) (σ : L2.St) (F H : Hp), Sok K S O ρ σ F H → ∀ Q : Bool → Hp → Prop, (∀ b F' H', Sok K S O ρ σ F' H' → Tr S F H F' H' → P b → Q b H') → te σ H Q
def DA1 (K : Cn) (ρ : Slots) (te : TA) (P : List PyData → Prop) : Prop :=
  ∀ (S : Sta) (O : Own) (σ : L2.St) (F H : Hp), Sok K S O ρ σ F H → ∀ Q : List V → Hp → Prop, (∀ vs ds F' H', Sok K S O ρ σ F' H' → Tr S F H F' H' → DqAll K.K F' vs ds → P ds → Q vs H') → te σ H Q
abbrev De (ρ : Slots) (e : Expr) (P : PyData → Prop) : Prop := De1 (cn X) ρ (wpE X e) P
abbrev DL (ρ : Slots) (e : Expr) (P : List PyData → Prop) : Prop := DL1 (cn X) ρ (wpE X e) P
abbrev DT (ρ : Slots) (e : Expr) (P : Bool → Prop) : Prop := DT1 (cn X) ρ (wpT X e) P
abbrev DA (ρ : Slots) (es : List Expr) (P : List PyData → Prop) : Prop := DA1 (cn X) ρ (wpA X es) P
/-- told exactly -/
abbrev Dd (ρ : Slots) (e : Expr) (d : PyData) : Prop := De X ρ e (fun x => x = d)
abbrev DLd (ρ : Slots) (e : Expr) (ds : List PyData) : Prop := DL X ρ e (fun x => x = ds)
abbrev DTd (ρ : Slots) (e : Expr) (b : Bool) : Prop := DT X ρ e (fun x => x = b)
abbrev DAd (ρ : Slots) (es : List Expr) (ds : List PyData) : Prop := DA X ρ es (fun x => x = ds)
end
end G
/-! G2: expressions. -/
namespace G
open PySem PySem.Spec PyProof.Rows L2
section
variable {K : Cn} {ρ : Slots} {ta tb : TE} {P P1 P2 : PyData → Prop}
theorem De1.imp (h : De1 K ρ ta P1) (f : ∀ d, P1 d → P d) : De1 K ρ ta P := fun S O σ F H s Q q => h S O σ F H s Q fun v d F' H' s' t p q1 => q v d F' H' s' t p (f d q1)
theorem DL1.imp {P1 P : List PyData → Prop} (h : DL1 K ρ ta P1) (f : ∀ d, P1 d → P d) : DL1 K ρ ta P := fun S O σ F H s Q q => h S O σ F H s Q fun p vs ds F' H' s' t h1 h2 h3 h4 h5 => q p vs ds F' H' s' t h1 h2 h3 h4 (f ds h5)
theorem DT1.imp {t : TT} {P1 P : Bool → Prop} (h : DT1 K ρ t P1) (f : ∀ d, P1 d → P d) : DT1 K ρ t P := fun S O σ F H s Q q => h S O σ F H s Q fun b F' H' s' t p => q b F' H' s' t (f b p)
theorem DA1.imp {t : TA} {P1 P : List PyData → Prop} (h : DA1 K ρ t P1) (f : ∀ d, P1 d → P d) : DA1 K ρ t P := fun S O σ F H s Q q => h S O σ F H s Q fun vs ds F' H' s' t p q1 => q vs ds F' H' s' t p (f ds q1)
theorem tr_free {S : Sta} {F H F' H' : Hp} (t : Tr S F H F' H') {p : Addr} (h : H' p = none) : H p = none := by
  cases e : H p with
  | none => rfl
  | some o => exact absurd h (t.ke p (ne_none e))
/-- a new list, frozen at once -/
theorem De1.ofL {P : List PyData → Prop} (h : DL1 K ρ ta P) : De1 K ρ ta (fun d => ∃ ds, d = .list ds ∧ P ds) := fun S O σ F H s Q q => h S O σ F H s Q fun p vs ds F' H' s' t h1 h2 h3 h4 h5 => by
  have sx : Sok K S O ρ σ (upd F' p (.lst vs)) H' := s'.fix h3 h2 (s.notO h1) (s.notS h1)
  refine q (.ref p) (.list ds) (upd F' p (.lst vs)) H' sx ⟨t.ff.trans (same_new h2), t.hh, fun b hb hb' => ?_, t.ke⟩ (.lst (.of upd_same) (DqAll.mono (same_new h2) ds h4)) ⟨ds, rfl, h5⟩
  rw [upd_ne (show b ≠ p from fun e => hb' (e ▸ h1))]
  exact t.nw b hb hb'
/-- a two-place operation on data -/
def RD (K : Cn) (r : R2) (d1 d2 : PyData) (P : PyData → Prop) : Prop :=
  ∀ (S : Sta) (O : Own) (ρ : Slots) (σ : L2.St) (F H : Hp) (v1 v2 : V), Sok K S O ρ σ F H → Dq K.K F v1 d1 → Dq K.K F v2 d2 → ∀ Q : VK, (∀ v d F' H', Sok K S O ρ σ F' H' → Tr S F H F' H' → Dq K.K F' v d → P d → Q v H') → r v1 v2 H Q
def RDL (K : Cn) (r : R2) (d1 d2 : PyData) (P : List PyData → Prop) : Prop :=
  ∀ (S : Sta) (O : Own) (ρ : Slots) (σ : L2.St) (F H : Hp) (v1 v2 : V), Sok K S O ρ σ F H → Dq K.K F v1 d1 → Dq K.K F v2 d2 → ∀ Q : VK, (∀ p vs ds F' H', Sok K S O ρ σ F' H' → Tr S F H F' H' → H p = none → F' p = none → H' p = some (.lst vs) → DqAll K.K F' vs ds → P ds → Q (.ref p) H') → r v1 v2 H Q
theorem De1.op {r : R2} (ha : De1 K ρ ta P1) (hb : De1 K ρ tb P2) (hr : ∀ d1 d2, P1 d1 → P2 d2 → RD K r d1 d2 P) : De1 K ρ (tOp r ta tb) P := fun S O σ F H s Q k =>
  ha S O σ F H s _ fun v1 d1 F1 H1 s1 t1 p1 q1 => hb S O σ F1 H1 s1 _ fun v2 d2 F2 H2 s2 t2 p2 q2 => hr d1 d2 q1 q2 S O ρ σ F2 H2 v1 v2 s2 (p1.mono t2.ff) p2 Q fun v d F' H' s' t' p q => k v d F' H' s' ((t1.trans t2).trans t') p q
theorem DL1.op {r : R2} {P : List PyData → Prop} (ha : De1 K ρ ta P1) (hb : De1 K ρ tb P2) (hr : ∀ d1 d2, P1 d1 → P2 d2 → RDL K r d1 d2 P) : DL1 K ρ (tOp r ta tb) P := fun S O σ F H s Q k =>
  ha S O σ F H s _ fun v1 d1 F1 H1 s1 t1 p1 q1 => hb S O σ F1 H1 s1 _ fun v2 d2 F2 H2 s2 t2 p2 q2 => hr d1 d2 q1 q2 S O ρ σ F2 H2 v1 v2 s2 (p1.mono t2.ff) p2 Q fun p vs ds F' H' s' t' h1 h2 h3 h4 h5 => k p vs ds F' H' s' ((t1.trans t2).trans t') (tr_free (t1.trans t2) h1) h2 h3 h4 h5
/-- results that are no objects -/
theorem rd_scal {r : R2} {d1 d2 d : PyData} {v : V} (hv : ∀ F, Dq K.K F v d) (hp : P d) (h : ∀ (F H : Hp) (v1 v2 : V) (Q : VK), Same F H → Dq K.K F v1 d1 → Dq K.K F v2 d2 → Q v H → r v1 v2 H Q) : RD K r d1 d2 P :=
  fun S O ρ σ F H v1 v2 s p1 p2 Q k => h F H v1 v2 Q s.FH p1 p2 (k v d F H s Tr.refl (hv F) hp)
theorem rd_I0 {g : Int → Int → Int} {i j : Int} (hp : P (.int (g i j))) : RD K (rI0 fun i j => .int (g i j)) (.int i) (.int j) P :=
  rd_scal (v := .int (g i j)) (fun _ => .int _) hp fun F H v1 v2 Q _ p1 p2 q => by cases p1; cases p2; exact ⟨i, j, rfl, rfl, q⟩
theorem rd_B0 {g : Int → Int → Bool} {i j : Int} (hp : P (.bool (g i j))) : RD K (rI0 fun i j => .bl (g i j)) (.int i) (.int j) P :=
  rd_scal (v := .bl (g i j)) (fun _ => .bl _) hp fun F H v1 v2 Q _ p1 p2 q => by cases p1; cases p2; exact ⟨i, j, rfl, rfl, q⟩
theorem rd_I {C : Int → Int → Prop} {g : Int → Int → Int} {i j : Int} (hc : C i j) (hp : P (.int (g i j))) : RD K (rI C fun i j => .int (g i j)) (.int i) (.int j) P :=
  rd_scal (v := .int (g i j)) (fun _ => .int _) hp fun F H v1 v2 Q _ p1 p2 q => by cases p1; cases p2; exact ⟨i, j, rfl, rfl, hc, q⟩
theorem rd_eq {d1 d2 : PyData} (h1 : SeqAt.shaped d1 = true) (h2 : SeqAt.shaped d2 = true) (hp : P (.bool (PyData.eqv d1 d2))) : RD K (rEqD K.K) d1 d2 P :=
  rd_scal (v := .bl (PyData.eqv d1 d2)) (fun _ => .bl _) hp fun F H v1 v2 Q e p1 p2 q => ⟨d1, d2, (p1.mono e).dp, (p2.mono e).dp, h1, h2, q⟩
theorem rd_ne {d1 d2 : PyData} (h1 : SeqAt.shaped d1 = true) (h2 : SeqAt.shaped d2 = true) (hp : P (.bool (!PyData.eqv d1 d2))) : RD K (rNeD K.K) d1 d2 P :=
  rd_scal (v := .bl (!PyData.eqv d1 d2)) (fun _ => .bl _) hp fun F H v1 v2 Q e p1 p2 q => ⟨d1, d2, (p1.mono e).dp, (p2.mono e).dp, h1, h2, q⟩
theorem rd_in {d : PyData} {ds : List PyData} (h1 : SeqAt.shaped d = true) (h2 : SeqAt.shaped (.list ds) = true) (hp : P (.bool (ds.any fun z => PyData.eqv z d))) : RD K (rInD K.K) d (.list ds) P :=
  rd_scal (v := .bl _) (fun _ => .bl _) hp fun F H v1 v2 Q e p1 p2 q => ⟨d, ds, (p1.mono e).dp, (p2.mono e).dp, h1, h2, q⟩
theorem rd_notIn {d : PyData} {ds : List PyData} (h1 : SeqAt.shaped d = true) (h2 : SeqAt.shaped (.list ds) = true) (hp : P (.bool (!ds.any fun z => PyData.eqv z d))) : RD K (rNotInD K.K) d (.list ds) P :=
  rd_scal (v := .bl _) (fun _ => .bl _) hp fun F H v1 v2 Q e p1 p2 q => ⟨d, ds, (p1.mono e).dp, (p2.mono e).dp, h1, h2, q⟩
/-- a part of a list, a tuple -/
theorem atI_get {α : Type} {xs : List α} {i : Int} {x : α} (h : atI xs i = some x) : ∃ j, xs[j]? = some x ∧ ixN xs.length i = some j := by
  unfold atI at h
  cases e : ixN xs.length i with
  | none => rw [e] at h; cases h
  | some j => rw [e] at h; exact ⟨j, h, rfl⟩
theorem atI_dp {F : Hp} {vs : List V} {ds : List PyData} {i : Int} {d : PyData} (p : DqAll K.K F vs ds) (h : atI ds i = some d) : ∃ v, atI vs i = some v ∧ Dq K.K F v d := by
  obtain ⟨j, h1, h2⟩ := atI_get h
  obtain ⟨v, h3, h4⟩ := p.get h1
  refine ⟨v, ?_, h4⟩
  unfold atI
  rw [p.length, h2]
  exact h3
theorem rd_ixL {ds : List PyData} {i : Int} {d : PyData} (h : atI ds i = some d) (hp : P d) : RD K (rIxL K.K) (.list ds) (.int i) P := fun S O ρ σ F H v1 v2 s p1 p2 Q k => by
  cases p1 with
  | lst a b =>
    cases p2
    obtain ⟨v, h1, h2⟩ := atI_dp b h
    exact ⟨_, _, i, v, rfl, rfl, .inl (rd_mono s.FH a), h1, k v d F H s Tr.refl h2 hp⟩
theorem rd_ixT {ds : List PyData} {i : Int} {d : PyData} (h : atI ds i = some d) (hp : P d) : RD K (rIxT K.K) (.tuple ds) (.int i) P := fun S O ρ σ F H v1 v2 s p1 p2 Q k => by
  cases p1 with
  | tup a b =>
    cases p2
    obtain ⟨v, h1, h2⟩ := atI_dp b h
    exact ⟨_, _, i, v, rfl, rfl, sqT_mono s.FH a, h1, k v d F H s Tr.refl h2 hp⟩
theorem rd_ixS {z : Str} {i : Int} {c : Nat} (hl : z.length ≤ sizeLine) (h : atI z.cps.toList i = some c) (hp : P (.str ⟨#[c]⟩)) : RD K rIxS (.str z) (.int i) P := fun S O ρ σ F H v1 v2 s p1 p2 Q k => by
  cases p1
  cases p2
  exact ⟨z, i, c, rfl, rfl, hl, h, k _ _ F H s Tr.refl (.str _) hp⟩
end
/-! ### the rules -/
section
variable {X : Cx} {ρ : Slots} {a b c e : Expr} {es rest : List Expr} {P P1 P2 : PyData → Prop} {pos p2 : Pos}
theorem De.of {t : TE} (h : PE X e t) (k : De1 (cn X) ρ t P) : De X ρ e P := fun S O σ F H s Q q => of_pe h (k S O σ F H s Q q)
theorem DL.of {t : TE} {P : List PyData → Prop} (h : PE X e t) (k : DL1 (cn X) ρ t P) : DL X ρ e P := fun S O σ F H s Q q => of_pe h (k S O σ F H s Q q)
theorem DT.of {t : TT} {P : Bool → Prop} (h : PT X e t) (k : DT1 (cn X) ρ t P) : DT X ρ e P := fun S O σ F H s Q q => of_pt h (k S O σ F H s Q q)
theorem DA.of {t : TA} {P : List PyData → Prop} (h : PA X es t) (k : DA1 (cn X) ρ t P) : DA X ρ es P := fun S O σ F H s Q q => of_pa h (k S O σ F H s Q q)
theorem De.imp (h : De X ρ e P1) (f : ∀ d, P1 d → P d) : De X ρ e P := De1.imp h f
theorem De.ofL {P : List PyData → Prop} (h : DL X ρ e P) : De X ρ e (fun d => ∃ ds, d = .list ds ∧ P ds) := De1.ofL h
theorem Dd.ofL {ds : List PyData} (h : DLd X ρ e ds) : Dd X ρ e (.list ds) := (De.ofL h).imp fun d ⟨x, e1, e2⟩ => by rw [e1, e2]
theorem Dd.eq {d d' : PyData} (h : Dd X ρ e d) (k : d = d') : Dd X ρ e d' := k ▸ h
theorem DLd.eq {d d' : List PyData} (h : DLd X ρ e d) (k : d = d') : DLd X ρ e d' := k ▸ h
theorem DTd.eq {d d' : Bool} (h : DTd X ρ e d) (k : d = d') : DTd X ρ e d' := k ▸ h
theorem De1_c {K : Cn} {v : V} {d : PyData} (h : ∀ F, Dq K.K F v d) (hp : P d) : De1 K ρ (tC v) P := fun S O σ F H s Q q => q v d F H s Tr.refl (h F) hp
theorem dd_int {i : Int} {j} : Dd X ρ (.Constant (.int i) j pos) (.int i) := De.of pe_int (De1_c (fun _ => .int _) rfl)
theorem dd_bool {i : Bool} {j} : Dd X ρ (.Constant (.bool i) j pos) (.bool i) := De.of pe_bl (De1_c (fun _ => .bl _) rfl)
theorem dd_none {j} : Dd X ρ (.Constant .none j pos) .none := De.of pe_non (De1_c (fun _ => .non) rfl)
theorem dd_str {x : Str} {j} : Dd X ρ (.Constant (.str x) j pos) (.str x) := De.of pe_str (De1_c (fun _ => .str _) rfl)
/-- a name in slot i -/
theorem dd_var (i : Nat) {x : Str} {d : PyData} (hN : X.N[i]? = some x := by rfl) (hv : Vis X.env.scope x := by first | exact Or.inl rfl | exact Or.inr (Or.inl rfl) | exact Or.inr (Or.inr rfl)) (h : ρ[i]? = some (.va d) := by rfl)
    (hd : (x == ("__debug__" : Str)) = false := by decide) (hcd : (x == ("__classdict__" : Str)) = false := by decide) : Dd X ρ (.Name x pos) d :=
  De.of (pe_var hN hv hd hcd) fun S O σ F H s Q q => by
    obtain ⟨v, h1, h2⟩ := s.va i d h
    exact ⟨v, h1, q v d F H s Tr.refl h2 rfl⟩
/-- a two-place operation -/
theorem dm_op {op : Operator} {r : R2} (ho : OpR X (binaryOp op) r) (ha : De X ρ a P1) (hb : De X ρ b P2) (hr : ∀ d1 d2, P1 d1 → P2 d2 → RD (cn X) r d1 d2 P) : De X ρ (.BinOp a op b pos) P := De.of (pe_op ho pe_wp pe_wp) (De1.op ha hb hr)
theorem dd_op {op : Operator} {r : R2} {d1 d2 d : PyData} (ho : OpR X (binaryOp op) r) (ha : Dd X ρ a d1) (hb : Dd X ρ b d2) (hr : RD (cn X) r d1 d2 (fun x => x = d)) : Dd X ρ (.BinOp a op b pos) d := dm_op ho ha hb fun _ _ e1 e2 => by rw [e1, e2]; exact hr
theorem dd_add {i j : Int} (ha : Dd X ρ a (.int i)) (hb : Dd X ρ b (.int j)) : Dd X ρ (.BinOp a .Add b pos) (.int (i + j)) := dd_op op_add ha hb (rd_I0 rfl)
theorem dd_sub {i j : Int} (ha : Dd X ρ a (.int i)) (hb : Dd X ρ b (.int j)) : Dd X ρ (.BinOp a .Sub b pos) (.int (i - j)) := dd_op op_sub ha hb (rd_I0 rfl)
theorem dd_mul {i j : Int} (ha : Dd X ρ a (.int i)) (hb : Dd X ρ b (.int j)) (hc : CMulW i j) : Dd X ρ (.BinOp a .Mult b pos) (.int (i * j)) := dd_op op_mulW ha hb (rd_I hc rfl)
theorem dd_div {i j : Int} (ha : Dd X ρ a (.int i)) (hb : Dd X ρ b (.int j)) (hc : CDivW i j) : Dd X ρ (.BinOp a .FloorDiv b pos) (.int (i / j)) := dd_op op_fdivW ha hb (rd_I hc rfl)
theorem dd_mod {i j : Int} (ha : Dd X ρ a (.int i)) (hb : Dd X ρ b (.int j)) (hc : 0 < j) : Dd X ρ (.BinOp a .Mod b pos) (.int (i % j)) := dd_op op_mod ha hb (rd_I hc rfl)
theorem dd_neg {i : Int} (ha : Dd X ρ a (.int i)) : Dd X ρ (.UnaryOp .USub a pos) (.int (-i)) := De.of (pe_un un_neg pe_wp) fun S O σ F H s Q q =>
  ha S O σ F H s _ fun v d F' H' s' t p e => by
    subst e; cases p
    exact ⟨i, rfl, q _ _ F' H' s' t (.int _) rfl⟩
/-- a comparison as a value -/
theorem dm_cmp {op : CmpOp} {r : R2} (ho : OpR X (compareOp op) r) (ha : De X ρ a P1) (hb : De X ρ b P2) (hr : ∀ d1 d2, P1 d1 → P2 d2 → RD (cn X) r d1 d2 P) (hm : behindInMarks op b = false) : De X ρ (.Compare a [op] [b] pos) P :=
  De.of (pe_cmpR ho pe_wp pe_wp hm) (De1.op ha hb hr)
theorem dd_cmp {op : CmpOp} {r : R2} {d1 d2 d : PyData} (ho : OpR X (compareOp op) r) (ha : Dd X ρ a d1) (hb : Dd X ρ b d2) (hr : RD (cn X) r d1 d2 (fun x => x = d)) (hm : behindInMarks op b = false) : Dd X ρ (.Compare a [op] [b] pos) d :=
  dm_cmp ho ha hb (fun _ _ e1 e2 => by rw [e1, e2]; exact hr) hm
/-- as a test -/
theorem dt_cmpM {op : CmpOp} {r : R2} {Pb : Bool → Prop} (ho : OpR X (compareOp op) r) (ha : De X ρ a P1) (hb : De X ρ b P2) (hr : ∀ d1 d2, P1 d1 → P2 d2 → RD (cn X) r d1 d2 (fun d => ∃ k, d = .bool k ∧ Pb k)) (hm : behindInMarks op b = false) : DT X ρ (.Compare a [op] [b] pos) Pb :=
  DT.of (pt_cmpR ho pe_wp pe_wp hm) fun S O σ F H s Q q => De1.op ha hb hr S O σ F H s _ fun v d F' H' s' t p ⟨k, e, hk⟩ => by
    subst e; cases p
    exact ⟨k, rfl, q k F' H' s' t hk⟩
theorem dt_cmp {op : CmpOp} {r : R2} {d1 d2 : PyData} {k : Bool} (ho : OpR X (compareOp op) r) (ha : Dd X ρ a d1) (hb : Dd X ρ b d2) (hr : RD (cn X) r d1 d2 (fun d => d = .bool k)) (hm : behindInMarks op b = false) : DTd X ρ (.Compare a [op] [b] pos) k :=
  dt_cmpM ho ha hb (fun _ _ e1 e2 => by
    rw [e1, e2]
    exact fun S O ρ σ F H v1 v2 s p1 p2 Q q => hr S O ρ σ F H v1 v2 s p1 p2 Q fun v d F' H' s' t p e => q v d F' H' s' t p ⟨k, e, rfl⟩) hm
theorem dt_eq {d1 d2 : PyData} (hu : X.A.units + 65 < cLine) (ha : Dd X ρ a d1) (hb : Dd X ρ b d2) (h1 : SeqAt.shaped d1 = true) (h2 : SeqAt.shaped d2 = true) : DTd X ρ (.Compare a [.Eq] [b] pos) (PyData.eqv d1 d2) := dt_cmp (op_eqD (Nat.lt_of_succ_lt hu)) ha hb (rd_eq h1 h2 rfl) (nomark _)
theorem dt_ne {d1 d2 : PyData} (hu : X.A.units + 65 < cLine) (ha : Dd X ρ a d1) (hb : Dd X ρ b d2) (h1 : SeqAt.shaped d1 = true) (h2 : SeqAt.shaped d2 = true) : DTd X ρ (.Compare a [.NotEq] [b] pos) (!PyData.eqv d1 d2) := dt_cmp (op_neD (Nat.lt_of_succ_lt hu)) ha hb (rd_ne h1 h2 rfl) (nomark _)
theorem dd_eq {d1 d2 : PyData} (hu : X.A.units + 65 < cLine) (ha : Dd X ρ a d1) (hb : Dd X ρ b d2) (h1 : SeqAt.shaped d1 = true) (h2 : SeqAt.shaped d2 = true) : Dd X ρ (.Compare a [.Eq] [b] pos) (.bool (PyData.eqv d1 d2)) := dd_cmp (op_eqD (Nat.lt_of_succ_lt hu)) ha hb (rd_eq h1 h2 rfl) (nomark _)
theorem dd_ne {d1 d2 : PyData} (hu : X.A.units + 65 < cLine) (ha : Dd X ρ a d1) (hb : Dd X ρ b d2) (h1 : SeqAt.shaped d1 = true) (h2 : SeqAt.shaped d2 = true) : Dd X ρ (.Compare a [.NotEq] [b] pos) (.bool (!PyData.eqv d1 d2)) := dd_cmp (op_neD (Nat.lt_of_succ_lt hu)) ha hb (rd_ne h1 h2 rfl) (nomark _)
theorem dt_eqI {i j : Int} (hu : X.A.units + 65 < cLine) (ha : Dd X ρ a (.int i)) (hb : Dd X ρ b (.int j)) : DTd X ρ (.Compare a [.Eq] [b] pos) (i == j) := dt_eq hu ha hb rfl rfl
theorem dt_neI {i j : Int} (hu : X.A.units + 65 < cLine) (ha : Dd X ρ a (.int i)) (hb : Dd X ρ b (.int j)) : DTd X ρ (.Compare a [.NotEq] [b] pos) (!(i == j)) := dt_ne hu ha hb rfl rfl
theorem dt_lt {i j : Int} (ha : Dd X ρ a (.int i)) (hb : Dd X ρ b (.int j)) : DTd X ρ (.Compare a [.Lt] [b] pos) (decide (i < j)) := dt_cmp op_lt ha hb (rd_B0 rfl) (nomark _)
theorem dt_le {i j : Int} (ha : Dd X ρ a (.int i)) (hb : Dd X ρ b (.int j)) : DTd X ρ (.Compare a [.LtE] [b] pos) (decide (i ≤ j)) := dt_cmp op_le ha hb (rd_B0 rfl) (nomark _)
theorem dt_gt {i j : Int} (ha : Dd X ρ a (.int i)) (hb : Dd X ρ b (.int j)) : DTd X ρ (.Compare a [.Gt] [b] pos) (decide (j < i)) := dt_cmp op_gt ha hb (rd_B0 rfl) (nomark _)
theorem dt_ge {i j : Int} (ha : Dd X ρ a (.int i)) (hb : Dd X ρ b (.int j)) : DTd X ρ (.Compare a [.GtE] [b] pos) (decide (j ≤ i)) := dt_cmp op_ge ha hb (rd_B0 rfl) (nomark _)
theorem dt_in {d : PyData} {ds : List PyData} (hu : X.A.units + 65 < cLine) (ha : Dd X ρ a d) (hb : Dd X ρ b (.list ds)) (h1 : SeqAt.shaped d = true) (h2 : SeqAt.shaped (.list ds) = true) (hm : behindInMarks .In b = false := by rfl) : DTd X ρ (.Compare a [.In] [b] pos) (ds.any fun z => PyData.eqv z d) :=
  dt_cmp (op_inD hu) ha hb (rd_in h1 h2 rfl) hm
theorem dt_notIn {d : PyData} {ds : List PyData} (hu : X.A.units + 65 < cLine) (ha : Dd X ρ a d) (hb : Dd X ρ b (.list ds)) (h1 : SeqAt.shaped d = true) (h2 : SeqAt.shaped (.list ds) = true) (hm : behindInMarks .NotIn b = false := by rfl) : DTd X ρ (.Compare a [.NotIn] [b] pos) (!ds.any fun z => PyData.eqv z d) :=
  dt_cmp (op_notInD hu) ha hb (rd_notIn h1 h2 rfl) hm
/-- an expression that tells True or False, as a test -/
theorem dt_valM {Pb : Bool → Prop} (ha : De X ρ a (fun d => ∃ k, d = .bool k ∧ Pb k)) (he : ∀ whole, isTrue a X.env whole = (do let v ← whole; standAt a.pos; holding [v] (truthy v)) := by intro _; rfl) : DT X ρ a Pb :=
  DT.of (pt_val pe_wp he) fun S O σ F H s Q q => ha S O σ F H s _ fun v d F' H' s' t p ⟨k, e, hk⟩ => by
    subst e; cases p
    exact ⟨k, rfl, q k F' H' s' t hk⟩
theorem dt_val {k : Bool} (ha : Dd X ρ a (.bool k)) (he : ∀ whole, isTrue a X.env whole = (do let v ← whole; standAt a.pos; holding [v] (truthy v)) := by intro _; rfl) : DTd X ρ a k := dt_valM (ha.imp fun d e => ⟨k, e, rfl⟩) he
/-- not, and, or -/
theorem dt_notM {Pb : Bool → Prop} (ha : DT X ρ a (fun k => Pb (!k))) : DT X ρ (.UnaryOp .Not a pos) Pb := DT.of (pt_not pt_wp) fun S O σ F H s Q q => ha S O σ F H s _ fun k F' H' s' t p => q _ F' H' s' t p
theorem dt_not {k : Bool} (ha : DTd X ρ a k) : DTd X ρ (.UnaryOp .Not a pos) (!k) := dt_notM (DT1.imp ha fun x e => by rw [e])
def wpW (X : Cx) (e : Expr) : TT := fun σ H Q => ∀ whole pins s, Inv X pins σ H s → wpAny (model X.prog X.w) X.A (isTrue e X.env whole) (TP X pins σ Q) X.xe s
theorem pw_wp : PW X e (wpW X e) := ⟨fun whole pins s σ H Q I h => h whole pins s I⟩
theorem of_pw {t : TT} (h : PW X e t) {σ : L2.St} {H : Hp} {Q : Bool → Hp → Prop} (q : t σ H Q) : wpW X e σ H Q := fun whole pins s I => h.run whole pins s σ H Q I q
abbrev DW (X : Cx) (ρ : Slots) (e : Expr) (P : Bool → Prop) : Prop := DT1 (cn X) ρ (wpW X e) P
theorem DW.of {t : TT} {P : Bool → Prop} (h : PW X e t) (k : DT1 (cn X) ρ t P) : DW X ρ e P := fun S O σ F H s Q q => of_pw h (k S O σ F H s Q q)
theorem dw_t {Pb : Bool → Prop} (h : DW X ρ e Pb) : DT X ρ e Pb := DT.of (PW.pt pw_wp) h
theorem dw_and1 {Pb : Bool → Prop} (h : DT X ρ a Pb) : DW X ρ (.BoolOp .And [a] pos) Pb := DW.of (pw_and1 pt_wp) h
theorem dw_or1 {Pb : Bool → Prop} (h : DT X ρ a Pb) : DW X ρ (.BoolOp .Or [a] pos) Pb := DW.of (pw_or1 pt_wp) h
theorem dw_andM {P1 Pb : Bool → Prop} (ha : DT X ρ a P1) (hf : P1 false → Pb false) (hb : P1 true → DW X ρ (.BoolOp .And (b :: rest) pos) Pb) : DW X ρ (.BoolOp .And (a :: b :: rest) pos) Pb := DW.of (pw_and pt_wp pw_wp) fun S O σ F H s Q q =>
  ha S O σ F H s _ fun k F' H' s' t p => by
    cases k with
    | true => exact iteT (hb p S O σ F' H' s' _ fun k' F2 H2 s2 t2 p2 => q k' F2 H2 s2 (t.trans t2) p2)
    | false => exact iteF (q false F' H' s' t (hf p))
theorem dw_orM {P1 Pb : Bool → Prop} (ha : DT X ρ a P1) (ht : P1 true → Pb true) (hb : P1 false → DW X ρ (.BoolOp .Or (b :: rest) pos) Pb) : DW X ρ (.BoolOp .Or (a :: b :: rest) pos) Pb := DW.of (pw_or pt_wp pw_wp) fun S O σ F H s Q q =>
  ha S O σ F H s _ fun k F' H' s' t p => by
    cases k with
    | false => exact iteF (hb p S O σ F' H' s' _ fun k' F2 H2 s2 t2 p2 => q k' F2 H2 s2 (t.trans t2) p2)
    | true => exact iteT (q true F' H' s' t (ht p))
theorem dw_and {k1 k2 : Bool} (ha : DTd X ρ a k1) (hb : k1 = true → DW X ρ (.BoolOp .And (b :: rest) pos) (fun x => x = k2)) : DW X ρ (.BoolOp .And (a :: b :: rest) pos) (fun x => x = (k1 && k2)) :=
  dw_andM ha (fun e => by rw [← e]; rfl) fun e => by rw [← e]; exact hb e.symm
theorem dw_or {k1 k2 : Bool} (ha : DTd X ρ a k1) (hb : k1 = false → DW X ρ (.BoolOp .Or (b :: rest) pos) (fun x => x = k2)) : DW X ρ (.BoolOp .Or (a :: b :: rest) pos) (fun x => x = (k1 || k2)) :=
  dw_orM ha (fun e => by rw [← e]; rfl) fun e => by rw [← e]; exact hb e.symm
/-- .. as values -/
theorem dd_one {op} {d : PyData} (h : Dd X ρ a d) : Dd X ρ (.BoolOp op [a] pos) d := De.of (pe_one pe_wp) h
theorem dd_and {k1 k2 : Bool} (ha : Dd X ρ a (.bool k1)) (hb : k1 = true → Dd X ρ (.BoolOp .And (b :: rest) pos) (.bool k2)) : Dd X ρ (.BoolOp .And (a :: b :: rest) pos) (.bool (k1 && k2)) := De.of (pe_and pe_wp pe_wp) fun S O σ F H s Q q =>
  ha S O σ F H s _ fun v d F' H' s' t p e => by
    subst e; cases p
    refine ⟨k1, rfl, ?_⟩
    cases k1 with
    | true => exact iteT (hb rfl S O σ F' H' s' _ fun v d F2 H2 s2 t2 p2 e2 => q v d F2 H2 s2 (t.trans t2) p2 e2)
    | false => exact iteF (q _ _ F' H' s' t (.bl _) rfl)
theorem dd_or {k1 k2 : Bool} (ha : Dd X ρ a (.bool k1)) (hb : k1 = false → Dd X ρ (.BoolOp .Or (b :: rest) pos) (.bool k2)) : Dd X ρ (.BoolOp .Or (a :: b :: rest) pos) (.bool (k1 || k2)) := De.of (pe_or pe_wp pe_wp) fun S O σ F H s Q q =>
  ha S O σ F H s _ fun v d F' H' s' t p e => by
    subst e; cases p
    refine ⟨k1, rfl, ?_⟩
    cases k1 with
    | false => exact iteF (hb rfl S O σ F' H' s' _ fun v d F2 H2 s2 t2 p2 e2 => q v d F2 H2 s2 (t.trans t2) p2 e2)
    | true => exact iteT (q _ _ F' H' s' t (.bl _) rfl)
theorem dd_notV {k : Bool} (ha : Dd X ρ a (.bool k)) : Dd X ρ (.UnaryOp .Not a pos) (.bool (!k)) := De.of (pe_not pe_wp) fun S O σ F H s Q q =>
  ha S O σ F H s _ fun v d F' H' s' t p e => by
    subst e; cases p
    exact ⟨k, rfl, q _ _ F' H' s' t (.bl _) rfl⟩
/-- a if c else b -/
theorem dm_if {P0 : Bool → Prop} (hc : DT X ρ c P0) (ha : P0 true → De X ρ a P) (hb : P0 false → De X ρ b P) : De X ρ (.IfExp c a b pos) P := De.of (pe_ifExp pt_wp pe_wp pe_wp) fun S O σ F H s Q q =>
  hc S O σ F H s _ fun k F' H' s' t p => by
    cases k with
    | true => exact iteT (ha p S O σ F' H' s' _ fun v d F2 H2 s2 t2 p2 e2 => q v d F2 H2 s2 (t.trans t2) p2 e2)
    | false => exact iteF (hb p S O σ F' H' s' _ fun v d F2 H2 s2 t2 p2 e2 => q v d F2 H2 s2 (t.trans t2) p2 e2)
theorem dd_if {k : Bool} {d1 d2 : PyData} (hc : DTd X ρ c k) (ha : k = true → Dd X ρ a d1) (hb : k = false → Dd X ρ b d2) : Dd X ρ (.IfExp c a b pos) (if k = true then d1 else d2) :=
  dm_if hc (fun e => (ha e.symm).imp fun d h => by rw [h, ← e]; rfl) fun e => (hb e.symm).imp fun d h => by rw [h, ← e]; rfl
/-- arguments -/
theorem da_nil : DA X ρ [] (fun x => x = []) := DA.of pa_nil fun S O σ F H s Q q => q [] [] F H s Tr.refl .nil rfl
theorem da_consM {t : TA} {Pa : PyData → Prop} {Pr Pz : List PyData → Prop} (ha : De X ρ e Pa) (hr : DA X ρ es Pr) (hz : ∀ d ds, Pa d → Pr ds → Pz (d :: ds)) (hs : starEach (e :: es) X.env = (false, eval e X.env) :: starEach es X.env := by rfl) : DA X ρ (e :: es) Pz :=
  DA.of (pa_cons pe_wp pa_wp hs) fun S O σ F H s Q q => ha S O σ F H s _ fun v d F1 H1 s1 t1 p1 q1 => hr S O σ F1 H1 s1 _ fun vs ds F2 H2 s2 t2 p2 q2 => q (v :: vs) (d :: ds) F2 H2 s2 (t1.trans t2) (.cons (p1.mono t2.ff) p2) (hz d ds q1 q2)
theorem da_cons {d : PyData} {ds : List PyData} (ha : Dd X ρ e d) (hr : DAd X ρ es ds) (hs : starEach (e :: es) X.env = (false, eval e X.env) :: starEach es X.env := by rfl) : DAd X ρ (e :: es) (d :: ds) :=
  da_consM (t := tNil) ha hr (fun _ _ e1 e2 => by rw [e1, e2]) hs
/-- displays -/
theorem dm_tup {x1} {Pa : List PyData → Prop} (h : DA X ρ es Pa) (hz : ∀ ds, Pa ds → ds.length ≤ sizeLine ∧ P (.tuple ds)) : De X ρ (.Tuple es x1 pos) P := De.of (pe_tup pa_wp) fun S O σ F H s Q q =>
  h S O σ F H s _ fun vs ds F' H' s' t p e => ⟨by rw [p.length]; exact (hz ds e).1, fun a ha => q (.ref a) (.tuple ds) _ _ (s'.new ha) (t.trans (Tr.new (s'.fnone ha) ha).of0) (.tup (.of upd_same) (DqAll.mono (same_new (s'.fnone ha)) ds p)) (hz ds e).2⟩
theorem dd_tup {x1} {ds : List PyData} (h : DAd X ρ es ds) (hz : Nat.ble ds.length 1000 = true := by rfl) : Dd X ρ (.Tuple es x1 pos) (.tuple ds) := dm_tup h fun ds' e => by
  rw [e]; exact ⟨Nat.le_of_lt (small1000 (Nat.le_of_ble_eq_true hz)), rfl⟩
theorem dl_lstM {Pa : List PyData → Prop} (h : DA X ρ es Pa) (hz : ∀ ds, Pa ds → ds.length ≤ sizeLine) : DL X ρ (.List es pos) Pa := DL.of (pe_lst pa_wp) fun S O σ F H s Q q =>
  h S O σ F H s _ fun vs ds F' H' s' t p e => ⟨by rw [p.length]; exact hz ds e, fun a ha => q a vs ds F' _ (s'.newL ha) (t.trans (Tr.newL ha).of0) (tr_free t ha) (s'.fnone ha) upd_same p e⟩
theorem dl_lst {ds : List PyData} (h : DAd X ρ es ds) (hz : Nat.ble ds.length 1000 = true := by rfl) : DLd X ρ (.List es pos) ds := dl_lstM h fun ds' e => by rw [e]; exact Nat.le_of_lt (small1000 (Nat.le_of_ble_eq_true hz))
/-- subscripts -/
theorem dm_ix {r : R2} (hi : IxR X r) (ha : De X ρ a P1) (hb : De X ρ b P2) (hr : ∀ d1 d2, P1 d1 → P2 d2 → RD (cn X) r d1 d2 P) (hs : PlainIx b := by exact fun _ _ => rfl) : De X ρ (.Subscript a b pos) P := De.of (pe_ix hi pe_wp pe_wp hs) (De1.op ha hb hr)
theorem dd_ixT {ds : List PyData} {i : Int} {d : PyData} (ha : Dd X ρ a (.tuple ds)) (hb : Dd X ρ b (.int i)) (h : atI ds i = some d) (hs : PlainIx b := by exact fun _ _ => rfl) : Dd X ρ (.Subscript a b pos) d := dm_ix ix_tup ha hb (fun _ _ e1 e2 => by rw [e1, e2]; exact rd_ixT h rfl) hs
theorem dd_ixL {ds : List PyData} {i : Int} {d : PyData} (ha : Dd X ρ a (.list ds)) (hb : Dd X ρ b (.int i)) (h : atI ds i = some d) (hs : PlainIx b := by exact fun _ _ => rfl) : Dd X ρ (.Subscript a b pos) d := dm_ix ix_list ha hb (fun _ _ e1 e2 => by rw [e1, e2]; exact rd_ixL h rfl) hs
theorem dd_ixS {z : Str} {i : Int} {c : Nat} (ha : Dd X ρ a (.str z)) (hb : Dd X ρ b (.int i)) (hl : z.length ≤ sizeLine) (h : atI z.cps.toList i = some c) (hs : PlainIx b := by exact fun _ _ => rfl) : Dd X ρ (.Subscript a b pos) (.str ⟨#[c]⟩) := dm_ix ix_str ha hb (fun _ _ e1 e2 => by rw [e1, e2]; exact rd_ixS hl h rfl) hs
end
end G
/-! G3: defs' promises, targets, what is walked, comprehensions. -/
namespace G
open PySem PySem.Spec PyProof.Rows L2
/-! ### promises -/
/-- data in (by an index), data out -/
def spV (K : PySem.W.Frag) {ι : Type} (args : ι → List PyData) (pre : ι → Prop) (P : ι → PyData → Prop) : Sp := fun vs H Q _ =>
  ∃ (F : Hp) (i : ι), Same F H ∧ DqAll K F vs (args i) ∧ pre i ∧ ∀ v d F' H', Tr none F H F' H' → Same F' H' → Dq K F' v d → P i d → Q v H'
/-- a new list out -/
def spL (K : PySem.W.Frag) {ι : Type} (args : ι → List PyData) (pre : ι → Prop) (P : ι → List PyData → Prop) : Sp := fun vs H Q _ =>
  ∃ (F : Hp) (i : ι), Same F H ∧ DqAll K F vs (args i) ∧ pre i ∧ ∀ p us ds F' H', Tr none F H F' H' → Same F' H' → H p = none → F' p = none → H' p = some (.lst us) → DqAll K F' us ds → P i ds → Q (.ref p) H'
/-- the law's state first, then data -/
def spS (K : PySem.W.Frag) {ι : Type} (args : ι → List PyData) (pre : ι → Prop) (P : ι → PyData → Prop) : Sp := fun vs H Q _ =>
  ∃ (F : Hp) (i : ι) (s c : Addr) (us : List V), vs = .ref s :: us ∧ StObj H s c ∧ F s = none ∧ F c = none ∧ Same F H ∧ DqAll K F us (args i) ∧ pre i ∧
    ∀ v d F' H', Tr (some (s, c)) F H F' H' → Same F' H' → StObj H' s c → F' s = none → F' c = none → Dq K F' v d → P i d → Q v H'
def spSL (K : PySem.W.Frag) {ι : Type} (args : ι → List PyData) (pre : ι → Prop) (P : ι → List PyData → Prop) : Sp := fun vs H Q _ =>
  ∃ (F : Hp) (i : ι) (s c : Addr) (us : List V), vs = .ref s :: us ∧ StObj H s c ∧ F s = none ∧ F c = none ∧ Same F H ∧ DqAll K F us (args i) ∧ pre i ∧
    ∀ p us ds F' H', Tr (some (s, c)) F H F' H' → Same F' H' → StObj H' s c → F' s = none → F' c = none → H p = none → F' p = none → H' p = some (.lst us) → DqAll K F' us ds → P i ds → Q (.ref p) H'
/-- a def as it stands behind the top, with its promise -/
structure Fn (Pg : Program) (w : World) (K : PySem.W.Frag) (mg : Str → Option Value) (base : Heap) (x : Str) (ps : List Str) (k : Nat) (sp : Sp) : Prop where
  ex : ∃ (f : Addr) (fd : FuncData), FnOk Pg w K mg base CX0 k f fd ps sp ∧ mg x = some (.ref f) ∧ PySem.W.keepIn K (.ref f) = true ∧ Binds K fd ps []
theorem Fn.mono {Pg : Program} {w : World} {K : PySem.W.Frag} {mg : Str → Option Value} {base : Heap} {x : Str} {ps : List Str} {k k' : Nat} {sp : Sp} (h : Fn Pg w K mg base x ps k sp) (hk : k ≤ k') : Fn Pg w K mg base x ps k' sp :=
  let ⟨f, fd, a, b⟩ := h.ex; ⟨f, fd, a.mono hk, b⟩
section
variable {X : Cx} {ρ : Slots} {e : Expr} {es : List Expr} {x : Str} {ps : List Str} {k : Nat} {p pos : Pos} {ι : Type} {args : ι → List PyData} {pre : ι → Prop}
/-- a call -/
theorem dm_call {P : ι → PyData → Prop} {Pa : List PyData → Prop} {R : PyData → Prop} (F : Fn X.prog X.w X.K X.mg X.base x ps k (spV X.K args pre P)) (hr : Room k X.A) (hg : Gl X x) (ha : DA X ρ (e :: es) Pa)
    (h : ∀ ds, Pa ds → ∃ i, ds = args i ∧ pre i ∧ ∀ d, P i d → R d) (hdb : (x == ("__debug__" : Str)) = false := by decide) (he : starEach (e :: es) X.env = (false, eval e X.env) :: starEach es X.env := by rfl) (hpl : (backTo pos (starEach es X.env)).any (·.1) = false := by rfl) : De X ρ (.Call (.Name x p) (e :: es) [] pos) R := by
  obtain ⟨f, fd, G, hm, hk, hb⟩ := F.ex
  refine De.of (pe_call (E := E0) G hr hg hm hk hb .nil pass0 pa_wp hdb he hpl) fun S O σ F H s Q q => ?_
  refine ha S O σ F H s _ fun vs ds F' H' s' t p1 q1 => ?_
  obtain ⟨i, rfl, hp, hR⟩ := h ds q1
  show spV X.K args pre P (vs ++ []) H' Q E0
  rw [List.append_nil]
  exact ⟨F', i, s'.FH, p1, hp, fun v d F2 H2 t2 fh p2 q2 => q v d F2 H2 (s'.go t2 fh) (t.trans t2.of0) p2 (hR d q2)⟩
theorem dd_call {P : ι → PyData → Prop} {ds : List PyData} {d : PyData} (F : Fn X.prog X.w X.K X.mg X.base x ps k (spV X.K args pre P)) (hr : Room k X.A) (hg : Gl X x) (ha : DAd X ρ (e :: es) ds) (i : ι) (hi : ds = args i) (hp : pre i) (hd : ∀ d', P i d' → d' = d)
    (hdb : (x == ("__debug__" : Str)) = false := by decide) (he : starEach (e :: es) X.env = (false, eval e X.env) :: starEach es X.env := by rfl) (hpl : (backTo pos (starEach es X.env)).any (·.1) = false := by rfl) : Dd X ρ (.Call (.Name x p) (e :: es) [] pos) d :=
  dm_call F hr hg ha (fun ds' e => ⟨i, e.trans hi, hp, hd⟩) hdb he hpl
theorem dl_callM {P : ι → List PyData → Prop} {Pa R : List PyData → Prop} (F : Fn X.prog X.w X.K X.mg X.base x ps k (spL X.K args pre P)) (hr : Room k X.A) (hg : Gl X x) (ha : DA X ρ (e :: es) Pa)
    (h : ∀ ds, Pa ds → ∃ i, ds = args i ∧ pre i ∧ ∀ d, P i d → R d) (hdb : (x == ("__debug__" : Str)) = false := by decide) (he : starEach (e :: es) X.env = (false, eval e X.env) :: starEach es X.env := by rfl) (hpl : (backTo pos (starEach es X.env)).any (·.1) = false := by rfl) : DL X ρ (.Call (.Name x p) (e :: es) [] pos) R := by
  obtain ⟨f, fd, G, hm, hk, hb⟩ := F.ex
  refine DL.of (pe_call (E := E0) G hr hg hm hk hb .nil pass0 pa_wp hdb he hpl) fun S O σ F H s Q q => ?_
  refine ha S O σ F H s _ fun vs ds F' H' s' t p1 q1 => ?_
  obtain ⟨i, rfl, hp, hR⟩ := h ds q1
  show spL X.K args pre P (vs ++ []) H' Q E0
  rw [List.append_nil]
  exact ⟨F', i, s'.FH, p1, hp, fun p us ds F2 H2 t2 fh h1 h2 h3 h4 h5 => q p us ds F2 H2 (s'.go t2 fh) (t.trans t2.of0) (tr_free t h1) h2 h3 h4 (hR ds h5)⟩
theorem dl_call {P : ι → List PyData → Prop} {ds d : List PyData} (F : Fn X.prog X.w X.K X.mg X.base x ps k (spL X.K args pre P)) (hr : Room k X.A) (hg : Gl X x) (ha : DAd X ρ (e :: es) ds) (i : ι) (hi : ds = args i) (hp : pre i) (hd : ∀ d', P i d' → d' = d)
    (hdb : (x == ("__debug__" : Str)) = false := by decide) (he : starEach (e :: es) X.env = (false, eval e X.env) :: starEach es X.env := by rfl) (hpl : (backTo pos (starEach es X.env)).any (·.1) = false := by rfl) : DLd X ρ (.Call (.Name x p) (e :: es) [] pos) d :=
  dl_callM F hr hg ha (fun ds' e => ⟨i, e.trans hi, hp, hd⟩) hdb he hpl
/-- behind a step that left the law's state changed -/
theorem Sok.goS {K : Cn} {O : Own} {σ : L2.St} {F H F' H' : Hp} {s c : Addr} (Y : Sok K (some (s, c)) O ρ σ F H) (t : Tr (some (s, c)) F H F' H') (fh : Same F' H') (so : StObj H' s c) (h1 : F' s = none) (h2 : F' c = none) : Sok K (some (s, c)) O ρ σ F' H' where
  len := Y.len
  va := fun i d h => let ⟨v, h1, h2⟩ := Y.va i d h; ⟨v, h1, Dq.mono t.ff d h2⟩
  ow := fun i o h => by
    obtain ⟨a, e1, e2, e3⟩ := Y.ow i o h
    refine ⟨a, e1, e2, e3.mono t.ff ?_⟩
    cases e : H a with
    | none => exact absurd e e3.some
    | some u => exact t.hh a u e (Y.oi i a e1).2.2.2
  oi := fun i a h => by
    obtain ⟨e1, e2, e3, e4⟩ := Y.oi i a h
    exact ⟨t.nw a e1 e2, t.ke a e2, e3, e4⟩
  stv := Y.stv
  sto := fun s' c' h => by cases h; exact ⟨so, h1, h2⟩
  FH := fh
/-- a call with the law's state: f(state, ..), the state in slot j -/
theorem dm_callS (j : Nat) {y : Str} {py : Pos} {P : ι → PyData → Prop} {Pa : List PyData → Prop} {R : PyData → Prop} (F : Fn X.prog X.w X.K X.mg X.base x ps k (spS X.K args pre P)) (hr : Room k X.A) (hg : Gl X x)
    (hN : X.N[j]? = some y) (hv : Vis X.env.scope y) (hj : ρ[j]? = some .st) (ha : DA X ρ es Pa)
    (h : ∀ ds, Pa ds → ∃ i, ds = args i ∧ pre i ∧ ∀ d, P i d → R d) (hdb : (x == ("__debug__" : Str)) = false := by decide) (hd : (y == ("__debug__" : Str)) = false := by decide) (hcd : (y == ("__classdict__" : Str)) = false := by decide) (he : starEach (.Name y py :: es) X.env = (false, eval (.Name y py) X.env) :: starEach es X.env := by rfl) (hpl : (backTo pos (starEach es X.env)).any (·.1) = false := by rfl) : De X ρ (.Call (.Name x p) (.Name y py :: es) [] pos) R := by
  obtain ⟨f, fd, G, hm, hk, hb⟩ := F.ex
  refine De.of (pe_call (E := E0) G hr hg hm hk hb .nil pass0 (pa_cons (pe_var hN hv hd hcd) pa_wp he) hdb he hpl) fun S O σ F H s Q q => ?_
  obtain ⟨a, c, rfl, hs⟩ := s.stv j hj
  refine ⟨.ref a, hs, ha _ O σ F H s _ fun vs ds F' H' s' t p1 q1 => ?_⟩
  obtain ⟨i, rfl, hp, hR⟩ := h ds q1
  obtain ⟨so, n1, n2⟩ := s'.sto a c rfl
  show spS X.K args pre P ((.ref a :: vs) ++ []) H' Q E0
  rw [List.append_nil]
  exact ⟨F', i, a, c, vs, rfl, so, n1, n2, s'.FH, p1, hp, fun v d F2 H2 t2 fh so2 m1 m2 p2 q2 => q v d F2 H2 (s'.goS t2 fh so2 m1 m2) (t.trans t2) p2 (hR d q2)⟩
theorem dl_callS (j : Nat) {y : Str} {py : Pos} {P : ι → List PyData → Prop} {Pa : List PyData → Prop} {R : List PyData → Prop} (F : Fn X.prog X.w X.K X.mg X.base x ps k (spSL X.K args pre P)) (hr : Room k X.A) (hg : Gl X x)
    (hN : X.N[j]? = some y) (hv : Vis X.env.scope y) (hj : ρ[j]? = some .st) (ha : DA X ρ es Pa)
    (h : ∀ ds, Pa ds → ∃ i, ds = args i ∧ pre i ∧ ∀ d, P i d → R d) (hdb : (x == ("__debug__" : Str)) = false := by decide) (hd : (y == ("__debug__" : Str)) = false := by decide) (hcd : (y == ("__classdict__" : Str)) = false := by decide) (he : starEach (.Name y py :: es) X.env = (false, eval (.Name y py) X.env) :: starEach es X.env := by rfl) (hpl : (backTo pos (starEach es X.env)).any (·.1) = false := by rfl) : DL X ρ (.Call (.Name x p) (.Name y py :: es) [] pos) R := by
  obtain ⟨f, fd, G, hm, hk, hb⟩ := F.ex
  refine DL.of (pe_call (E := E0) G hr hg hm hk hb .nil pass0 (pa_cons (pe_var hN hv hd hcd) pa_wp he) hdb he hpl) fun S O σ F H s Q q => ?_
  obtain ⟨a, c, rfl, hs⟩ := s.stv j hj
  refine ⟨.ref a, hs, ha _ O σ F H s _ fun vs ds F' H' s' t p1 q1 => ?_⟩
  obtain ⟨i, rfl, hp, hR⟩ := h ds q1
  obtain ⟨so, n1, n2⟩ := s'.sto a c rfl
  show spSL X.K args pre P ((.ref a :: vs) ++ []) H' Q E0
  rw [List.append_nil]
  exact ⟨F', i, a, c, vs, rfl, so, n1, n2, s'.FH, p1, hp, fun p us ds F2 H2 t2 fh so2 m1 m2 h1 h2 h3 h4 h5 => q p us ds F2 H2 (s'.goS t2 fh so2 m1 m2) (t.trans t2) (tr_free t h1) h2 h3 h4 (hR ds h5)⟩
end
/-! ### targets -/
/-- data told to a target: what the slots become; js: the slots that are written -/
def DG1 (K : Cn) (ρ : Slots) (g : TG) (d : PyData) (ρ' : Slots) (js : List Nat) : Prop :=
  ∀ (S : Sta) (O : Own) (σ : L2.St) (F H : Hp) (v : V), Sok K S O ρ σ F H → Dq K.K F v d → ∀ Q : L2.St → Hp → Prop, (∀ σ', Sok K S O ρ' σ' F H → (∀ vs, (∀ j ∈ js, j ∈ vs) → wipe σ' vs = wipe σ vs) → Q σ' H) → g v σ H Q
def DGs1 (K : Cn) (ρ : Slots) (g : TGs) (ds : List PyData) (ρ' : Slots) (js : List Nat) : Prop :=
  ∀ (S : Sta) (O : Own) (σ : L2.St) (F H : Hp) (vs : List V), Sok K S O ρ σ F H → DqAll K.K F vs ds → ∀ Q : L2.St → Hp → Prop, (∀ σ', Sok K S O ρ' σ' F H → (∀ vs, (∀ j ∈ js, j ∈ vs) → wipe σ' vs = wipe σ vs) → Q σ' H) → g vs σ H Q
theorem wipe_set {σ : L2.St} {j : Nat} {y : Option V} : ∀ {vs : List Nat}, j ∈ vs → wipe (σ.set j y) vs = wipe σ vs
  | [], h => by cases h
  | v :: vs, h => by
    unfold wipe
    by_cases hv : j ∈ vs
    · rw [wipe_set hv]
    · have e : j = v := by
        rcases List.mem_cons.mp h with e | e
        · exact e
        · exact absurd e hv
      subst e
      have go : ∀ (us : List Nat), j ∉ us → wipe (σ.set j y) us = (wipe σ us).set j y := by
        intro us
        induction us with
        | nil => intro _; rfl
        | cons u us ih =>
          intro hu
          have h1 : j ≠ u := fun e => hu (e ▸ List.mem_cons_self)
          have h2 : j ∉ us := fun m => hu (List.mem_cons_of_mem _ m)
          show (wipe (σ.set j y) us).set u none = ((wipe σ us).set u none).set j y
          rw [ih h2, List.set_comm _ _ h1]
      rw [go vs hv, List.set_set]
theorem wipe_wipe (σ : L2.St) : ∀ (us vs : List Nat), (∀ j ∈ us, j ∈ vs) → wipe (wipe σ us) vs = wipe σ vs
  | [], vs, _ => rfl
  | u :: us, vs, h => by
    show wipe ((wipe σ us).set u none) vs = wipe σ vs
    rw [wipe_set (h u List.mem_cons_self)]
    exact wipe_wipe σ us vs fun j hj => h j (List.mem_cons_of_mem _ hj)
section
variable {K : Cn} {S : Sta} {O : Own} {ρ ρ' : Slots} {σ : L2.St} {F H : Hp}
theorem set_get {α : Type} {l : List α} {i j : Nat} {x y : α} (h : (l.set j x)[i]? = some y) : (i = j ∧ x = y ∧ j < l.length) ∨ (i ≠ j ∧ l[i]? = some y) := by
  by_cases e : i = j
  · subst e
    by_cases hl : i < l.length
    · rw [List.getElem?_set_self hl] at h
      exact .inl ⟨rfl, Option.some.inj h, hl⟩
    · rw [List.getElem?_eq_none (by simpa using hl)] at h; cases h
  · rw [List.getElem?_set_ne (Ne.symm e)] at h
    exact .inr ⟨e, h⟩
/-- a slot is written with data -/
theorem Sok.setV (Y : Sok K S O ρ σ F H) (j : Nat) {v : V} {d : PyData} (h : Dq K.K F v d) : Sok K S O (ρ.set j (.va d)) (σ.set j (some v)) F H where
  len := by rw [List.length_set, List.length_set, Y.len]
  va := fun i d' e => by
    rcases set_get e with ⟨rfl, e1, hl⟩ | ⟨ne, e1⟩
    · cases e1
      exact ⟨v, List.getElem?_set_self (by rw [← Y.len]; exact hl), h⟩
    · rw [List.getElem?_set_ne (Ne.symm ne)]
      exact Y.va i d' e1
  ow := fun i o e => by
    rcases set_get e with ⟨rfl, e1, hl⟩ | ⟨ne, e1⟩
    · cases e1
    · rw [List.getElem?_set_ne (Ne.symm ne)]
      exact Y.ow i o e1
  oi := Y.oi
  stv := fun i e => by
    rcases set_get e with ⟨rfl, e1, hl⟩ | ⟨ne, e1⟩
    · cases e1
    · rw [List.getElem?_set_ne (Ne.symm ne)]
      exact Y.stv i e1
  sto := Y.sto
  FH := Y.FH
/-- slots are forgotten -/
theorem Sok.setN (Y : Sok K S O ρ σ F H) (j : Nat) (y : Option V) : Sok K S O (ρ.set j .no) (σ.set j y) F H where
  len := by rw [List.length_set, List.length_set, Y.len]
  va := fun i d' e => by
    rcases set_get e with ⟨rfl, e1, hl⟩ | ⟨ne, e1⟩
    · cases e1
    · rw [List.getElem?_set_ne (Ne.symm ne)]
      exact Y.va i d' e1
  ow := fun i o e => by
    rcases set_get e with ⟨rfl, e1, hl⟩ | ⟨ne, e1⟩
    · cases e1
    · rw [List.getElem?_set_ne (Ne.symm ne)]
      exact Y.ow i o e1
  oi := Y.oi
  stv := fun i e => by
    rcases set_get e with ⟨rfl, e1, hl⟩ | ⟨ne, e1⟩
    · cases e1
    · rw [List.getElem?_set_ne (Ne.symm ne)]
      exact Y.stv i e1
  sto := Y.sto
  FH := Y.FH
def wipeR (ρ : Slots) : List Nat → Slots
  | [] => ρ
  | v :: vs => (wipeR ρ vs).set v .no
theorem Sok.wipe (Y : Sok K S O ρ σ F H) : ∀ vs, Sok K S O (wipeR ρ vs) (L2.wipe σ vs) F H
  | [] => Y
  | v :: vs => (Sok.wipe Y vs).setN v none
/-- less is known -/
theorem Sok.weak (Y : Sok K S O ρ σ F H) (hl : ρ'.length = ρ.length) (h : ∀ (i : Nat) (s : Sl), ρ'[i]? = some s → s = .no ∨ ρ[i]? = some s) : Sok K S O ρ' σ F H where
  len := hl.trans Y.len
  va := fun i d e => by
    rcases h i _ e with z | z
    · cases z
    · exact Y.va i d z
  ow := fun i d e => by
    rcases h i _ e with z | z
    · cases z
    · exact Y.ow i d z
  oi := Y.oi
  stv := fun i e => by
    rcases h i _ e with z | z
    · cases z
    · exact Y.stv i z
  sto := Y.sto
  FH := Y.FH
theorem dg_name (j : Nat) {d : PyData} : DG1 K ρ (gName j) d (ρ.set j (.va d)) [j] := fun S O σ F H v Y p Q q => q _ (Y.setV j p) fun vs h => wipe_set (h j List.mem_cons_self)
theorem dgs_nil : DGs1 K ρ gNil [] ρ [] := fun S O σ F H v Y p Q q => by
  cases p
  exact ⟨rfl, q σ Y fun _ _ => rfl⟩
theorem dgs_cons {g : TG} {gs : TGs} {d : PyData} {ds : List PyData} {ρ1 ρ2 : Slots} {j1 j2 : List Nat} (h1 : DG1 K ρ g d ρ1 j1) (h2 : DGs1 K ρ1 gs ds ρ2 j2) : DGs1 K ρ (gCons g gs) (d :: ds) ρ2 (j1 ++ j2) := fun S O σ F H v Y p Q q => by
  cases p with
  | cons a b =>
    refine ⟨_, _, rfl, h1 S O σ F H _ Y a _ fun σ1 Y1 w1 => h2 S O σ1 F H _ Y1 b _ fun σ2 Y2 w2 => q σ2 Y2 fun vs h => ?_⟩
    rw [w2 vs fun j hj => h j (List.mem_append_right _ hj), w1 vs fun j hj => h j (List.mem_append_left _ hj)]
theorem dg_tup {n : Nat} {gs : TGs} {ds : List PyData} {js : List Nat} (h : DGs1 K ρ gs ds ρ' js) (hn : ds.length = n) : DG1 K ρ (gTup K.K n gs) (.tuple ds) ρ' js := fun S O σ F H v Y p Q q => by
  cases p with
  | tup a b => exact ⟨_, _, rfl, sqT_mono Y.FH a, b.length.trans hn, h S O σ F H _ Y b Q q⟩
theorem dg_unl {n : Nat} {gs : TGs} {ds : List PyData} {js : List Nat} (h : DGs1 K ρ gs ds ρ' js) (hn : ds.length = n) : DG1 K ρ (gUnl K.K n gs) (.list ds) ρ' js := fun S O σ F H v Y p Q q => by
  cases p with
  | lst a b => exact ⟨_, _, rfl, .inl (rd_mono Y.FH a), b.length.trans hn, h S O σ F H _ Y b Q q⟩
end
/-! ### what is walked -/
/-- an iterator that tells the data ds, from the frozen heap F on -/
def Walk (K : Cn) (J : It) (ds : List PyData) (F : Hp) : Prop := ∀ (i : Nat) (F1 H1 : Hp), Same F F1 → Same F1 H1 →
  (i < ds.length → J.go i H1) ∧ (ds.length ≤ i → J.stop i H1) ∧ ∀ d, ds[i]? = some d → ∀ x H2, J.yld i H1 x H2 → ∃ F2, Tr none F1 H1 F2 H2 ∧ Same F2 H2 ∧ Dq K.K F2 x d
def DI1 (K : Cn) (ρ : Slots) (wi : TI) (P : List PyData → Prop) : Prop :=
  ∀ (S : Sta) (O : Own) (σ : L2.St) (F H : Hp), Sok K S O ρ σ F H → ∀ R : It → Hp → Prop, (∀ J ds F' H', Sok K S O ρ σ F' H' → Tr S F H F' H' → P ds → Walk K J ds F' → R J H') → wi σ H R
section
variable {K : Cn} {ρ : Slots} {te : TE} {ta : TA}
theorem walk_list {F : Hp} {a : Addr} {vs : List V} {ds : List PyData} (h : SqL K.K F a vs) (p : DqAll K.K F vs ds) : Walk K (Itl K.K a) ds F := fun i F1 H1 e1 e2 => by
  have hq : SqL K.K H1 a vs := e2.seq (e1.seq h)
  refine ⟨fun hi => ?_, fun hi => ⟨vs, hq, by rw [p.length]; exact hi⟩, fun d hd x H2 hy => ?_⟩
  · have hv : i < vs.length := by rw [p.length]; exact hi
    exact ⟨vs, vs[i], hq, List.getElem?_eq_getElem hv⟩
  · obtain ⟨rfl, hx⟩ := hy
    obtain ⟨v, h1, h2⟩ := p.get hd
    have e : x = v := Option.some.inj ((hx vs hq).symm.trans h1)
    subst e
    exact ⟨F1, Tr.refl, e2, h2.mono e1⟩
theorem walk_tup {F : Hp} {a : Addr} {vs : List V} {ds : List PyData} (h : SqT K.K F a vs) (p : DqAll K.K F vs ds) : Walk K (Itt K.K a) ds F := fun i F1 H1 e1 e2 => by
  have hq : SqT K.K H1 a vs := sqT_mono e2 (sqT_mono e1 h)
  refine ⟨fun hi => ?_, fun hi => ⟨vs, hq, by rw [p.length]; exact hi⟩, fun d hd x H2 hy => ?_⟩
  · have hv : i < vs.length := by rw [p.length]; exact hi
    exact ⟨vs, vs[i], hq, List.getElem?_eq_getElem hv⟩
  · obtain ⟨rfl, hx⟩ := hy
    obtain ⟨v, h1, h2⟩ := p.get hd
    have e : x = v := Option.some.inj ((hx vs hq).symm.trans h1)
    subst e
    exact ⟨F1, Tr.refl, e2, h2.mono e1⟩
/-- lo, lo + 1, .. -/
def rangeD (lo : Int) (n : Nat) : List PyData := (List.range n).map fun i => .int (lo + (i : Nat))
theorem rangeD_get {lo : Int} {n i : Nat} {d : PyData} (h : (rangeD lo n)[i]? = some d) : i < n ∧ d = .int (lo + (i : Nat)) := by
  unfold rangeD at h
  rw [List.getElem?_map] at h
  cases e : (List.range n)[i]? with
  | none => rw [e] at h; cases h
  | some j =>
    rw [e] at h
    obtain ⟨hl, e1⟩ := List.getElem?_eq_some_iff.mp e
    rw [List.getElem_range] at e1
    subst e1
    exact ⟨by simpa using hl, (Option.some.inj h).symm⟩
theorem walk_range {F : Hp} {lo : Int} {n : Nat} : Walk K (Itr lo n) (rangeD lo n) F := fun i F1 H1 e1 e2 => by
  have hl : (rangeD lo n).length = n := by unfold rangeD; simp
  refine ⟨fun hi => by rw [hl] at hi; exact hi, fun hi => by rw [hl] at hi; exact hi, fun d hd x H2 hy => ?_⟩
  obtain ⟨rfl, rfl⟩ := hy
  obtain ⟨_, rfl⟩ := rangeD_get hd
  exact ⟨F1, Tr.refl, e2, .int _⟩
theorem di_list {P : List PyData → Prop} (h : De1 K ρ te (fun d => ∃ ds, d = .list ds ∧ P ds)) : DI1 K ρ (iList K.K te) P := fun S O σ F H Y R q => h S O σ F H Y _ fun v d F' H' Y' t p ⟨ds, e, hp⟩ => by
  subst e
  cases p with
  | lst a b => exact ⟨_, rfl, ⟨_, .inl (rd_mono Y'.FH a)⟩, q _ ds F' H' Y' t hp (walk_list (.inl a) b)⟩
theorem di_tup {P : List PyData → Prop} (h : De1 K ρ te (fun d => ∃ ds, d = .tuple ds ∧ P ds)) : DI1 K ρ (iTup K.K te) P := fun S O σ F H Y R q => h S O σ F H Y _ fun v d F' H' Y' t p ⟨ds, e, hp⟩ => by
  subst e
  cases p with
  | tup a b => exact ⟨_, rfl, ⟨_, sqT_mono Y'.FH a⟩, q _ ds F' H' Y' t hp (walk_tup a b)⟩
theorem di_range1 {P : List PyData → Prop} (h : DA1 K ρ ta (fun ds => ∃ n : Int, ds = [.int n] ∧ -(2 ^ 62) ≤ n ∧ n < 2 ^ 62 ∧ P (rangeD 0 n.toNat))) : DI1 K ρ (iRng1 ta) P := fun S O σ F H Y R q => h S O σ F H Y _ fun vs ds F' H' Y' t p ⟨n, e, h1, h2, hp⟩ => by
  subst e
  have ev : vs = [V.int n] := DqAll.ints (ns := [n]) p
  exact ⟨n, ev, h1, h2, q _ _ F' H' Y' t hp walk_range⟩
theorem di_range2 {P : List PyData → Prop} (h : DA1 K ρ ta (fun ds => ∃ m n : Int, ds = [.int m, .int n] ∧ (-(2 ^ 62) ≤ m ∧ m < 2 ^ 62 ∧ -(2 ^ 62) ≤ n ∧ n < 2 ^ 62) ∧ P (rangeD m (n - m).toNat))) : DI1 K ρ (iRng2 ta) P := fun S O σ F H Y R q => h S O σ F H Y _ fun vs ds F' H' Y' t p ⟨m, n, e, h1, hp⟩ => by
  subst e
  have ev : vs = [V.int m, V.int n] := DqAll.ints (ns := [m, n]) p
  exact ⟨m, n, ev, h1, q _ _ F' H' Y' t hp walk_range⟩
end
/-! ### what is walked, by the syntax -/
section
variable (X : Cx)
/-- an iterable's and its target's reading -/
structure DI (ρ : Slots) (tg iter : Expr) (P : List PyData → Prop) : Prop where
  ex : ∃ wi, PI X tg iter wi ∧ DI1 (cn X) ρ wi P
structure DG (ρ : Slots) (tg : Expr) (g : TG) : Prop where
  pg : PG X tg g
end
section
variable {X : Cx} {ρ : Slots} {tg e e2 : Expr} {p pos : Pos}
theorem dI_listM {P : List PyData → Prop} (h : De X ρ e (fun d => ∃ ds, d = .list ds ∧ P ds)) : DI X ρ tg e P := ⟨_, pi_list pe_wp, di_list h⟩
theorem dI_list {ds : List PyData} (h : Dd X ρ e (.list ds)) : DI X ρ tg e (fun x => x = ds) := dI_listM (h.imp fun d e => ⟨ds, e, rfl⟩)
theorem dI_tup {ds : List PyData} (h : Dd X ρ e (.tuple ds)) : DI X ρ tg e (fun x => x = ds) := ⟨_, pi_tup pe_wp, di_tup (De1.imp h fun d e => ⟨ds, e, rfl⟩)⟩
theorem dI_range1 {n : Int} (hg : Gl X "range") (hm : X.mg "range" = none) (h : Dd X ρ e (.int n)) (h1 : -(2 ^ 62) ≤ n ∧ n < 2 ^ 62) (hs : starEach [e] X.env = [(false, eval e X.env)] := by rfl) : DI X ρ tg (.Call (.Name "range" p) [e] [] pos) (fun x => x = rangeD 0 n.toNat) :=
  ⟨_, pi_range1 hg hm pa_wp hs, di_range1 (DA1.imp (da_cons h da_nil hs) fun ds e => ⟨n, e, h1.1, h1.2, rfl⟩)⟩
theorem dI_range2 {m n : Int} (hg : Gl X "range") (hm : X.mg "range" = none) (h : Dd X ρ e (.int m)) (h' : Dd X ρ e2 (.int n)) (h1 : -(2 ^ 62) ≤ m ∧ m < 2 ^ 62 ∧ -(2 ^ 62) ≤ n ∧ n < 2 ^ 62) (hs : starEach [e, e2] X.env = [(false, eval e X.env), (false, eval e2 X.env)] := by rfl) (hs2 : starEach [e2] X.env = [(false, eval e2 X.env)] := by rfl) : DI X ρ tg (.Call (.Name "range" p) [e, e2] [] pos) (fun x => x = rangeD m (n - m).toNat) :=
  ⟨_, pi_range2 hg hm pa_wp hs hs2, di_range2 (DA1.imp (da_cons h (da_cons h' da_nil hs2) (by rw [hs, hs2])) fun ds e => ⟨m, n, e, h1, rfl⟩)⟩
end
end G
/-! G4: comprehensions. -/
namespace G
open PySem PySem.Spec PyProof.Rows L2
/-! ### blocks -/
section
variable (X : Cx) (scope : Scope)
def bwE (e : Expr) : TE := fun σ H Q => ∀ (s : Shared) (H0 : Hp) (C : Addr) (cl : List (Str × Addr)) (fp : List Addr), wpE (X.blk s H0 scope (compEnvC scope cl C X.env) fp) e σ H Q
theorem pe_bw {X : Cx} {scope : Scope} {e : Expr} (s : Shared) (H0 : Hp) (C : Addr) (cl : List (Str × Addr)) (fp : List Addr) : PE (X.blk s H0 scope (compEnvC scope cl C X.env) fp) e (bwE X scope e) :=
  ⟨fun pins s1 σ H Q I h => h s H0 C cl fp pins s1 I⟩
def bwA (es : List Expr) : TA := fun σ H Q => ∀ (s : Shared) (H0 : Hp) (C : Addr) (cl : List (Str × Addr)) (fp : List Addr), wpA (X.blk s H0 scope (compEnvC scope cl C X.env) fp) es σ H Q
theorem pa_bw {X : Cx} {scope : Scope} {es : List Expr} (s : Shared) (H0 : Hp) (C : Addr) (cl : List (Str × Addr)) (fp : List Addr) : PA (X.blk s H0 scope (compEnvC scope cl C X.env) fp) es (bwA X scope es) :=
  ⟨fun pos pins s1 σ H Q I h => h s H0 C cl fp pos pins s1 I⟩
/-- an element's judgement in a block -/
abbrev BE (ρ : Slots) (e : Expr) (P : PyData → Prop) : Prop := ∀ (s : Shared) (H0 : Hp) (C : Addr) (cl : List (Str × Addr)) (fp : List Addr), De (X.blk s H0 scope (compEnvC scope cl C X.env) fp) ρ e P
abbrev BA (ρ : Slots) (es : List Expr) (P : List PyData → Prop) : Prop := ∀ (s : Shared) (H0 : Hp) (C : Addr) (cl : List (Str × Addr)) (fp : List Addr), DA (X.blk s H0 scope (compEnvC scope cl C X.env) fp) ρ es P
theorem BE.ok {X : Cx} {scope : Scope} {ρ : Slots} {e : Expr} {P : PyData → Prop} (h : BE X scope ρ e P) : De1 (cn X) ρ (bwE X scope e) P := fun S O σ F H Y Q q s H0 C cl fp => h s H0 C cl fp S O σ F H Y Q q
theorem BA.ok {X : Cx} {scope : Scope} {ρ : Slots} {es : List Expr} {P : List PyData → Prop} (h : BA X scope ρ es P) : DA1 (cn X) ρ (bwA X scope es) P := fun S O σ F H Y Q q s H0 C cl fp => h s H0 C cl fp S O σ F H Y Q q
/-- the tests of a clause: none, or one -/
def bwI (ifs : List Expr) : TT := match ifs with
  | [] => tYes
  | c :: _ => fun σ H Q => ∀ (s : Shared) (H0 : Hp) (C : Addr) (cl : List (Str × Addr)) (fp : List Addr), wpT (X.blk s H0 scope (compEnvC scope cl C X.env) fp) c σ H Q
/-- .. their judgement in a block -/
def BT (ρ : Slots) (ifs : List Expr) (P : Bool → Prop) : Prop := match ifs with
  | [] => P true
  | [c] => ∀ (s : Shared) (H0 : Hp) (C : Addr) (cl : List (Str × Addr)) (fp : List Addr), DT (X.blk s H0 scope (compEnvC scope cl C X.env) fp) ρ c P
  | _ => False
theorem pts_bw {X : Cx} {scope : Scope} {ifs : List Expr} (hl : ifs.length ≤ 1) (s : Shared) (H0 : Hp) (C : Addr) (cl : List (Str × Addr)) (fp : List Addr) : PTs (X.blk s H0 scope (compEnvC scope cl C X.env) fp) ifs (bwI X scope ifs) := by
  match ifs, hl with
  | [], _ => exact pts_nil
  | [c], _ => exact pts_one ⟨fun pins s1 σ H Q I h => h s H0 C cl fp pins s1 I⟩
theorem BT.ok {X : Cx} {scope : Scope} {ρ : Slots} {ifs : List Expr} {P : Bool → Prop} (h : BT X scope ρ ifs P) : DT1 (cn X) ρ (bwI X scope ifs) P := by
  match ifs, h with
  | [], h => exact fun S O σ F H Y Q q => q true F H Y Tr.refl h
  | [c], h => exact fun S O σ F H Y Q q s H0 C cl fp => h s H0 C cl fp S O σ F H Y Q q
/-- an iterable in a block -/
structure BI (ρ : Slots) (tg iter : Expr) (P : List PyData → Prop) : Prop where
  ex : ∃ wi, (∀ (s : Shared) (H0 : Hp) (C : Addr) (cl : List (Str × Addr)) (fp : List Addr), PI (X.blk s H0 scope (compEnvC scope cl C X.env) fp) tg iter wi) ∧ DI1 (cn X) ρ wi P
end
section
variable {X : Cx} {scope : Scope} {ρ : Slots} {tg e e2 : Expr} {p pos : Pos}
theorem bI_list {ds : List PyData} (h : BE X scope ρ e (fun d => d = .list ds)) : BI X scope ρ tg e (fun x => x = ds) := ⟨_, fun s H0 C cl fp => pi_list (pe_bw s H0 C cl fp), di_list (h.ok.imp fun d e => ⟨ds, e, rfl⟩)⟩
theorem bI_tup {ds : List PyData} (h : BE X scope ρ e (fun d => d = .tuple ds)) : BI X scope ρ tg e (fun x => x = ds) := ⟨_, fun s H0 C cl fp => pi_tup (pe_bw s H0 C cl fp), di_tup (h.ok.imp fun d e => ⟨ds, e, rfl⟩)⟩
end
/-! ### loops that fill a list -/
theorem Sok.back {K : Cn} {S : Sta} {O : Own} {ρ ρ' : Slots} {σ σ' : L2.St} {F H F' H' : Hp} (Y : Sok K S O ρ σ F H) (Y' : Sok K S O ρ' σ' F' H') (t : Tr S F H F' H') : Sok K S O ρ σ F' H' := by
  cases S with
  | none => exact Y.go t Y'.FH
  | some sc =>
    obtain ⟨s, c⟩ := sc
    obtain ⟨so, n1, n2⟩ := Y'.sto s c rfl
    exact Y.goS t Y'.FH so n1 n2
/-- a loose object of none's own is changed -/
theorem Sok.loose {K : Cn} {S : Sta} {O : Own} {ρ : Slots} {σ : L2.St} {F H : Hp} {D : Addr} {o : HO} (Y : Sok K S O ρ σ F H) (nO : ∀ i, O i ≠ some D) (nS : ∀ s c, S = some (s, c) → D ≠ s ∧ D ≠ c) (fD : F D = none) : Sok K S O ρ σ F (upd H D o) :=
  ⟨Y.len, Y.va, fun i o e => let ⟨a, e1, e2, e3⟩ := Y.ow i o e; ⟨a, e1, e2, e3.mono (Same.refl _) (upd_ne (show a ≠ D from fun z => nO i (z ▸ e1)))⟩, fun i a e => let ⟨e1, e2, e3, e4⟩ := Y.oi i a e; ⟨e1, by rw [upd_ne (show a ≠ D from fun z => nO i (z ▸ e))]; exact e2, e3, e4⟩, Y.stv,
    fun s c e => let ⟨e1, e2, e3⟩ := Y.sto s c e; ⟨e1.mono (upd_ne (Ne.symm (nS s c e).1)) (upd_ne (Ne.symm (nS s c e).2)), e2, e3⟩, fun b u e => by rw [upd_ne (show b ≠ D from fun z => by rw [z, fD] at e; cases e)]; exact Y.FH b u e⟩
section
variable {K : Cn} {S : Sta} {O : Own} {ρ ρ' : Slots} {σ σ' : L2.St} {F H F1 H1 F2 H2 : Hp} {D : Addr} {acc : List PyData}
structure LSt (K : Cn) (S : Sta) (O : Own) (ρ : Slots) (σ : L2.St) (F H : Hp) (D : Addr) (acc : List PyData) (F1 H1 : Hp) : Prop where
  nO : ∀ i, O i ≠ some D
  nS : ∀ s c, S = some (s, c) → D ≠ s ∧ D ≠ c
  nH : H D = none
  ok : Sok K S O ρ σ F1 H1
  tr : Tr S F H F1 H1
  fD : F1 D = none
  hD : ∃ us, H1 D = some (.lst us) ∧ DqAll K.K F1 us acc
theorem LSt.step (L : LSt K S O ρ σ F H D acc F1 H1) (Y : Sok K S O ρ' σ' F2 H2) (t : Tr S F1 H1 F2 H2) : LSt K S O ρ' σ' F H D acc F2 H2 := by
  obtain ⟨us, h1, h2⟩ := L.hD
  exact ⟨L.nO, L.nS, L.nH, Y, L.tr.trans t, t.nw D L.fD (ne_none h1), us, t.hh D _ h1 L.nS, DqAll.mono t.ff acc h2⟩
theorem LSt.back (L : LSt K S O ρ σ F H D acc F1 H1) {acc' : List PyData} (L' : LSt K S O ρ' σ' F H D acc' F2 H2) (t : Tr S F1 (upd H1 D (.lst [])) F2 (upd H2 D (.lst []))) : LSt K S O ρ σ F H D acc' F2 H2 := by
  have Y1 := L.ok.loose (o := .lst []) L.nO L.nS L.fD
  have Y2 := L'.ok.loose (o := .lst []) L.nO L.nS L'.fD
  have Y3 := Y1.back Y2 t
  obtain ⟨us, h1, h2⟩ := L'.hD
  refine ⟨L.nO, L.nS, L.nH, ?_, L'.tr, L'.fD, us, h1, h2⟩
  have e : upd (upd H2 D (.lst [])) D (.lst us) = H2 := by
    rw [upd_upd]
    funext b
    by_cases hb : b = D
    · subst hb; rw [upd_same, h1]
    · rw [upd_ne hb]
  have Y4 := Y3.loose (o := .lst us) L.nO L.nS L'.fD
  rw [e] at Y4
  exact Y4
/-- what happened around the list -/
theorem tr_around (L : LSt K S O ρ σ F H D acc F1 H1) (t : Tr S F1 H1 F2 H2) : Tr S F1 (upd H1 D (.lst [])) F2 (upd H2 D (.lst [])) := by
  obtain ⟨us, h1, h2⟩ := L.hD
  refine ⟨t.ff, fun b o e n => ?_, fun b e n => ?_, fun b e => ?_⟩
  · by_cases hb : b = D
    · subst hb; rw [upd_same] at e ⊢; exact e
    · rw [upd_ne hb] at e ⊢; exact t.hh b o e n
  · by_cases hb : b = D
    · subst hb; exact t.nw b e (ne_none h1)
    · rw [upd_ne hb] at n; exact t.nw b e n
  · by_cases hb : b = D
    · subst hb; rw [upd_same]; intro z; cases z
    · rw [upd_ne hb] at e ⊢; exact t.ke b e
theorem LSt.push (L : LSt K S O ρ σ F H D acc F1 H1) {us : List V} (h : H1 D = some (.lst us)) {v : V} {d : PyData} (p : Dq K.K F1 v d) : LSt K S O ρ σ F H D (acc ++ [d]) F1 (upd H1 D (.lst (us ++ [v]))) := by
  obtain ⟨us', h1, h2⟩ := L.hD
  rw [h] at h1
  cases h1
  have T := L.tr
  have nH := L.nH
  exact ⟨L.nO, L.nS, L.nH, L.ok.loose L.nO L.nS L.fD, ⟨T.ff, fun b o e n => by rw [upd_ne (show b ≠ D from fun z => by rw [z, nH] at e; cases e)]; exact T.hh b o e n, T.nw, fun b e => by
    by_cases hb : b = D
    · subst hb; rw [upd_same]; intro z; cases z
    · rw [upd_ne hb]; exact T.ke b e⟩, L.fD, _, upd_same, h2.append (.one p)⟩
/-- .. around: pushing changes the list alone -/
theorem upd_around {us : List V} : upd (upd H1 D (.lst us)) D (.lst []) = upd H1 D (.lst []) := upd_upd
/-- a walk with a body that lets the list grow -/
theorem acc_loop {J : It} {ds : List PyData} {E : Hp → Prop} {B : V → Hp → (Hp → Prop) → Prop} (Iv : Nat → List PyData → Prop) (L0 : LSt K S O ρ σ F H D acc F1 H1) (hw : Walk K J ds F1) (h0 : Iv 0 acc)
    (body : ∀ (i : Nat) d acc x F2 H2, ds[i]? = some d → Iv i acc → LSt K S O ρ σ F H D acc F2 H2 → Dq K.K F2 x d → ∀ Nx : Hp → Prop, (∀ acc' F3 H3, Iv (i + 1) acc' → LSt K S O ρ σ F H D acc' F3 H3 → Tr S F2 (upd H2 D (.lst [])) F3 (upd H3 D (.lst [])) → Nx H3) → B x H2 Nx)
    (done : ∀ acc' F3 H3, Iv ds.length acc' → LSt K S O ρ σ F H D acc' F3 H3 → Tr S F1 (upd H1 D (.lst [])) F3 (upd H3 D (.lst [])) → E H3) :
    ∃ W : Nat → Nat → Hp → Prop, (∃ m, W 0 m H1) ∧ ∀ i m H, W i m H → (J.stop i H ∧ E H) ∨ (J.go i H ∧ ∃ Nx : Hp → Prop, (∀ H', Nx H' → ∃ m', m' < m ∧ W (i + 1) m' H') ∧ ∀ x H', J.yld i H x H' → B x H' Nx) := by
  refine ⟨fun i m H4 => m = ds.length - i ∧ i ≤ ds.length ∧ ∃ acc F4, Iv i acc ∧ LSt K S O ρ σ F H D acc F4 H4 ∧ Tr S F1 (upd H1 D (.lst [])) F4 (upd H4 D (.lst [])), ⟨_, rfl, Nat.zero_le _, acc, F1, h0, L0, Tr.refl⟩, ?_⟩
  rintro i m H4 ⟨rfl, hi, acc4, F4, iv, L4, t4⟩
  obtain ⟨w1, w2, w3⟩ := hw i F4 H4 t4.ff L4.ok.FH
  by_cases hlt : i < ds.length
  · refine .inr ⟨w1 hlt, fun H' => ∃ acc F4, Iv (i + 1) acc ∧ LSt K S O ρ σ F H D acc F4 H' ∧ Tr S F1 (upd H1 D (.lst [])) F4 (upd H' D (.lst [])), fun H' hN => ⟨ds.length - (i + 1), by omega, rfl, hlt, hN⟩, fun x H5 hy => ?_⟩
    have hd : ds[i]? = some ds[i] := List.getElem?_eq_getElem hlt
    obtain ⟨F5, t5, fh5, p5⟩ := w3 _ hd x H5 hy
    have L5 := L4.step (L4.ok.go t5 fh5) t5.of0
    exact body i _ acc4 x F5 H5 hd iv L5 p5 _ fun acc6 F6 H6 iv6 L6 t6 => ⟨acc6, F6, iv6, L6, (t4.trans (tr_around L4 t5.of0)).trans t6⟩
  · have e : i = ds.length := by omega
    subst e
    exact .inl ⟨w2 (Nat.le_refl _), done acc4 F4 H4 iv L4 t4⟩
theorem LSt.start (Y : Sok K S O ρ σ F H) (hD : H D = none) : LSt K S O ρ σ F H D [] F (upd H D (.lst [])) :=
  ⟨Y.notO hD, Y.notS hD, hD, Y.newL hD, (Tr.newL hD).of0, Y.fnone hD, [], upd_same, .nil⟩
end
/-! ### one clause, two clauses -/
/-- one turn of a clause: the target's data d leads (with the tests) to what Go says, or to nothing -/
structure LcTurn (X : Cx) (scope : Scope) (ρ : Slots) (vs : List Nat) (g : TG) (ifs : List Expr) (d : PyData) (Go : Slots → Prop) (Pn : Prop) : Prop where
  go : ∃ ρ' js, DG1 (cn X) (wipeR ρ vs) g d ρ' js ∧ (∀ j ∈ js, j ∈ vs) ∧ ∃ Pb : Bool → Prop, BT X scope ρ' ifs Pb ∧ (Pb true → Go ρ') ∧ (Pb false → Pn)
/-- a comprehension: as a value, and stored in a local -/
structure LC (X : Cx) (ρ : Slots) (e : Expr) (Pz : List PyData → Prop) : Prop where
  ex : ∃ te, DL1 (cn X) ρ te Pz ∧ PE X e te ∧ ∀ (i : Nat) (y : Str) (py spos : Pos), X.N[i]? = some y → X.env.scope.names.lookup y = some .local → swapsWith e (some (.Name y py)) spos.line X.env = pure true → PS X (.Assign [.Name y py] e spos) (tAsg te (gName i))
theorem LC.dl {X : Cx} {ρ : Slots} {e : Expr} {Pz : List PyData → Prop} (h : LC X ρ e Pz) : DL X ρ e Pz := let ⟨_, a, b, _⟩ := h.ex; DL.of b a
theorem LC.imp {X : Cx} {ρ : Slots} {e : Expr} {P Pz : List PyData → Prop} (h : LC X ρ e P) (f : ∀ d, P d → Pz d) : LC X ρ e Pz := let ⟨t, a, b, c⟩ := h.ex; ⟨t, a.imp f, b, c⟩
section
variable {X : Cx} {ρ : Slots} {elt tg iter tg1 iter1 : Expr} {ifs ifs1 : List Expr} {scope : Scope} {own : List (Str × Nat)} {vs1 : List Nat} {pos : Pos} {g g1 : TG}
/-- an element, told and put behind -/
theorem elt_push {S : Sta} {O : Own} {ρ' : Slots} {σ : L2.St} {F H F1 H1 : Hp} {D : Addr} {acc : List PyData} {Py : PyData → Prop} {Nx : Hp → Prop} (he : De1 (cn X) ρ' (bwE X scope elt) Py) (L : LSt (cn X) S O ρ' σ F H D acc F1 H1) (hz : acc.length < sizeLine)
    (k : ∀ d F2 H2, Py d → LSt (cn X) S O ρ' σ F H D (acc ++ [d]) F2 H2 → Tr S F1 (upd H1 D (.lst [])) F2 (upd H2 D (.lst [])) → Nx H2) :
    bwE X scope elt σ H1 fun y H4 => ∃ acc, H4 D = some (.lst acc) ∧ acc.length < sizeLine ∧ Nx (upd H4 D (.lst (acc ++ [y]))) := by
  refine he S O σ F1 H1 L.ok _ fun v d F2 H2 Y2 t2 p2 q2 => ?_
  have L2 := L.step Y2 t2
  obtain ⟨us, h1, h2⟩ := L2.hD
  refine ⟨us, h1, by rw [h2.length]; exact hz, k d F2 _ q2 (L2.push h1 p2) ?_⟩
  rw [upd_around]
  exact tr_around L t2
theorem lc_I {Pi Pz : List PyData → Prop} (hc : X.calm = true) (hN : X.N.Nodup) (hi : DI X ρ tg iter Pi) (ok : BlkOk X.N X.env.scope scope own) (hl : ifs.length ≤ 1)
    (hg : ∀ (s : Shared) (H : Hp) (C : Addr) (cl : List (Str × Addr)) (fp : List Addr), PG (X.blk s H scope (compEnvC scope cl C X.env) fp) tg g)
    (hJ : ∀ ds, Pi ds → ∃ Iv : Nat → List PyData → Prop, Iv 0 [] ∧ (∀ (i : Nat) d acc, ds[i]? = some d → Iv i acc → acc.length < sizeLine ∧ LcTurn X scope ρ (own.map (·.2)) g ifs d (fun ρ' => BE X scope ρ' elt fun y => Iv (i + 1) (acc ++ [y])) (Iv (i + 1) acc)) ∧ ∀ acc, Iv ds.length acc → Pz acc)
    (hs : ∀ x, foldedSetIterable iter X.env x = pure x := by intro _; rfl) : LC X ρ (.ListComp elt [⟨tg, iter, ifs, 0⟩] scope pos) Pz := by
  obtain ⟨wi, hp, hd⟩ := hi.ex
  refine ⟨tLc wi g (bwI X scope ifs) (bwE X scope elt) (own.map (·.2)), fun S O σ F H Y Q q => ?_, pe_lc hc hN hp ok hg (fun s H C cl fp => pts_bw hl s H C cl fp) (fun s H C cl fp => pe_bw s H C cl fp) hs,
    fun i y py spos h1 h2 h3 => ps_setLc hc hN h1 h2 h3 hp ok hg (fun s H C cl fp => pts_bw hl s H C cl fp) (fun s H C cl fp => pe_bw s H C cl fp) hs⟩
  refine hd S O σ F H Y _ fun J ds F' H' Y' t hP hw D hD => ?_
  obtain ⟨Iv, h0, turn, done⟩ := hJ ds hP
  refine acc_loop (B := fun x H' Nx => g x (wipe σ (own.map (·.2))) H' fun σ2 H2 => wipe σ2 (own.map (·.2)) = wipe σ (own.map (·.2)) ∧ bwI X scope ifs σ2 H2 fun b H3 => if b = true then bwE X scope elt σ2 H3 fun y H4 => ∃ acc, H4 D = some (.lst acc) ∧ acc.length < sizeLine ∧ Nx (upd H4 D (.lst (acc ++ [y]))) else Nx H3)
    Iv (LSt.start Y' hD) hw h0 (fun i d acc x F2 H2 hd iv L p Nx hN => ?_) fun acc F3 H3 iv L tt => ?_
  · obtain ⟨hz, ⟨ρ', js, hg, hjs, Pb, hb, ht, hf⟩⟩ := turn i d acc hd iv
    refine hg S O _ F2 H2 x (L.ok.wipe (own.map (·.2))) p _ fun σ' Y3 wj => ⟨by rw [wj _ hjs]; exact wipe_wipe σ _ _ fun _ h => h, ?_⟩
    refine hb.ok S O σ' F2 H2 Y3 _ fun b F3 H3 Y4 t4 pb => ?_
    have L4 := L.step Y4 t4
    cases b with
    | true =>
      refine iteT (elt_push ((ht pb).ok) L4 hz fun d F5 H5 iv5 L5 t5 => ?_)
      have ta := (tr_around L t4).trans t5
      exact hN _ F5 H5 iv5 (L.back L5 ta) ta
    | false =>
      refine iteF (hN acc F3 H3 (hf pb) (L.back L4 (tr_around L t4)) (tr_around L t4))
  · obtain ⟨us, h1, h2⟩ := L.hD
    exact q D us acc F3 H3 L.ok (t.trans L.tr) (tr_free t hD) L.fD h1 h2 (done acc iv)
theorem lc_I2 {Pi Pz : List PyData → Prop} (hc : X.calm = true) (hN : X.N.Nodup) (hi : DI X ρ tg iter Pi) (ok : BlkOk X.N X.env.scope scope own) (hv : ∀ i ∈ vs1, i ∈ own.map (·.2)) (hl : ifs.length ≤ 1) (hl1 : ifs1.length ≤ 1)
    (hg : ∀ (s : Shared) (H : Hp) (C : Addr) (cl : List (Str × Addr)) (fp : List Addr), PG (X.blk s H scope (compEnvC scope cl C X.env) fp) tg g) (hg1 : ∀ (s : Shared) (H : Hp) (C : Addr) (cl : List (Str × Addr)) (fp : List Addr), PG (X.blk s H scope (compEnvC scope cl C X.env) fp) tg1 g1)
    {wi1 : TI} (hi1 : ∀ (s : Shared) (H0 : Hp) (C : Addr) (cl : List (Str × Addr)) (fp : List Addr), PI (X.blk s H0 scope (compEnvC scope cl C X.env) fp) tg1 iter1 wi1)
    (hJ : ∀ ds, Pi ds → ∃ Iv : Nat → List PyData → Prop, Iv 0 [] ∧ (∀ (i : Nat) d acc, ds[i]? = some d → Iv i acc → LcTurn X scope ρ (own.map (·.2)) g ifs d (fun ρ' => ∃ Pi1 : List PyData → Prop, DI1 (cn X) ρ' wi1 Pi1 ∧
        ∀ ds1, Pi1 ds1 → ∃ Iv1 : Nat → List PyData → Prop, Iv1 0 acc ∧ (∀ (j : Nat) d1 acc1, ds1[j]? = some d1 → Iv1 j acc1 → acc1.length < sizeLine ∧ ∃ ρ2 js, DG1 (cn X) (wipeR ρ' vs1) g1 d1 ρ2 js ∧ (∀ j ∈ js, j ∈ vs1) ∧ ∃ Pb : Bool → Prop, BT X scope ρ2 ifs1 Pb ∧ (Pb true → BE X scope ρ2 elt fun y => Iv1 (j + 1) (acc1 ++ [y])) ∧ (Pb false → Iv1 (j + 1) acc1)) ∧ ∀ acc1, Iv1 ds1.length acc1 → Iv (i + 1) acc1) (Iv (i + 1) acc)) ∧ ∀ acc, Iv ds.length acc → Pz acc)
    (hs : ∀ x, foldedSetIterable iter X.env x = pure x := by intro _; rfl) (hs1 : ∀ env x, foldedSetIterable iter1 env x = pure x := by intro _ _; rfl) : LC X ρ (.ListComp elt [⟨tg, iter, ifs, 0⟩, ⟨tg1, iter1, ifs1, 0⟩] scope pos) Pz := by
  obtain ⟨wi, hp, hd⟩ := hi.ex
  refine ⟨tLc2 wi g (bwI X scope ifs) wi1 g1 (bwI X scope ifs1) (bwE X scope elt) (own.map (·.2)) vs1, fun S O σ F H Y Q q => ?_, pe_lc2 hc hN hp ok hv hg (fun s H C cl fp => pts_bw hl s H C cl fp) hi1 hg1 (fun s H C cl fp => pts_bw hl1 s H C cl fp) (fun s H C cl fp => pe_bw s H C cl fp) hs hs1,
    fun i y py spos h1 h2 h3 => ps_setLc2 hc hN h1 h2 h3 hp ok hv hg (fun s H C cl fp => pts_bw hl s H C cl fp) hi1 hg1 (fun s H C cl fp => pts_bw hl1 s H C cl fp) (fun s H C cl fp => pe_bw s H C cl fp) hs hs1⟩
  refine hd S O σ F H Y _ fun J ds F' H' Y' t hP hw D hD => ?_
  obtain ⟨Iv, h0, turn, done⟩ := hJ ds hP
  refine acc_loop (B := fun x H' Nx => g x (wipe σ (own.map (·.2))) H' fun σ2 H2 => wipe σ2 (own.map (·.2)) = wipe σ (own.map (·.2)) ∧ bwI X scope ifs σ2 H2 fun b H3 => if b = true then wi1 σ2 H3 fun J1 H4 => ∃ W1 : Nat → Nat → Hp → Prop, (∃ m, W1 0 m H4) ∧ ∀ j k H, W1 j k H →
      (J1.stop j H ∧ Nx H) ∨ (J1.go j H ∧ ∃ Nx1 : Hp → Prop, (∀ H', Nx1 H' → ∃ k', k' < k ∧ W1 (j + 1) k' H') ∧ ∀ x H', J1.yld j H x H' → g1 x (wipe σ2 vs1) H' fun σ3 H5 => wipe σ3 vs1 = wipe σ2 vs1 ∧ bwI X scope ifs1 σ3 H5 fun b H6 =>
        if b = true then bwE X scope elt σ3 H6 fun y H7 => ∃ acc, H7 D = some (.lst acc) ∧ acc.length < sizeLine ∧ Nx1 (upd H7 D (.lst (acc ++ [y]))) else Nx1 H6) else Nx H3)
    Iv (LSt.start Y' hD) hw h0 (fun i d acc x F2 H2 hd iv L p Nx hN => ?_) fun acc F3 H3 iv L tt => ?_
  · obtain ⟨ρ', js, hg, hjs, Pb, hb, ht, hf⟩ := (turn i d acc hd iv).go
    refine hg S O _ F2 H2 x (L.ok.wipe (own.map (·.2))) p _ fun σ' Y3 wj => ⟨by rw [wj _ hjs]; exact wipe_wipe σ _ _ fun _ h => h, ?_⟩
    refine hb.ok S O σ' F2 H2 Y3 _ fun b F3 H3 Y4 t4 pb => ?_
    have L4 := L.step Y4 t4
    cases b with
    | false => exact iteF (hN acc F3 H3 (hf pb) (L.back L4 (tr_around L t4)) (tr_around L t4))
    | true =>
      obtain ⟨Pi1, di1, inner⟩ := ht pb
      refine iteT (di1 S O σ' F3 H3 Y4 _ fun J1 ds1 F4 H4 Y5 t5 hP1 hw1 => ?_)
      have L5 := L4.step Y5 t5
      obtain ⟨Iv1, i0, turn1, done1⟩ := inner ds1 hP1
      have ta := (tr_around L t4).trans (tr_around L4 t5)
      refine acc_loop (E := Nx) (B := fun x H' Nx1 => g1 x (wipe σ' vs1) H' fun σ3 H5 => wipe σ3 vs1 = wipe σ' vs1 ∧ bwI X scope ifs1 σ3 H5 fun b H6 => if b = true then bwE X scope elt σ3 H6 fun y H7 => ∃ acc, H7 D = some (.lst acc) ∧ acc.length < sizeLine ∧ Nx1 (upd H7 D (.lst (acc ++ [y]))) else Nx1 H6)
        Iv1 L5 hw1 i0 (fun j d1 acc1 x1 F6 H6 hd1 iv1 L6 p6 Nx1 hN1 => ?_) fun acc1 F6 H6 iv1 L6 t6 => ?_
      · obtain ⟨hz, ρ2, js1, hg1, hjs1, Pb1, hb1, ht1, hf1⟩ := turn1 j d1 acc1 hd1 iv1
        refine hg1 S O _ F6 H6 x1 (L6.ok.wipe vs1) p6 _ fun σ3 Y7 wj1 => ⟨by rw [wj1 _ hjs1]; exact wipe_wipe σ' _ _ fun _ h => h, ?_⟩
        refine hb1.ok S O σ3 F6 H6 Y7 _ fun b F7 H7 Y8 t8 pb1 => ?_
        have L8 := L6.step Y8 t8
        cases b with
        | true =>
          refine iteT (elt_push ((ht1 pb1).ok) L8 hz fun d F9 H9 iv9 L9 t9 => ?_)
          have tb := (tr_around L6 t8).trans t9
          exact hN1 _ F9 H9 iv9 (L6.back L9 tb) tb
        | false => exact iteF (hN1 acc1 F7 H7 (hf1 pb1) (L6.back L8 (tr_around L6 t8)) (tr_around L6 t8))
      · exact hN acc1 F6 H6 (done1 acc1 iv1) (L.back L6 (ta.trans t6)) (ta.trans t6)
  · obtain ⟨us, h1, h2⟩ := L.hD
    exact q D us acc F3 H3 L.ok (t.trans L.tr) (tr_free t hD) L.fD h1 h2 (done acc iv)
/-- .. told exactly: the items of xs with b, each by f -/
theorem lc_D {α : Type} (xs : List α) (enc : α → PyData) (b : α → Bool) (f : α → PyData) (ρ1 : α → Slots) (js : List Nat) (hc : X.calm = true) (hN : X.N.Nodup) (hi : DI X ρ tg iter (fun x => x = xs.map enc)) (ok : BlkOk X.N X.env.scope scope own) (hl : ifs.length ≤ 1) (hz : xs.length ≤ 1000000)
    (hg : ∀ (s : Shared) (H : Hp) (C : Addr) (cl : List (Str × Addr)) (fp : List Addr), PG (X.blk s H scope (compEnvC scope cl C X.env) fp) tg g)
    (hG : ∀ x ∈ xs, DG1 (cn X) (wipeR ρ (own.map (·.2))) g (enc x) (ρ1 x) js) (hj : ∀ j ∈ js, j ∈ own.map (·.2))
    (ht : ∀ x ∈ xs, BT X scope (ρ1 x) ifs (fun k => k = b x)) (he : ∀ x ∈ xs, b x = true → BE X scope (ρ1 x) elt (fun y => y = f x))
    (hs : ∀ x, foldedSetIterable iter X.env x = pure x := by intro _; rfl) : LC X ρ (.ListComp elt [⟨tg, iter, ifs, 0⟩] scope pos) (fun ds => ds = (xs.filter b).map f) :=
  lc_I hc hN hi ok hl hg (fun ds e => by
    subst e
    refine ⟨fun i acc => acc = (((xs.take i).filter b).map f), rfl, fun i d acc hd e => ?_, fun acc e => ?_⟩
    · rw [List.getElem?_map] at hd
      cases hx : xs[i]? with
      | none => rw [hx] at hd; cases hd
      | some x =>
        rw [hx] at hd
        obtain rfl : enc x = d := Option.some.inj hd
        have hm : x ∈ xs := List.mem_of_getElem? hx
        have e1 : xs.take (i + 1) = xs.take i ++ [x] := by rw [List.take_add_one, hx]; rfl
        refine ⟨?_, ⟨ρ1 x, js, hG x hm, hj, _, ht x hm, fun hb => ?_, fun hb => ?_⟩⟩
        · rw [e, List.length_map]
          have h1 := List.length_filter_le b (xs.take i)
          have h2 : (xs.take i).length ≤ xs.length := by rw [List.length_take]; exact Nat.min_le_right _ _
          exact Nat.lt_of_le_of_lt (Nat.le_trans h1 (Nat.le_trans h2 hz)) (by decide)
        · intro s H0 C cl fp
          refine (he x hm hb.symm s H0 C cl fp).imp fun y ey => ?_
          show acc ++ [y] = List.map f (List.filter b (List.take (i + 1) xs))
          rw [e, e1, List.filter_append, List.map_append, ey, List.filter_cons, if_pos hb.symm]; rfl
        · show acc = List.map f (List.filter b (List.take (i + 1) xs))
          rw [e, e1, List.filter_append, List.map_append, List.filter_cons, if_neg (by rw [← hb]; decide)]; simp
    · rw [e, List.length_map, List.take_length]) hs
end
end G
/-! G5: statements. -/
namespace G
open PySem PySem.Spec PyProof.Rows L2
/-! ### own lists, frozen for a while -/
def fz1 : Sl → Sl
  | .ow (.lst ds) => .va (.list ds)
  | s => s
def fz (ρ : Slots) : Slots := ρ.map fz1
section
variable {K : Cn} {S : Sta} {O : Own} {ρ : Slots} {σ : L2.St} {F H : Hp}
def Owned (ρ : Slots) (O : Own) (a : Addr) : Prop := ∃ (i : Nat) (ds : List PyData), ρ[i]? = some (.ow (.lst ds)) ∧ O i = some a
open Classical in
noncomputable def fzF (ρ : Slots) (O : Own) (F H : Hp) : Hp := fun b => if Owned ρ O b then H b else F b
open Classical in
noncomputable def unF (ρ : Slots) (O : Own) (F : Hp) : Hp := fun b => if Owned ρ O b then none else F b
open Classical in
noncomputable def fzO (ρ : Slots) (O : Own) : Own := fun i => if (∃ ds, ρ[i]? = some (.ow (.lst ds))) then none else O i
theorem fzF_own {b : Addr} (h : Owned ρ O b) : fzF ρ O F H b = H b := by unfold fzF; rw [if_pos h]
theorem fzF_not {b : Addr} (h : ¬ Owned ρ O b) : fzF ρ O F H b = F b := by unfold fzF; rw [if_neg h]
theorem unF_own {b : Addr} (h : Owned ρ O b) : unF ρ O F b = none := by unfold unF; rw [if_pos h]
theorem unF_not {b : Addr} (h : ¬ Owned ρ O b) : unF ρ O F b = F b := by unfold unF; rw [if_neg h]
theorem fz_get {i : Nat} {s : Sl} (h : (fz ρ)[i]? = some s) : ∃ s0, ρ[i]? = some s0 ∧ s = fz1 s0 := by
  unfold fz at h
  rw [List.getElem?_map] at h
  cases e : ρ[i]? with
  | none => rw [e] at h; cases h
  | some s0 => rw [e] at h; exact ⟨s0, rfl, (Option.some.inj h).symm⟩
theorem Sok.ownF (Y : Sok K S O ρ σ F H) {a : Addr} (h : Owned ρ O a) : F a = none ∧ (∃ vs, H a = some (.lst vs)) ∧ ∀ s c, S = some (s, c) → a ≠ s ∧ a ≠ c := by
  obtain ⟨i, ds, h1, h2⟩ := h
  obtain ⟨a', e1, e2, vs, e3, e4⟩ := Y.ow i _ h1
  rw [h2] at e1
  cases e1
  obtain ⟨q1, q2, q3, q4⟩ := Y.oi i a h2
  exact ⟨q1, ⟨vs, e3⟩, q4⟩
theorem Sok.sameF (Y : Sok K S O ρ σ F H) : Same F (fzF ρ O F H) := fun b o e => by
  by_cases hb : Owned ρ O b
  · rw [(Y.ownF hb).1] at e; cases e
  · rw [fzF_not hb]; exact e
theorem Sok.freeze (Y : Sok K S O ρ σ F H) : Sok K S (fzO ρ O) (fz ρ) σ (fzF ρ O F H) H where
  len := by unfold fz; rw [List.length_map]; exact Y.len
  va := fun i d e => by
    obtain ⟨s0, h1, h2⟩ := fz_get e
    cases s0 with
    | no => cases h2
    | st => cases h2
    | va d0 =>
      cases h2
      obtain ⟨v, e1, e2⟩ := Y.va i _ h1
      exact ⟨v, e1, Dq.mono Y.sameF _ e2⟩
    | ow o =>
      cases o with
      | dK kvs => cases h2
      | dX kvs => cases h2
      | lst ds =>
        cases h2
        obtain ⟨a, e1, e2, vs, e3, e4⟩ := Y.ow i _ h1
        refine ⟨.ref a, e2, .lst (.of ?_) (DqAll.mono Y.sameF ds e4)⟩
        rw [fzF_own ⟨i, ds, h1, e1⟩]
        exact e3
  ow := fun i o e => by
    obtain ⟨s0, h1, h2⟩ := fz_get e
    cases s0 with
    | no => cases h2
    | st => cases h2
    | va d0 => cases h2
    | ow o' =>
      have nl : ∀ ds, o' ≠ .lst ds := fun ds z => by subst z; cases h2
      have e' : o = o' := by
        cases o' with
        | lst ds => cases h2
        | dK kvs => cases h2; rfl
        | dX kvs => cases h2; rfl
      subst e'
      obtain ⟨a, e1, e2, e3⟩ := Y.ow i _ h1
      refine ⟨a, ?_, e2, e3.mono Y.sameF rfl⟩
      unfold fzO
      rw [if_neg]
      · exact e1
      · rintro ⟨ds, q⟩
        rw [h1] at q
        cases q
        exact nl ds rfl
  oi := fun i a e => by
    unfold fzO at e
    split at e
    · cases e
    · rename_i hn
      obtain ⟨q1, q2, q3, q4⟩ := Y.oi i a e
      refine ⟨?_, q2, fun j ej => ?_, q4⟩
      · rw [fzF_not]
        · exact q1
        · rintro ⟨j, ds, z1, z2⟩
          have := q3 j z2
          subst this
          exact hn ⟨ds, z1⟩
      · unfold fzO at ej
        split at ej
        · cases ej
        · exact q3 j ej
  stv := fun i e => by
    obtain ⟨s0, h1, h2⟩ := fz_get e
    cases s0 with
    | no => cases h2
    | st => exact Y.stv i h1
    | va d0 => cases h2
    | ow o =>
      cases o with
      | dK kvs => cases h2
      | dX kvs => cases h2
      | lst ds => cases h2
  sto := fun s c e => by
    obtain ⟨q1, q2, q3⟩ := Y.sto s c e
    refine ⟨q1, ?_, ?_⟩
    · rw [fzF_not]
      · exact q2
      · intro z; exact ((Y.ownF z).2.2 s c e).1 rfl
    · rw [fzF_not]
      · exact q3
      · intro z; exact ((Y.ownF z).2.2 s c e).2 rfl
  FH := fun b o e => by
    by_cases hb : Owned ρ O b
    · rw [fzF_own hb] at e; exact e
    · rw [fzF_not hb] at e; exact Y.FH b o e
/-- .. and thawed -/
theorem Sok.thaw (Y : Sok K S O ρ σ F H) {F' H' : Hp} {ρ' : Slots} {σ' : L2.St} {O' : Own} (Y' : Sok K S O' ρ' σ' F' H') (t : Tr S (fzF ρ O F H) H F' H') :
    Sok K S O ρ σ (unF ρ O F') H' ∧ Tr S F H (unF ρ O F') H' ∧ SameT F' (unF ρ O F') := by
  have own' : ∀ {a}, Owned ρ O a → F' a = H a ∧ H' a = H a := fun {a} ha => by
    obtain ⟨_, ⟨vs, h⟩, _⟩ := Y.ownF ha
    have e1 : F' a = some (.lst vs) := t.ff a _ (by rw [fzF_own ha]; exact h)
    exact ⟨e1.trans h.symm, (Y'.FH a _ e1).trans h.symm⟩
  have ff : Same F (unF ρ O F') := fun b o e => by
    have hb : ¬ Owned ρ O b := fun z => by rw [(Y.ownF z).1] at e; cases e
    rw [unF_not hb]
    exact t.ff b o (by rw [fzF_not hb]; exact e)
  have FH' : Same (unF ρ O F') H' := fun b o e => by
    by_cases hb : Owned ρ O b
    · rw [unF_own hb] at e; cases e
    · rw [unF_not hb] at e; exact Y'.FH b o e
  have nw : ∀ b, F b = none → H b ≠ none → unF ρ O F' b = none := fun b e n => by
    by_cases hb : Owned ρ O b
    · exact unF_own hb
    · rw [unF_not hb]; exact t.nw b (by rw [fzF_not hb]; exact e) n
  have T : Tr S F H (unF ρ O F') H' := ⟨ff, t.hh, nw, t.ke⟩
  refine ⟨?_, T, fun a xs r => ?_⟩
  · refine ⟨Y.len, fun i d e => let ⟨v, h1, h2⟩ := Y.va i d e; ⟨v, h1, Dq.mono ff d h2⟩, fun i o e => ?_, fun i a e => ?_, Y.stv, fun s c e => ?_, FH'⟩
    · obtain ⟨a, h1, h2, h3⟩ := Y.ow i o e
      refine ⟨a, h1, h2, h3.mono ff ?_⟩
      cases q : H a with
      | none => exact absurd q h3.some
      | some u => exact t.hh a u q (Y.oi i a h1).2.2.2
    · obtain ⟨q1, q2, q3, q4⟩ := Y.oi i a e
      exact ⟨nw a q1 q2, t.ke a q2, q3, q4⟩
    · obtain ⟨q1, q2, q3⟩ := Y.sto s c e
      obtain ⟨r1, r2, r3⟩ := Y'.sto s c e
      obtain ⟨n1, n2⟩ := q1.some
      exact ⟨r1, nw s q2 n1, nw c q3 n2⟩
  · have hb : ¬ Owned ρ O a := fun z => by
      obtain ⟨e1, _⟩ := own' z
      obtain ⟨_, ⟨vs, h⟩, _⟩ := Y.ownF z
      rcases r with r | ⟨o, r⟩ <;> (rw [e1, h] at r; cases r)
    rcases r with r | ⟨o, r⟩
    · exact .inl (by rw [unF_not hb]; exact r)
    · exact .inr ⟨o, by rw [unF_not hb]; exact r⟩
theorem unF_none {p : Addr} {F' : Hp} (h : F' p = none) : unF ρ O F' p = none := by
  by_cases hb : Owned ρ O p
  · exact unF_own hb
  · rw [unF_not hb]; exact h
/-- an expression over the frozen state, its data without lists -/
theorem De1.thaw {te : TE} {P : PyData → Prop} (h : De1 K (fz ρ) te P) (hp : ∀ d, P d → pur d = true) : De1 K ρ te P := fun S O σ F H Y Q q =>
  h S _ σ _ H Y.freeze Q fun v d F' H' Y' t p e => by
    obtain ⟨Y2, T, sT⟩ := Y.thaw Y' t
    exact q v d _ H' Y2 T (Dq.pur sT d (hp d e) p) e
theorem DL1.thaw {te : TE} {P : List PyData → Prop} (h : DL1 K (fz ρ) te P) (hp : ∀ ds, P ds → purAll ds = true) : DL1 K ρ te P := fun S O σ F H Y Q q =>
  h S _ σ _ H Y.freeze Q fun p vs ds F' H' Y' t h1 h2 h3 h4 h5 => by
    obtain ⟨Y2, T, sT⟩ := Y.thaw Y' t
    exact q p vs ds _ H' Y2 T h1 (unF_none h2) h3 (DqAll.pur sT ds (hp ds h5) h4) h5
theorem DT1.thaw {tt : TT} {P : Bool → Prop} (h : DT1 K (fz ρ) tt P) : DT1 K ρ tt P := fun S O σ F H Y Q q =>
  h S _ σ _ H Y.freeze Q fun b F' H' Y' t p => by
    obtain ⟨Y2, T, sT⟩ := Y.thaw Y' t
    exact q b _ H' Y2 T p
end
/-! ### a body's state -/
structure Bse where
  F0 : Hp
  H0 : Hp
  S0 : Sta
structure SB (K : Cn) (B : Bse) (S : Sta) (O : Own) (ρ : Slots) (σ : L2.St) (F H : Hp) : Prop where
  ok : Sok K S O ρ σ F H
  tr : Tr B.S0 B.F0 B.H0 F H
  nw : ∀ i a, O i = some a → B.H0 a = none
  st : (B.S0 = none ∨ S = B.S0) ∧ (B.S0 = none → ∀ s c, S = some (s, c) → B.H0 s = none ∧ B.H0 c = none)
section
variable {K : Cn} {B : Bse} {S : Sta} {O : Own} {ρ ρ' : Slots} {σ σ' : L2.St} {F H F' H' : Hp}
theorem SB.notS (Y : SB K B S O ρ σ F H) {b : Addr} {o : HO} (h : B.H0 b = some o) (n : ∀ s c, B.S0 = some (s, c) → b ≠ s ∧ b ≠ c) : ∀ s c, S = some (s, c) → b ≠ s ∧ b ≠ c := fun s c e => by
  rcases Y.st.1 with z | z
  · obtain ⟨h1, h2⟩ := Y.st.2 z s c e
    exact ⟨ne_of_none h h1, ne_of_none h h2⟩
  · exact n s c (z ▸ e)
theorem SB.trans (Y : SB K B S O ρ σ F H) (t : Tr S F H F' H') : Tr B.S0 B.F0 B.H0 F' H' :=
  ⟨Y.tr.ff.trans t.ff, fun b o e n => t.hh b o (Y.tr.hh b o e n) (Y.notS e n), fun b e n => t.nw b (Y.tr.nw b e n) (Y.tr.ke b n), fun b e => t.ke b (Y.tr.ke b e)⟩
theorem SB.step (Y : SB K B S O ρ σ F H) (t : Tr S F H F' H') (Y' : Sok K S O ρ' σ' F' H') : SB K B S O ρ' σ' F' H' := ⟨Y', Y.trans t, Y.nw, Y.st⟩
theorem SB.free (Y : SB K B S O ρ σ F H) {p : Addr} (h : H p = none) : B.H0 p = none := tr_free Y.tr h
theorem SB.setV (Y : SB K B S O ρ σ F H) (j : Nat) {v : V} {d : PyData} (h : Dq K.K F v d) : SB K B S O (ρ.set j (.va d)) (σ.set j (some v)) F H := ⟨Y.ok.setV j h, Y.tr, Y.nw, Y.st⟩
/-- a new list becomes a slot's own -/
theorem Sok.setO (Y : Sok K S O ρ σ F H) (j : Nat) {p : Addr} {o : Ow} (hF : F p = none) (hO : ∀ i, O i ≠ some p) (hS : ∀ s c, S = some (s, c) → p ≠ s ∧ p ≠ c) (h : OwOk K F H p o) : Sok K S (fun i => if i = j then some p else O i) (ρ.set j (.ow o)) (σ.set j (some (.ref p))) F H where
  len := by rw [List.length_set, List.length_set, Y.len]
  va := fun i d' e => by
    rcases set_get e with ⟨rfl, e1, hl⟩ | ⟨ne, e1⟩
    · cases e1
    · rw [List.getElem?_set_ne (Ne.symm ne)]
      exact Y.va i d' e1
  ow := fun i o' e => by
    rcases set_get e with ⟨rfl, e1, hl⟩ | ⟨ne, e1⟩
    · cases e1
      exact ⟨p, if_pos rfl, List.getElem?_set_self (by rw [← Y.len]; exact hl), h⟩
    · rw [List.getElem?_set_ne (Ne.symm ne)]
      obtain ⟨a, h1, h2, h3⟩ := Y.ow i o' e1
      exact ⟨a, by rw [if_neg ne]; exact h1, h2, h3⟩
  oi := fun i a e => by
    by_cases hi : i = j
    · rw [if_pos hi] at e
      cases e
      refine ⟨hF, h.some, fun k ek => ?_, hS⟩
      by_cases hk : k = j
      · rw [hk, hi]
      · rw [if_neg hk] at ek; exact absurd ek (hO k)
    · rw [if_neg hi] at e
      obtain ⟨q1, q2, q3, q4⟩ := Y.oi i a e
      refine ⟨q1, q2, fun k ek => ?_, q4⟩
      by_cases hk : k = j
      · rw [if_pos hk] at ek; cases ek; exact absurd e (hO i)
      · rw [if_neg hk] at ek; exact q3 k ek
  stv := fun i e => by
    rcases set_get e with ⟨rfl, e1, hl⟩ | ⟨ne, e1⟩
    · cases e1
    · rw [List.getElem?_set_ne (Ne.symm ne)]
      exact Y.stv i e1
  sto := Y.sto
  FH := Y.FH
/-- an own object is changed -/
theorem Sok.mut (Y : Sok K S O ρ σ F H) {j : Nat} {p : Addr} {u : HO} {o : Ow} {w : HO} (hj : O j = some p) (hσ : σ[j]? = some (some (.ref p))) (h : OwOk K F (upd H p u) p o) : Sok K S O (ρ.set j (.ow o)) σ F (upd H p u) := by
  obtain ⟨q1, q2, q3, q4⟩ := Y.oi j p hj
  refine ⟨by rw [List.length_set]; exact Y.len, fun i d e => ?_, fun i o' e => ?_, fun i a e => ?_, fun i e => ?_, fun s c e => ?_, fun b w e => ?_⟩
  · rcases set_get e with ⟨rfl, e1, hl⟩ | ⟨ne, e1⟩
    · cases e1
    · exact Y.va i d e1
  · rcases set_get e with ⟨rfl, e1, hl⟩ | ⟨ne, e1⟩
    · cases e1
      exact ⟨p, hj, hσ, h⟩
    · obtain ⟨a, h1, h2, h3⟩ := Y.ow i o' e1
      exact ⟨a, h1, h2, h3.mono (Same.refl _) (upd_ne (show a ≠ p from fun z => ne (q3 i (z ▸ h1))))⟩
  · obtain ⟨z1, z2, z3, z4⟩ := Y.oi i a e
    refine ⟨z1, ?_, z3, z4⟩
    by_cases ha : a = p
    · subst ha; rw [upd_same]; intro z; cases z
    · rw [upd_ne ha]; exact z2
  · rcases set_get e with ⟨rfl, e1, hl⟩ | ⟨ne, e1⟩
    · cases e1
    · exact Y.stv i e1
  · obtain ⟨z1, z2, z3⟩ := Y.sto s c e
    obtain ⟨n1, n2⟩ := q4 s c e
    exact ⟨z1.mono (upd_ne (Ne.symm n1)) (upd_ne (Ne.symm n2)), z2, z3⟩
  · rw [upd_ne (show b ≠ p from fun z => by rw [z, q1] at e; cases e)]
    exact Y.FH b w e
theorem SB.mut (Y : SB K B S O ρ σ F H) {j : Nat} {p : Addr} {u : HO} {o : Ow} (hj : O j = some p) (hσ : σ[j]? = some (some (.ref p))) (h : OwOk K F (upd H p u) p o) : SB K B S O (ρ.set j (.ow o)) σ F (upd H p u) := by
  have hn := Y.nw j p hj
  refine ⟨Y.ok.mut (w := u) hj hσ h, ⟨Y.tr.ff, fun b w e n => ?_, Y.tr.nw, fun b e => ?_⟩, Y.nw, Y.st⟩
  · rw [upd_ne (ne_of_none e hn)]
    exact Y.tr.hh b w e n
  · by_cases hb : b = p
    · subst hb; rw [upd_same]; intro z; cases z
    · rw [upd_ne hb]; exact Y.tr.ke b e
end
/-! ### statements -/
structure Out where
  nx : Slots → Prop
  rv : PyData → Prop
  rl : List PyData → Prop := fun _ => False
  bk : Slots → Prop := fun _ => False
  ct : Slots → Prop := fun _ => False
structure DOk (K : Cn) (B : Bse) (R : Out) (D : Ends) : Prop where
  nx : ∀ ρ S O σ F H, R.nx ρ → SB K B S O ρ σ F H → D.nx σ H
  rv : ∀ v d ρ S O σ F H, R.rv d → SB K B S O ρ σ F H → Dq K.K F v d → D.rt v H
  rl : ∀ p us ds ρ S O σ F H, R.rl ds → SB K B S O ρ σ F H → B.H0 p = none → F p = none → H p = some (.lst us) → DqAll K.K F us ds → D.rt (.ref p) H
  bk : ∀ ρ S O σ F H, R.bk ρ → SB K B S O ρ σ F H → D.bk σ H
  ct : ∀ ρ S O σ F H, R.ct ρ → SB K B S O ρ σ F H → D.ct σ H
def Do1 (K : Cn) (ρ : Slots) (t : TS) (R : Out) : Prop := ∀ (B : Bse) (S : Sta) (O : Own) (σ : L2.St) (F H : Hp), SB K B S O ρ σ F H → ∀ D : Ends, DOk K B R D → t D σ H
abbrev Do (X : Cx) (ρ : Slots) (st : Stmt) (R : Out) : Prop := Do1 (cn X) ρ (wpS X st) R
abbrev DoB (X : Cx) (ρ : Slots) (sts : List Stmt) (R : Out) : Prop := Do1 (cn X) ρ (wpB X sts) R
section
variable {X : Cx} {ρ : Slots} {R : Out} {st : Stmt} {rest body orelse : List Stmt} {e c : Expr} {pos : Pos} {P : PyData → Prop}
theorem Do.of {t : TS} (h : PS X st t) (k : Do1 (cn X) ρ t R) : Do X ρ st R := fun B S O σ F H Y D q => of_ps h (k B S O σ F H Y D q)
theorem do_nil (h : R.nx ρ) : DoB X ρ [] R := fun B S O σ F H Y D q => of_pss pss_nil (q.nx ρ S O σ F H h Y)
theorem do_cons (h : Do X ρ st { R with nx := fun ρ' => DoB X ρ' rest R }) : DoB X ρ (st :: rest) R := fun B S O σ F H Y D q => of_pss (pss_cons ps_wp pss_wp)
  (h B S O σ F H Y { D with nx := wpB X rest D } ⟨fun ρ' S' O' σ' F' H' k Y' => k B S' O' σ' F' H' Y' D q, q.rv, q.rl, q.bk, q.ct⟩)
theorem do_one (h : Do X ρ st R) : DoB X ρ [st] R := fun B S O σ F H Y D q => of_pss (pss_one ps_wp) (h B S O σ F H Y D q)
/-- less is known from here on -/
theorem do_weak {ρ' : Slots} {t : TS} (hl : ρ'.length = ρ.length) (h : ∀ (i : Nat) (s : Sl), ρ'[i]? = some s → s = .no ∨ ρ[i]? = some s) (k : Do1 (cn X) ρ' t R) : Do1 (cn X) ρ t R := fun B S O σ F H Y D q => k B S O σ F H ⟨Y.ok.weak hl h, Y.tr, Y.nw, Y.st⟩ D q
theorem do_imp {R' : Out} {t : TS} (k : Do1 (cn X) ρ t R') (h1 : ∀ ρ, R'.nx ρ → R.nx ρ) (h2 : ∀ d, R'.rv d → R.rv d) (h3 : ∀ d, R'.rl d → R.rl d) (h4 : ∀ ρ, R'.bk ρ → R.bk ρ) (h5 : ∀ ρ, R'.ct ρ → R.ct ρ) : Do1 (cn X) ρ t R := fun B S O σ F H Y D q =>
  k B S O σ F H Y D ⟨fun ρ S O σ F H z => q.nx ρ S O σ F H (h1 ρ z), fun v d ρ S O σ F H z => q.rv v d ρ S O σ F H (h2 d z), fun p us ds ρ S O σ F H z => q.rl p us ds ρ S O σ F H (h3 ds z), fun ρ S O σ F H z => q.bk ρ S O σ F H (h4 ρ z), fun ρ S O σ F H z => q.ct ρ S O σ F H (h5 ρ z)⟩
/-- own lists are frozen for good -/
theorem do_fix {t : TS} (k : Do1 (cn X) (fz ρ) t R) : Do1 (cn X) ρ t R := fun B S O σ F H Y D q => by
  refine k B S (fzO ρ O) σ (fzF ρ O F H) H ⟨Y.ok.freeze, ⟨Y.tr.ff.trans Y.ok.sameF, Y.tr.hh, fun b e n => ?_, Y.tr.ke⟩, fun i a e => ?_, Y.st⟩ D q
  · have hb : ¬ Owned ρ O b := fun ⟨i, ds, h1, h2⟩ => n (Y.nw i b h2)
    rw [fzF_not hb]
    exact Y.tr.nw b e n
  · unfold fzO at e
    split at e
    · cases e
    · exact Y.nw i a e
/-- the slots written otherwise -/
theorem do_norm {ρ' : Slots} {t : TS} (h : ρ = ρ') (k : Do1 (cn X) ρ' t R) : Do1 (cn X) ρ t R := h ▸ k
theorem do_pass (h : R.nx ρ) : Do X ρ (.Pass pos) R := Do.of ps_pass fun B S O σ F H Y D q => q.nx ρ S O σ F H h Y
theorem do_break (h : R.bk ρ) : Do X ρ (.Break pos) R := Do.of ps_break fun B S O σ F H Y D q => q.bk ρ S O σ F H h Y
theorem do_continue (h : R.ct ρ) : Do X ρ (.Continue pos) R := Do.of ps_continue fun B S O σ F H Y D q => q.ct ρ S O σ F H h Y
/-- return -/
theorem do_ret (h : De X ρ e R.rv) : Do X ρ (.Return (some e) pos) R := Do.of (ps_ret pe_wp) fun B S O σ F H Y D q =>
  h S O σ F H Y.ok _ fun v d F' H' Y' t p e => q.rv v d ρ S O σ F' H' e (Y.step t Y') p
theorem do_retP (h : De X (fz ρ) e (fun d => pur d = true ∧ R.rv d)) : Do X ρ (.Return (some e) pos) R := do_ret ((De1.thaw h fun d z => z.1).imp fun d z => z.2)
theorem do_retD {d : PyData} (h : Dd X (fz ρ) e d) (hp : pur d = true) (k : R.rv d) : Do X ρ (.Return (some e) pos) R := do_retP (h.imp fun d' z => by rw [z]; exact ⟨hp, k⟩)
theorem do_retL (h : DL X ρ e R.rl) : Do X ρ (.Return (some e) pos) R := Do.of (ps_ret pe_wp) fun B S O σ F H Y D q =>
  h S O σ F H Y.ok _ fun p us ds F' H' Y' t h1 h2 h3 h4 h5 => q.rl p us ds ρ S O σ F' H' h5 (Y.step t Y') (Y.free h1) h2 h3 h4
theorem do_retLP (h : DL X (fz ρ) e (fun ds => purAll ds = true ∧ R.rl ds)) : Do X ρ (.Return (some e) pos) R := do_retL ((DL1.thaw h fun d z => z.1).imp fun d z => z.2)
theorem do_retLD {ds : List PyData} (h : DLd X (fz ρ) e ds) (hp : purAll ds = true) (k : R.rl ds) : Do X ρ (.Return (some e) pos) R := do_retLP (DL1.imp h fun d' z => by rw [z]; exact ⟨hp, k⟩)
/-- return of an own list -/
theorem do_retO (i : Nat) {x : Str} {p : Pos} {ds : List PyData} (hN : X.N[i]? = some x) (hv : Vis X.env.scope x) (h : ρ[i]? = some (.ow (.lst ds))) (k : R.rl ds) (hd : (x == ("__debug__" : Str)) = false := by decide) (hcd : (x == ("__classdict__" : Str)) = false := by decide) : Do X ρ (.Return (some (.Name x p)) pos) R :=
  Do.of (ps_ret (pe_var hN hv hd hcd)) fun B S O σ F H Y D q => by
    obtain ⟨a, e1, e2, vs, e3, e4⟩ := Y.ok.ow i _ h
    exact ⟨.ref a, e2, q.rl a vs ds ρ S O σ F H k Y (Y.nw i a e1) (Y.ok.oi i a e1).1 e3 e4⟩
/-- x = e -/
theorem do_set (i : Nat) {x : Str} {p : Pos} (hN : X.N.Nodup) (hi : X.N[i]? = some x) (hx : Loc X.env.scope x) (h : De X ρ e P) (k : ∀ d, P d → R.nx (ρ.set i (.va d))) (hs : swapsWith e (some (.Name x p)) pos.line X.env = pure false := by rfl) (hf : X.fn x = true ∨ X.env.scope.names.lookup x = some .local := by first | exact .inl rfl | exact .inr rfl | assumption) : Do X ρ (.Assign [.Name x p] e pos) R :=
  Do.of (ps_set hN hi hx pe_wp hs hf) fun B S O σ F H Y D q => h S O σ F H Y.ok _ fun v d F' H' Y' t p e => q.nx _ S O _ F' H' (k d e) ((Y.step t Y').setV i p)
theorem do_setD (i : Nat) {x : Str} {p : Pos} {d : PyData} (hN : X.N.Nodup) (hi : X.N[i]? = some x) (hx : Loc X.env.scope x) (h : Dd X (fz ρ) e d) (hp : pur d = true) (k : R.nx (ρ.set i (.va d))) (hs : swapsWith e (some (.Name x p)) pos.line X.env = pure false := by rfl) (hf : X.fn x = true ∨ X.env.scope.names.lookup x = some .local := by first | exact .inl rfl | exact .inr rfl | assumption) : Do X ρ (.Assign [.Name x p] e pos) R :=
  do_set i hN hi hx (De1.thaw h fun d' z => by rw [z]; exact hp) (fun d' z => by rw [z]; exact k) hs hf
theorem do_setP (i : Nat) {x : Str} {p : Pos} (hN : X.N.Nodup) (hi : X.N[i]? = some x) (hx : Loc X.env.scope x) (h : De X (fz ρ) e P) (hp : ∀ d, P d → pur d = true) (k : ∀ d, P d → R.nx (ρ.set i (.va d))) (hs : swapsWith e (some (.Name x p)) pos.line X.env = pure false := by rfl) (hf : X.fn x = true ∨ X.env.scope.names.lookup x = some .local := by first | exact .inl rfl | exact .inr rfl | assumption) : Do X ρ (.Assign [.Name x p] e pos) R :=
  do_set i hN hi hx (De1.thaw h hp) k hs hf
theorem SB.setO {K : Cn} {B : Bse} {S : Sta} {O : Own} {σ : L2.St} {F H F' H' : Hp} (Y : SB K B S O ρ σ F H) (t : Tr S F H F' H') (Y' : Sok K S O ρ σ F' H') (i : Nat) {a : Addr} {o : Ow} (h1 : H a = none) (h2 : F' a = none) (h : OwOk K F' H' a o) : SB K B S (fun j => if j = i then some a else O j) (ρ.set i (.ow o)) (σ.set i (some (.ref a))) F' H' := by
  have Y2 := Y.step t Y'
  refine ⟨Y'.setO i h2 (Y.ok.notO h1) (Y.ok.notS h1) h, Y2.tr, fun j b e => ?_, Y.st⟩
  by_cases hj : j = i
  · rw [if_pos hj] at e; cases e; exact Y.free h1
  · rw [if_neg hj] at e; exact Y.nw j b e
/-- x = a new list, its own from then on -/
theorem do_setL1 {te : TE} (i : Nat) {Pl : List PyData → Prop} (h : DL1 (cn X) ρ te Pl) (k : ∀ ds, Pl ds → R.nx (ρ.set i (.ow (.lst ds)))) : Do1 (cn X) ρ (tAsg te (gName i)) R := fun B S O σ F H Y D q =>
  h S O σ F H Y.ok _ fun a us ds F' H' Y' t h1 h2 h3 h4 h5 => q.nx _ S _ _ F' H' (k ds h5) (Y.setO t Y' i (o := .lst ds) h1 h2 ⟨us, h3, h4⟩)
theorem do_setL (i : Nat) {x : Str} {p : Pos} {Pl : List PyData → Prop} (hN : X.N.Nodup) (hi : X.N[i]? = some x) (hx : Loc X.env.scope x) (h : DL X (fz ρ) e Pl) (hp : ∀ ds, Pl ds → purAll ds = true) (k : ∀ ds, Pl ds → R.nx (ρ.set i (.ow (.lst ds)))) (hs : swapsWith e (some (.Name x p)) pos.line X.env = pure false := by rfl) (hf : X.fn x = true ∨ X.env.scope.names.lookup x = some .local := by first | exact .inl rfl | exact .inr rfl | assumption) : Do X ρ (.Assign [.Name x p] e pos) R :=
  Do.of (ps_set hN hi hx pe_wp hs hf) (do_setL1 i (DL1.thaw h hp) k)
theorem do_setLD (i : Nat) {x : Str} {p : Pos} {ds : List PyData} (hN : X.N.Nodup) (hi : X.N[i]? = some x) (hx : Loc X.env.scope x) (h : DLd X (fz ρ) e ds) (hp : purAll ds = true) (k : R.nx (ρ.set i (.ow (.lst ds)))) (hs : swapsWith e (some (.Name x p)) pos.line X.env = pure false := by rfl) (hf : X.fn x = true ∨ X.env.scope.names.lookup x = some .local := by first | exact .inl rfl | exact .inr rfl | assumption) : Do X ρ (.Assign [.Name x p] e pos) R :=
  do_setL i hN hi hx h (fun d z => by rw [z]; exact hp) (fun d z => by rw [z]; exact k) hs hf
/-- x = [.. for ..] -/
theorem do_setC (i : Nat) {x : Str} {p : Pos} {Pl : List PyData → Prop} (hi : X.N[i]? = some x) (hx : X.env.scope.names.lookup x = some .local) (h : LC X (fz ρ) e Pl) (hp : ∀ ds, Pl ds → purAll ds = true) (k : ∀ ds, Pl ds → R.nx (ρ.set i (.ow (.lst ds)))) (hs : swapsWith e (some (.Name x p)) pos.line X.env = pure true) : Do X ρ (.Assign [.Name x p] e pos) R := by
  obtain ⟨te, h1, _, h3⟩ := h.ex
  exact Do.of (h3 i x p pos hi hx hs) (do_setL1 i (DL1.thaw h1 hp) k)
/-- .. whose items may hold lists: read only from then on -/
theorem do_setCV (i : Nat) {x : Str} {p : Pos} {Pl : List PyData → Prop} (hi : X.N[i]? = some x) (hx : X.env.scope.names.lookup x = some .local) (h : LC X ρ e Pl) (k : ∀ ds, Pl ds → R.nx (ρ.set i (.va (.list ds)))) (hs : swapsWith e (some (.Name x p)) pos.line X.env = pure true) : Do X ρ (.Assign [.Name x p] e pos) R := by
  obtain ⟨te, h1, _, h3⟩ := h.ex
  exact Do.of (h3 i x p pos hi hx hs) fun B S O σ F H Y D q => De1.ofL h1 S O σ F H Y.ok _ fun v d F' H' Y' t p ⟨ds, e, h⟩ => by
    subst e
    exact q.nx _ S O _ F' H' (k ds h) ((Y.step t Y').setV i p)
/-- a target = e -/
theorem do_asg {tg : Expr} {g : TG} {ρ' : PyData → Slots} {js : List Nat} (hg : PG X tg g) (h : De X ρ e P) (hG : ∀ d, P d → DG1 (cn X) ρ g d (ρ' d) js) (k : ∀ d, P d → R.nx (ρ' d)) (hs : swapsWithSole [tg] e pos.line X.env = pure false := by rfl) (hw : swappedStores [tg] e X.env = pure none := by rfl)
    (h1 : (assignEach [tg] X.env).map (·.2) = [assign tg X.env] := by rfl) : Do X ρ (.Assign [tg] e pos) R := Do.of (ps_asg pe_wp hg hs hw h1) fun B S O σ F H Y D q =>
  h S O σ F H Y.ok _ fun v d F' H' Y' t p e => hG d e S O σ F' H' v Y' p _ fun σ' Y2 _ => q.nx _ S O σ' F' H' (k d e) (Y.step t Y2)
theorem do_asgD {tg : Expr} {g : TG} {ρ' : Slots} {js : List Nat} {d : PyData} (hg : PG X tg g) (h : Dd X (fz ρ) e d) (hp : pur d = true) (hG : DG1 (cn X) ρ g d ρ' js) (k : R.nx ρ') (hs : swapsWithSole [tg] e pos.line X.env = pure false := by rfl) (hw : swappedStores [tg] e X.env = pure none := by rfl)
    (h1 : (assignEach [tg] X.env).map (·.2) = [assign tg X.env] := by rfl) : Do X ρ (.Assign [tg] e pos) R := do_asg (ρ' := fun _ => ρ') (P := fun x => x = d) hg (De1.thaw h fun d' z => by rw [z]; exact hp) (fun d' z => by rw [z]; exact hG) (fun _ _ => k) hs hw h1
/-- an expression whose value is dropped -/
theorem do_expr (h : De X ρ e P) (k : ∀ d, P d → R.nx ρ) (hs : swapsWith e none pos.line X.env = pure false := by rfl) : Do X ρ (.Expr e pos) R := Do.of (ps_expr pe_wp hs) fun B S O σ F H Y D q =>
  h S O σ F H Y.ok _ fun v d F' H' Y' t p e => q.nx ρ S O σ F' H' (k d e) (Y.step t Y')
/-- x op= e -/
theorem do_augI (i : Nat) {x : Str} {p : Pos} {op : Operator} {f : Int → Int → Int} {a b : Int} (hN : X.N.Nodup) (hi : X.N[i]? = some x) (hx : Loc X.env.scope x) (ho : PIp X op (ipI f)) (hρ : ρ[i]? = some (.va (.int a))) (h : Dd X (fz ρ) e (.int b)) (k : R.nx (ρ.set i (.va (.int (f a b))))) (hf : X.fn x = true ∨ X.env.scope.names.lookup x = some .local := by first | exact .inl rfl | exact .inr rfl | assumption) : Do X ρ (.AugAssign (.Name x p) op e pos) R :=
  Do.of (ps_aug hN hi hx pe_wp ho hf) fun B S O σ F H Y D q => by
    obtain ⟨v, h1, h2⟩ := Y.ok.va i _ hρ
    cases h2
    refine ⟨.int a, h1, (De1.thaw h fun d' z => by rw [z]; rfl) S O σ F H Y.ok _ fun v d F' H' Y' t p e => ?_⟩
    subst e; cases p
    exact ⟨a, b, rfl, rfl, q.nx _ S O _ F' H' k ((Y.step t Y').setV i (.int _))⟩
/-- if -/
theorem do_if {Pb : Bool → Prop} (hc : DT X (fz ρ) c Pb) (ht : Pb true → DoB X ρ body R) (hf : Pb false → DoB X ρ orelse R) : Do X ρ (.If c body orelse pos) R := Do.of (ps_if pt_wp pss_wp pss_wp) fun B S O σ F H Y D q =>
  (DT1.thaw hc) S O σ F H Y.ok _ fun b F' H' Y' t p => by
    cases b with
    | true => exact iteT (ht p B S O σ F' H' (Y.step t Y') D q)
    | false => exact iteF (hf p B S O σ F' H' (Y.step t Y') D q)
theorem do_ifD {k : Bool} (hc : DTd X (fz ρ) c k) (ht : k = true → DoB X ρ body R) (hf : k = false → DoB X ρ orelse R) : Do X ρ (.If c body orelse pos) R := do_if hc (fun e => ht e.symm) fun e => hf e.symm
/-- for target in iter: the data walked are fixed; Iv holds between the turns -/
theorem do_for {tg iter : Expr} {g : TG} {Pi : List PyData → Prop} (hp : PassesOwn (model X.prog X.w) X.A X.env X.xe) (hc : X.calm = true) (hi : DI X ρ tg iter Pi) (hg : PG X tg g)
    (hJ : ∀ ds, Pi ds → ∃ Iv : Nat → Slots → Prop, Iv 0 ρ ∧ (∀ (i : Nat) d ρ1, ds[i]? = some d → Iv i ρ1 → ∃ ρ' js, DG1 (cn X) ρ1 g d ρ' js ∧ DoB X ρ' body { nx := Iv (i + 1), ct := Iv (i + 1), bk := R.nx, rv := R.rv, rl := R.rl }) ∧ ∀ ρ1, Iv ds.length ρ1 → R.nx ρ1)
    (hs : ∀ x, foldedSetIterable iter X.env x = pure x := by intro _; rfl) : Do X ρ (.For tg iter body [] pos) R := by
  obtain ⟨wi, hp1, hd⟩ := hi.ex
  refine Do.of (ps_for hp hc hp1 hg pss_wp hs) fun B S O σ F H Y D q => ?_
  refine hd S O σ F H Y.ok _ fun J ds F' H' Y' t hP hw => ?_
  obtain ⟨Iv, h0, turn, done⟩ := hJ ds hP
  have Y1 := Y.step t Y'
  refine ⟨fun i m σ4 H4 => m = ds.length - i ∧ i ≤ ds.length ∧ ∃ ρ4 S4 O4 F4, Iv i ρ4 ∧ SB (cn X) B S4 O4 ρ4 σ4 F4 H4 ∧ Same F' F4, ⟨_, rfl, Nat.zero_le _, ρ, S, O, F', h0, Y1, Same.refl _⟩, ?_⟩
  rintro i m σ4 H4 ⟨rfl, hi, ρ4, S4, O4, F4, iv, Y4, e4⟩
  obtain ⟨w1, w2, w3⟩ := hw i F4 H4 e4 Y4.ok.FH
  by_cases hlt : i < ds.length
  · refine .inr ⟨w1 hlt, fun σ5 H5 => ∃ ρ4 S4 O4 F4, Iv (i + 1) ρ4 ∧ SB (cn X) B S4 O4 ρ4 σ5 F4 H5 ∧ Same F' F4, fun σ5 H5 hN => ⟨ds.length - (i + 1), by omega, rfl, hlt, hN⟩, fun x H5 hy => ?_⟩
    have hd : ds[i]? = some ds[i] := List.getElem?_eq_getElem hlt
    obtain ⟨F5, t5, fh5, p5⟩ := w3 _ hd x H5 hy
    obtain ⟨ρ', js, hG, hB⟩ := turn i _ ρ4 hd iv
    refine hG S4 O4 σ4 F5 H5 x (Y4.ok.go t5 fh5) p5 _ fun σ6 Y6 _ => ?_
    have Y7 := Y4.step t5.of0 Y6
    have B2 : SB (cn X) ⟨F5, B.H0, B.S0⟩ S4 O4 ρ' σ6 F5 H5 := ⟨Y6, ⟨Same.refl _, Y7.tr.hh, fun b e n => e, Y7.tr.ke⟩, Y7.nw, Y7.st⟩
    have back : ∀ {S O ρ σ F H}, SB (cn X) ⟨F5, B.H0, B.S0⟩ S O ρ σ F H → SB (cn X) B S O ρ σ F H ∧ Same F' F := fun {S O ρ σ F H} Z => ⟨⟨Z.ok, ⟨Y7.tr.ff.trans Z.tr.ff, Z.tr.hh, fun b e n => Z.tr.nw b (Y7.tr.nw b e n) n, Z.tr.ke⟩, Z.nw, Z.st⟩, (e4.trans t5.ff).trans Z.tr.ff⟩
    refine hB ⟨F5, B.H0, B.S0⟩ S4 O4 σ6 F5 H5 B2 _ ⟨fun ρ S O σ F H z Z => ?_, fun v d ρ S O σ F H z Z => q.rv v d ρ S O σ F H z (back Z).1, fun p us ds ρ S O σ F H z Z => q.rl p us ds ρ S O σ F H z (back Z).1, fun ρ S O σ F H z Z => q.nx ρ S O σ F H z (back Z).1, fun ρ S O σ F H z Z => ?_⟩
    · exact ⟨ρ, S, O, F, z, (back Z).1, (back Z).2⟩
    · exact ⟨ρ, S, O, F, z, (back Z).1, (back Z).2⟩
  · have e : i = ds.length := by omega
    subst e
    exact .inl ⟨w2 (Nat.le_refl _), q.nx ρ4 S4 O4 σ4 F4 H4 (done ρ4 iv) Y4⟩
/-- while: an invariant with a measure -/
theorem do_while (Iv : Nat → Slots → Prop) (m0 : Nat) (hp : PassesOwn (model X.prog X.w) X.A X.env X.xe) (h0 : Iv m0 ρ) (turn : ∀ m ρ1, Iv m ρ1 → ∃ Pb : Bool → Prop, DT X (fz ρ1) c Pb ∧ (Pb true → DoB X ρ1 body { nx := fun ρ2 => ∃ m', m' < m ∧ Iv m' ρ2, ct := fun ρ2 => ∃ m', m' < m ∧ Iv m' ρ2, bk := R.nx, rv := R.rv, rl := R.rl }) ∧ (Pb false → R.nx ρ1)) : Do X ρ (.While c body [] pos) R := by
  refine Do.of (ps_while hp pt_wp pss_wp) fun B S O σ F H Y D q => ?_
  refine ⟨fun m σ4 H4 => ∃ ρ4 S4 O4 F4, Iv m ρ4 ∧ SB (cn X) B S4 O4 ρ4 σ4 F4 H4, ⟨m0, ρ, S, O, F, h0, Y⟩, ?_⟩
  rintro m σ4 H4 ⟨ρ4, S4, O4, F4, iv, Y4⟩
  obtain ⟨Pb, hc, ht, hf⟩ := turn m ρ4 iv
  refine (DT1.thaw hc) S4 O4 σ4 F4 H4 Y4.ok _ fun b F5 H5 Y5 t5 pb => ?_
  have Y6 := Y4.step t5 Y5
  cases b with
  | true =>
    refine iteT ⟨fun σ H => ∃ ρ4 S4 O4 F4, (∃ m', m' < m ∧ Iv m' ρ4) ∧ SB (cn X) B S4 O4 ρ4 σ F4 H, fun σ7 H7 ⟨ρ7, S7, O7, F7, ⟨m', hm, iv7⟩, Y7⟩ => ⟨m', hm, ρ7, S7, O7, F7, iv7, Y7⟩, ?_⟩
    exact ht pb B S4 O4 σ4 F5 H5 Y6 _ ⟨fun ρ S O σ F H z Z => ⟨ρ, S, O, F, z, Z⟩, q.rv, q.rl, q.nx, fun ρ S O σ F H z Z => ⟨ρ, S, O, F, z, Z⟩⟩
  | false => exact iteF (q.nx ρ4 S4 O4 σ4 F5 H5 (hf pb) Y6)
end
end G
/-! G6: dicts with tuple keys, lists' methods, built-ins, a def's body. -/
namespace G
open PySem PySem.Spec PyProof.Rows L2
/-! ### keys -/
section
variable {X : Cx} {pins : List (Addr × Obj)} {σ : L2.St} {H : Hp} {s : Shared}
mutual
theorem nested_of (I : Inv X pins σ H s) : ∀ (k : NestedKey) (v : V) (u : Value), Dq X.K H v k.data → RelV v u → NestedIs s.heap k u
  | .none, _, _, h, r => by cases h; cases r; exact .none
  | .num i, _, _, h, r => by cases h; obtain ⟨t, rfl⟩ := r; exact .int i t
  | .text x, _, _, h, r => by cases h; obtain ⟨t, rfl⟩ := r; exact .text x t
  | .tup ks, _, _, h, r => by
    cases h with
    | tup a b =>
      cases r
      obtain ⟨its, rv, ⟨o, ho, hc, n, hd⟩, _⟩ := I.tuple a
      exact .tup ho hc hd (by simpa using nested_all I ks _ its b rv)
theorem nested_all (I : Inv X pins σ H s) : ∀ (ks : List NestedKey) (vs : List V) (us : List Value), DqAll X.K H vs (NestedKey.datas ks) → Vals vs us → NestedAll s.heap ks us
  | [], _, _, h, r => by cases h; cases r; exact .nil
  | k :: ks, _, _, h, r => by
    cases h with
    | cons a b =>
      cases r with
      | cons p q => exact .cons (nested_of I k _ _ a p) (nested_all I ks _ _ b q)
end
end
mutual
theorem pur_key : ∀ k : NestedKey, pur k.data = true
  | .none => rfl
  | .num _ => rfl
  | .text _ => rfl
  | .tup ks => pur_keys ks
theorem pur_keys : ∀ ks : List NestedKey, purAll (NestedKey.datas ks) = true
  | [] => rfl
  | k :: ks => by show (pur k.data && purAll (NestedKey.datas ks)) = true; rw [pur_key k, pur_keys ks]; rfl
end
def lookD (kvs : List (NestedKey × PyData)) (k : NestedKey) : Option PyData := (kvs.find? fun p => decide (p.1 = k)).map (·.2)
def putD (kvs : List (NestedKey × PyData)) (k : NestedKey) (d : PyData) : List (NestedKey × PyData) :=
  if (lookD kvs k).isSome then kvs.map (fun p => if p.1 = k then (p.1, d) else p) else kvs ++ [(k, d)]
section
variable {K : Cn} {F : Hp}
/-- an entry's value, on both sides -/
def RelD (K : Cn) (F : Hp) : Option PyData → Option Value → Prop
  | some d, some u => ∃ v, RelV v u ∧ Dq K.K F v d
  | none, none => True
  | _, _ => False
theorem look_rel (k : NestedKey) : ∀ {kvs : List (NestedKey × PyData)} {xs : List (NestedKey × Addr × Value)} {vs : List V}, xs.map (·.1) = kvs.map (·.1) → Vals vs (xs.map (·.2.2)) → DqAll K.K F vs (kvs.map (·.2)) → RelD K F (lookD kvs k) ((atKey xs k).map (·.2))
  | [], [], _, _, _, _ => True.intro
  | [], x :: xs, _, h, _, _ => by cases h
  | p :: kvs, [], _, h, _, _ => by cases h
  | p :: kvs, x :: xs, _, h, r, q => by
    rw [List.map_cons, List.map_cons] at h
    obtain ⟨e1, e2⟩ := List.cons.inj h
    cases r with
    | cons r1 r2 =>
      cases q with
      | cons q1 q2 =>
        have ih := look_rel k e2 r2 q2
        unfold lookD atKey at ih ⊢
        rw [List.find?_cons, List.find?_cons]
        by_cases hk : p.1 = k
        · have hx : x.1 = k := e1.trans hk
          simp only [hk, hx, decide_true]
          exact ⟨_, r1, q1⟩
        · have hx : ¬ x.1 = k := fun z => hk (e1.symm.trans z)
          simp only [hk, hx, decide_false]
          exact ih
theorem relD_some {o : Option PyData} {u : Option Value} (h : RelD K F o u) : o.isSome = u.isSome := by
  cases o <;> cases u <;> first | rfl | exact h.elim
end
/-! ### reading a dict in a slot -/
section
variable {X : Cx} {ρ : Slots} {a e : Expr} {pos : Pos} {x : Str} {p p2 apos : Pos}
/-- what the rules take of the dict in slot j and a key -/
def DxAt (K : Cn) (j : Nat) (σ : L2.St) (H1 : Hp) (y : V) (pd : Addr) (xs : List (NestedKey × Addr × Value)) (k : NestedKey) : Prop :=
  σ[j]? = some (some (.ref pd)) ∧ H1 pd = some (DXo K.w pd xs) ∧ (∃ q, y = .ref q) ∧ Dq K.K H1 y k.data ∧ k.depth ≤ 8 ∧ ∀ x ∈ xs, Dq K.K H1 (.ref x.2.1) x.1.data ∧ x.1.depth ≤ 8
theorem dx_heap {pins : List (Addr × Obj)} {σ : L2.St} {H : Hp} {s : Shared} {pd : Addr} {xs : List (NestedKey × Addr × Value)} (I : Inv X pins σ H s) (h : H pd = some (DXo X.w pd xs)) (hk : ∀ x ∈ xs, Dq X.K H (.ref x.2.1) x.1.data ∧ x.1.depth ≤ 8) :
    s.heap.DictOfH (nestedKind X.prog X.w) pd xs ∧ (pd == sysModules) = false ∧ xs.length ≤ sizeLine := by
  obtain ⟨⟨⟨o, es, ep, h1, h2, h3, h4⟩, h5, h6, h7⟩, _⟩ := (show ObjOk X.prog X.w H s.heap pd (DXo X.w pd xs) from I.hok pd _ h)
  exact ⟨⟨o, es, ep, h1, h2, h3, h4, fun x hx => ⟨nested_of I x.1 _ _ (hk x hx).1 rfl, (hk x hx).2⟩, h5⟩, h6, h7⟩
def tXIn (K : Cn) (neg : Bool) (j : Nat) (ta : TE) : TE := fun σ H Q => ta σ H fun y H1 => ∃ pd xs k, DxAt K j σ H1 y pd xs k ∧ Q (.bl (if neg then !(atKey xs k).isSome else (atKey xs k).isSome)) H1
theorem pcX {neg : Bool} {op : CmpOp} (hop : op = if neg then .NotIn else .In) (hu : X.A.units + 65 < cLine) (j : Nat) {ta : TE} (ha : PE X a ta) (hN : X.N[j]? = some x) (hv : Vis X.env.scope x) (hd : (x == ("__debug__" : Str)) = false := by decide) (hcd : (x == ("__classdict__" : Str)) = false := by decide) : PC X op a (.Name x p) (tXIn (cn X) neg j ta) := by
  refine ⟨fun pins s σ H Q I h => ?_⟩
  refine thn (ha.run pins s σ H _ I h) fun v s1 ⟨y, H1, I1, ry, pd, xs, k, ⟨h1, h2, ⟨q, ey⟩, h4, h5, h6⟩, h7⟩ => ?_
  subst ey
  refine thn ((pe_var (i := j) (pos := p) hN hv hd hcd).run pins s1 σ H1 (fun z H2 => z = .ref pd ∧ H2 = H1) I1 ⟨.ref pd, h1, rfl, rfl⟩) fun u s2 ⟨z, H2, I2, rz, e1, e2⟩ => ?_
  subst e1 e2
  obtain rfl : u = Value.ref pd := rz
  obtain rfl : v = Value.ref q := ry
  obtain ⟨D, hs, hl⟩ := dx_heap I2 h2 h6
  have hu' : (nestedKind X.prog X.w).room X.A.in1 := by show X.A.units + 1 + 8 < cLine; omega
  have hk : (nestedKind X.prog X.w).is s2.heap k q := ⟨nested_of I2 k _ _ h4 rfl, h5⟩
  cases neg with
  | false =>
    subst hop
    refine in_keyed hu' hk hs ⟨xs, D, rfl⟩ ⟨.bl _, H2, I2.tok _, ?_, h7⟩
    rw [valueAt_pairsH, Option.isSome_map]; rfl
  | true =>
    subst hop
    refine notIn_keyed hu' hk hs ⟨xs, D, rfl⟩ ⟨.bl _, H2, I2.tok _, ?_, h7⟩
    rw [valueAt_pairsH, Option.isSome_map]; rfl
/-- the dict of slot j as its own, for a key's value -/
theorem dxAt_of {K : Cn} {S : Sta} {O : Own} {σ : L2.St} {F H : Hp} {j : Nat} {kvs : List (NestedKey × PyData)} {y : V} {k : NestedKey} {q : Addr} (Y : Sok K S O ρ σ F H) (hj : ρ[j]? = some (.ow (.dX kvs))) (p : Dq K.K F y k.data) (hy : y = .ref q) (hk : k.depth ≤ 8) :
    ∃ pd xs, O j = some pd ∧ DxAt K j σ H y pd xs k ∧ RelD K F (lookD kvs k) ((atKey xs k).map (·.2)) := by
  obtain ⟨pd, h1, h2, xs, vs, h3, h4, h5, h6, h7⟩ := Y.ow j _ hj
  exact ⟨pd, xs, h1, ⟨h2, h3, ⟨q, hy⟩, Dq.mono Y.FH _ p, hk, fun x hx => ⟨Dq.mono Y.FH _ (h7 x hx).1, (h7 x hx).2⟩⟩, look_rel k h4 h5 h6⟩
theorem tup_ref {K : PySem.W.Frag} {F : Hp} {v : V} {ks : List NestedKey} (p : Dq K F v (NestedKey.tup ks).data) : ∃ q, v = .ref q := by
  cases p with
  | tup a b => exact ⟨_, rfl⟩
/-- k in d, k not in d -/
theorem dt_dXI {neg : Bool} {op : CmpOp} (hop : op = if neg then .NotIn else .In) (hu : X.A.units + 65 < cLine) (j : Nat) (hN : X.N[j]? = some x) (hv : Vis X.env.scope x) {kvs : List (NestedKey × PyData)} (hj : ρ[j]? = some (.ow (.dX kvs))) {ks : List NestedKey} {d : PyData} (ha : Dd X ρ a d) (hd : d = (NestedKey.tup ks).data) (hk : (NestedKey.tup ks).depth ≤ 8)
    (hdb : (x == ("__debug__" : Str)) = false := by decide) (hcd : (x == ("__classdict__" : Str)) = false := by decide) (hm : behindInMarks op (.Name x p) = false := by rfl) : DTd X ρ (.Compare a [op] [.Name x p] pos) (if neg then !(lookD kvs (.tup ks)).isSome else (lookD kvs (.tup ks)).isSome) :=
  DT.of (pt_cmp (pcX hop hu j pe_wp hN hv hdb hcd) hm) fun S O σ F H s Q q => ha S O σ F H s _ fun v d' F' H' s' t p' e => by
    subst e hd
    obtain ⟨qa, rfl⟩ := tup_ref p'
    obtain ⟨pd, xs, _, h2, h3⟩ := dxAt_of s' hj p' rfl hk
    refine ⟨pd, xs, _, h2, _, rfl, q _ F' H' s' t ?_⟩
    have e := relD_some h3
    rw [Option.isSome_map] at e
    rw [e]
theorem dt_dIn (hu : X.A.units + 65 < cLine) (j : Nat) (hN : X.N[j]? = some x) (hv : Vis X.env.scope x) {kvs : List (NestedKey × PyData)} (hj : ρ[j]? = some (.ow (.dX kvs))) (ks : List NestedKey) {d : PyData} (ha : Dd X ρ a d) (hd : d = (NestedKey.tup ks).data) (hk : (NestedKey.tup ks).depth ≤ 8)
    (hdb : (x == ("__debug__" : Str)) = false := by decide) (hcd : (x == ("__classdict__" : Str)) = false := by decide) (hm : behindInMarks .In (.Name x p) = false := by rfl) : DTd X ρ (.Compare a [.In] [.Name x p] pos) (lookD kvs (.tup ks)).isSome := dt_dXI (neg := false) rfl hu j hN hv hj ha hd hk hdb hcd hm
theorem dt_dNotIn (hu : X.A.units + 65 < cLine) (j : Nat) (hN : X.N[j]? = some x) (hv : Vis X.env.scope x) {kvs : List (NestedKey × PyData)} (hj : ρ[j]? = some (.ow (.dX kvs))) (ks : List NestedKey) {d : PyData} (ha : Dd X ρ a d) (hd : d = (NestedKey.tup ks).data) (hk : (NestedKey.tup ks).depth ≤ 8)
    (hdb : (x == ("__debug__" : Str)) = false := by decide) (hcd : (x == ("__classdict__" : Str)) = false := by decide) (hm : behindInMarks .NotIn (.Name x p) = false := by rfl) : DTd X ρ (.Compare a [.NotIn] [.Name x p] pos) (!(lookD kvs (.tup ks)).isSome) := dt_dXI (neg := true) rfl hu j hN hv hj ha hd hk hdb hcd hm
end
/-! ### writing a dict in a slot -/
section
variable {X : Cx} {ρ : Slots} {R : Out} {a e : Expr} {pos : Pos} {x : Str} {p p2 apos : Pos}
/-- x = {} -/
theorem do_dnew (i : Nat) (hN : X.N.Nodup) (hi : X.N[i]? = some x) (hx : Loc X.env.scope x) (k : R.nx (ρ.set i (.ow (.dX [])))) (hf : X.fn x = true ∨ X.env.scope.names.lookup x = some .local := by first | exact .inl rfl | exact .inr rfl | assumption) (hs : swapsWith (.Dict [] [] p2) (some (.Name x p)) pos.line X.env = pure false := by rfl) : Do X ρ (.Assign [.Name x p] (.Dict [] [] p2) pos) R := by
  have pe : PE X (.Dict [] [] p2) (fun _ H Q => ∀ q, H q = none → Q (.ref q) (upd H q (DXo X.w q []))) := ⟨fun pins s σ H Q I h => by
    refine wpAny_Dict_empty ⟨.ref s.heap.objs.size, _, I.laid (a := s.heap.objs.size) (o := DXo X.w s.heap.objs.size []) (t' := s.toks) (fun _ _ q => Heap.get?_push_of_some _ q) (Nat.le_refl _) ?_, rfl, h _ (I.hok.fresh (Nat.le_refl _))⟩
    have e1 : (s.heap.push { cls := .type "dict", data := .dict #[] }).get? s.heap.objs.size = some { cls := .type "dict", data := .dict #[] } := Heap.get?_push_size _ rfl
    exact ⟨⟨⟨_, #[], 0, e1, ⟨rfl, rfl, rfl⟩, rfl, rfl⟩, List.nodup_nil, beq_eq_false_iff_ne.mpr (Ne.symm (Nat.ne_of_lt I.big)), Nat.zero_le _⟩, ⟨_, e1⟩, fun h1 h2 ⟨⟨o, es, ep, q1, q2⟩, q3⟩ hk => ⟨⟨o, es, ep, hk o q1, q2⟩, q3⟩⟩⟩
  refine Do.of (ps_set hN hi hx pe hs hf) fun B S O σ F H Y D q => fun a ha => ?_
  exact q.nx _ S _ _ F _ k (Y.setO (Tr.newL ha).of0 (Y.ok.newL ha) i (o := .dX []) ha (Y.ok.fnone ha) ⟨[], [], upd_same, rfl, .nil, .nil, fun _ h => nomatch h⟩)
theorem putD_nil {k : NestedKey} {d : PyData} : putD [] k d = [(k, d)] := rfl
/-- both sides of d[k] = v -/
theorem put_rel {K : Cn} {F : Hp} (k : NestedKey) {y : V} {u : Value} {d : PyData} (ry : RelV y u) (pd : Dq K.K F y d) {q : Addr} (hq : Dq K.K F (.ref q) k.data) (hdp : k.depth ≤ 8) {kvs : List (NestedKey × PyData)} {xs : List (NestedKey × Addr × Value)} {vs : List V} (h1 : xs.map (·.1) = kvs.map (·.1)) (h2 : Vals vs (xs.map (·.2.2))) (h3 : DqAll K.K F vs (kvs.map (·.2)))
    (h4 : ∀ x ∈ xs, Dq K.K F (.ref x.2.1) x.1.data ∧ x.1.depth ≤ 8) : ∃ vs', (storedH xs k q u).map (·.1) = (putD kvs k d).map (·.1) ∧ Vals vs' ((storedH xs k q u).map (·.2.2)) ∧ DqAll K.K F vs' ((putD kvs k d).map (·.2)) ∧ ∀ x ∈ storedH xs k q u, Dq K.K F (.ref x.2.1) x.1.data ∧ x.1.depth ≤ 8 := by
  have e := relD_some (look_rel k h1 h2 h3)
  rw [Option.isSome_map] at e
  unfold storedH putD
  rw [e]
  by_cases hs : (atKey xs k).isSome = true
  · rw [if_pos hs, if_pos hs]
    have go : ∀ {kvs : List (NestedKey × PyData)} {xs : List (NestedKey × Addr × Value)} {vs : List V}, xs.map (·.1) = kvs.map (·.1) → Vals vs (xs.map (·.2.2)) → DqAll K.K F vs (kvs.map (·.2)) →
        ∃ vs', (xs.map (putAt k u)).map (·.1) = (kvs.map (fun p => if p.1 = k then (p.1, d) else p)).map (·.1) ∧ Vals vs' ((xs.map (putAt k u)).map (·.2.2)) ∧ DqAll K.K F vs' ((kvs.map (fun p => if p.1 = k then (p.1, d) else p)).map (·.2)) := by
      intro kvs
      induction kvs with
      | nil =>
        intro xs vs e1 e2 e3
        cases xs with
        | nil => exact ⟨[], rfl, .nil, .nil⟩
        | cons x xs => cases e1
      | cons p kvs ih =>
        intro xs vs e1 e2 e3
        cases xs with
        | nil => cases e1
        | cons x xs =>
          rw [List.map_cons, List.map_cons] at e1
          obtain ⟨f1, f2⟩ := List.cons.inj e1
          cases e2 with
          | @cons w0 _ _ _ r1 r2 =>
            cases e3 with
            | cons q1 q2 =>
              obtain ⟨vs', i1, i2, i3⟩ := ih f2 r2 q2
              by_cases hk : p.1 = k
              · have hx : x.1 = k := f1.trans hk
                refine ⟨y :: vs', ?_, ?_, ?_⟩
                · simp only [List.map_cons, putAt, hx, hk, if_true]; rw [i1]
                · simp only [List.map_cons, putAt, hx, if_true]; exact .cons ry i2
                · simp only [List.map_cons, hk, if_true]; exact .cons pd i3
              · have hx : ¬ x.1 = k := fun z => hk (f1.symm.trans z)
                refine ⟨w0 :: vs', ?_, ?_, ?_⟩
                · simp only [List.map_cons, putAt, hx, hk, if_false]; rw [i1, f1]
                · simp only [List.map_cons, putAt, hx, if_false]; exact .cons r1 i2
                · simp only [List.map_cons, hk, if_false]; exact .cons q1 i3
    obtain ⟨vs', g1, g2, g3⟩ := go h1 h2 h3
    refine ⟨vs', g1, g2, g3, fun x hx => ?_⟩
    obtain ⟨x0, hx0, rfl⟩ := List.mem_map.mp hx
    have h0 := h4 x0 hx0
    unfold putAt
    by_cases hk : x0.1 = k
    · rw [if_pos hk]; exact h0
    · rw [if_neg hk]; exact h0
  · rw [if_neg hs, if_neg hs]
    refine ⟨vs ++ [y], ?_, ?_, ?_, fun x hx => ?_⟩
    · rw [List.map_append, List.map_append, h1]; rfl
    · rw [List.map_append]; exact h2.append (.cons ry .nil)
    · rw [List.map_append]; exact h3.append (.one pd)
    · rcases List.mem_append.mp hx with hx | hx
      · exact h4 x hx
      · obtain rfl := List.mem_singleton.mp hx
        exact ⟨hq, hdp⟩
theorem putD_len (kvs : List (NestedKey × PyData)) (k : NestedKey) (d : PyData) : (putD kvs k d).length ≤ kvs.length + 1 := by
  unfold putD
  split
  · rw [List.length_map]; omega
  · rw [List.length_append]; exact Nat.le_refl _
def tXPut (K : Cn) (j : Nat) (ta tv : TE) : TS := fun D σ H => tv σ H fun z H1 => ∃ pd, σ[j]? = some (some (.ref pd)) ∧ ta σ H1 fun y H2 => ∃ xs k q, y = .ref q ∧ DxAt K j σ H2 y pd xs k ∧ xs.length < sizeLine ∧ ∀ u, RelV z u → D.nx σ (upd H2 pd (DXo K.w pd (storedH xs k q u)))
theorem psX (hu : X.A.units + 65 < cLine) (j : Nat) {ta tv : TE} (ha : PE X a ta) (hvl : PE X e tv) (hN : X.N[j]? = some x) (hv : Vis X.env.scope x) (hs : swapsWith e (some (.Subscript (.Name x p) a p2)) pos.line X.env = pure false := by rfl) (hd : (x == ("__debug__" : Str)) = false := by decide) (hcd : (x == ("__classdict__" : Str)) = false := by decide) :
    PS X (.Assign [.Subscript (.Name x p) a p2] e pos) (tXPut (cn X) j ta tv) := by
  refine ⟨fun pins s σ H D I h => ?_⟩
  refine wpAny_Assign_Subscript (thn (hvl.run pins s σ H _ I h) fun r s1 ⟨z, H1, I1, rz, pd, h0, q1⟩ => ?_) hs
  refine thn ((pe_var (i := j) (pos := p) hN hv hd hcd).run pins s1 σ H1 (fun z H2 => z = .ref pd ∧ H2 = H1) I1 ⟨.ref pd, h0, rfl, rfl⟩) fun u s2 ⟨z2, H2, I2, rz2, e1, e2⟩ => ?_
  subst e1 e2
  obtain rfl : u = Value.ref pd := rz2
  refine thn (ha.run pins s2 σ H2 _ I2 q1) fun iv s3 ⟨y, H3, I3, ry, xs, k, q, ey, ⟨g1, g2, g3, g4, g5, g6⟩, hl, g7⟩ => ?_
  subst ey
  obtain rfl : iv = Value.ref q := ry
  obtain ⟨Dd, hsm, hlen⟩ := dx_heap I3 g2 g6
  have hu' : (nestedKind X.prog X.w).room X.A.in1 := by show X.A.units + 1 + 8 < cLine; omega
  refine wpAny_setItem_heap (hsz := hlen) hu' ⟨nested_of I3 k _ _ g4 rfl, g5⟩ Dd fun h' hm' sb => ?_
  obtain ⟨o, es, ep, m1, m2, m3, m4, m5, m6⟩ := hm'
  refine ⟨σ, _, I3.write (t' := s3.toks + (nestedKind X.prog X.w).draws k) (o := DXo X.w pd (storedH xs k q r)) (x := pd) (e := pd) (by rw [g2]; exact True.intro) (.inl rfl) (fun b u hb e => (sb.2 b hb).trans e) ⟨o, m1⟩ ?_, g7 r rz⟩
  refine ⟨⟨⟨o, es, ep, m1, m2, m3, m4⟩, m6, hsm, ?_⟩, ⟨o, m1⟩, fun h1 h2 ⟨⟨o, es, ep, q1, q2⟩, q3⟩ hk => ⟨⟨o, es, ep, hk o q1, q2⟩, q3⟩⟩
  unfold storedH
  split
  · rw [List.length_map]; exact hlen
  · rw [List.length_append]; exact hl
/-- d[k] = v, d in slot j -/
theorem do_dput (j : Nat) {kvs : List (NestedKey × PyData)} {ks : List NestedKey} {d dk : PyData} (hu : X.A.units + 65 < cLine) (hN : X.N[j]? = some x) (hv : Vis X.env.scope x) (hj : ρ[j]? = some (.ow (.dX kvs))) (ha : Dd X (fz ρ) a dk) (hk : dk = (NestedKey.tup ks).data) (hdp : (NestedKey.tup ks).depth ≤ 8) (hvl : Dd X (fz ρ) e d) (hp : pur d = true) (hl : kvs.length ≤ 1000000)
    (k : R.nx (ρ.set j (.ow (.dX (putD kvs (.tup ks) d))))) (hs : swapsWith e (some (.Subscript (.Name x p) a p2)) pos.line X.env = pure false := by rfl) (hd : (x == ("__debug__" : Str)) = false := by decide) (hcd : (x == ("__classdict__" : Str)) = false := by decide) : Do X ρ (.Assign [.Subscript (.Name x p) a p2] e pos) R :=
  Do.of (psX hu j pe_wp pe_wp hN hv hs hd hcd) fun B S O σ F H Y D q => by
    subst hk
    refine (De1.thaw hvl fun d' z => by rw [z]; exact hp) S O σ F H Y.ok _ fun v d' F1 H1 Y1 t1 p1 e1 => ?_
    subst e1
    obtain ⟨pd, o1, o2, xs0, vs0, o3⟩ := Y1.ow j _ hj
    refine ⟨pd, o2, (De1.thaw ha fun d' z => by rw [z]; exact pur_key _) S O σ F1 H1 Y1 _ fun v2 d2 F2 H2 Y2 t2 p2 e2 => ?_⟩
    subst e2
    obtain ⟨qa, rfl⟩ := tup_ref p2
    obtain ⟨pd', h1, h2, xs, vs, h3, h4, h5, h6, h7⟩ := Y2.ow j _ hj
    rw [o1] at h1
    cases h1
    have hxl : xs.length = kvs.length := by have := congrArg List.length h4; simpa using this
    refine ⟨xs, .tup ks, qa, rfl, ⟨h2, h3, ⟨qa, rfl⟩, Dq.mono Y2.FH _ p2, hdp, fun x hx => ⟨Dq.mono Y2.FH _ (h7 x hx).1, (h7 x hx).2⟩⟩, by rw [hxl]; exact Nat.lt_of_le_of_lt hl (by decide), fun u ru => ?_⟩
    obtain ⟨vs', g1, g2, g3, g4⟩ := put_rel (K := cn X) (.tup ks) ru (Dq.mono t2.ff _ p1) p2 hdp h4 h5 h6 h7
    have Y3 := (Y.step t1 Y1).step t2 Y2
    exact q.nx _ S O σ F2 _ k (Y3.mut o1 h2 ⟨_, vs', upd_same, g1, g2, g3, g4⟩)
end
end G
/-! G7: lists' methods, built-ins, a def's body. -/
namespace G
open PySem PySem.Spec PyProof.Rows L2
/-! ### a def's body -/
def slots0 (N : List Str) (ds : List PyData) : Slots := ds.map Sl.va ++ List.replicate (N.length - ds.length) Sl.no
theorem slots0_va {N : List Str} {ds : List PyData} {i : Nat} {s : Sl} (h : (slots0 N ds)[i]? = some s) : s = .no ∨ ∃ d, ds[i]? = some d ∧ s = .va d := by
  unfold slots0 at h
  by_cases hi : i < ds.length
  · rw [List.getElem?_append_left (by simpa using hi), List.getElem?_map] at h
    cases e : ds[i]? with
    | none => rw [e] at h; cases h
    | some d => rw [e] at h; exact .inr ⟨d, rfl, (Option.some.inj h).symm⟩
  · rw [List.getElem?_append_right (by simpa using Nat.le_of_not_lt hi)] at h
    have hm := List.mem_of_getElem? h
    exact .inl (List.eq_of_mem_replicate hm)
section
variable {Pg : Program} {w : World} {K : PySem.W.Frag} {mg : Str → Option Value} {base : Heap}
theorem sok_start {P : Program} {N : List Str} {ds : List PyData} {vs : List V} {F H : Hp} (hn : vs.length ≤ N.length) (p : DqAll K F vs ds) (fh : Same F H) : Sok ⟨P, w, K⟩ none (fun _ => none) (slots0 N ds) (start N vs) F H where
  len := by
    unfold slots0 L2.start
    rw [List.length_append, List.length_append, List.length_map, List.length_map, List.length_replicate, List.length_replicate, p.length]
  va := fun i d h => by
    rcases slots0_va h with e | ⟨d', e, e2⟩
    · cases e
    · cases e2
      obtain ⟨v, h1, h2⟩ := p.get e
      refine ⟨v, ?_, h2⟩
      have hi : i < vs.length := (List.getElem?_eq_some_iff.mp h1).1
      unfold L2.start
      rw [List.getElem?_append_left (by simpa using hi), List.getElem?_map, h1]; rfl
  ow := fun i o h => by
    rcases slots0_va h with e | ⟨d', e, e2⟩
    · cases e
    · cases e2
  oi := fun i a h => by cases h
  stv := fun i h => by
    rcases slots0_va h with e | ⟨d', e, e2⟩
    · cases e
    · cases e2
  sto := fun s c h => by cases h
  FH := fh
theorem fn_V {x qual : Str} {st : Stmt} {f : Addr} {fd : FuncData} {N ps : List Str} {k : Nat} {ι : Type} {args : ι → List PyData} {pre : ι → Prop} {P : ι → PyData → Prop} (F : Fun K x qual st f fd) (S : FnScope N ps (defScope st)) (hl : ∀ i, (args i).length = ps.length) (hn : ps.length ≤ N.length)
    (hb : ∀ i, pre i → ∀ (cdv : Value) (A : Around) (outer : List Env) (s : Shared) (H : Hp) (E : XK), Room k (A.deeper (envOfC qual (defScope st) s.heap.objs.size f cdv)) →
      DoB (cxOf CX0 Pg w K mg base N qual (defScope st) f cdv A outer s H E).nox (slots0 N (args i)) (defBody st) { nx := fun _ => P i .none, rv := P i }) : FnOk Pg w K mg base CX0 (k + 1) f fd ps (spV K args pre P) := by
  refine F.ok S (fun vs H Q E h => ?_) (fun cdv A outer s H vs Q E hr h => ?_)
  · obtain ⟨_, i, _, p, _⟩ := h
    rw [p.length, hl]
  · obtain ⟨F', i, fh, p, hp, q⟩ := h
    refine ⟨_, pss_wp, hb i hp cdv A outer s H E hr ⟨F', H, none⟩ none (fun _ => none) (start N vs) F' H ⟨sok_start (by rw [p.length, hl]; exact hn) p fh, Tr.refl, fun _ _ h => (by cases h), .inl rfl, fun _ s c h => (by cases h)⟩ _ ⟨fun ρ S O σ F2 H2 z Y => q .non .none F2 H2 Y.tr Y.ok.FH .non z, fun v d ρ S O σ F2 H2 z Y pd => q v d F2 H2 Y.tr Y.ok.FH pd z, fun _ _ _ _ _ _ _ _ _ z => z.elim, fun _ _ _ _ _ _ z => z.elim, fun _ _ _ _ _ _ z => z.elim⟩⟩
theorem fn_L {x qual : Str} {st : Stmt} {f : Addr} {fd : FuncData} {N ps : List Str} {k : Nat} {ι : Type} {args : ι → List PyData} {pre : ι → Prop} {P : ι → List PyData → Prop} (F : Fun K x qual st f fd) (S : FnScope N ps (defScope st)) (hl : ∀ i, (args i).length = ps.length) (hn : ps.length ≤ N.length)
    (hb : ∀ i, pre i → ∀ (cdv : Value) (A : Around) (outer : List Env) (s : Shared) (H : Hp) (E : XK), Room k (A.deeper (envOfC qual (defScope st) s.heap.objs.size f cdv)) →
      DoB (cxOf CX0 Pg w K mg base N qual (defScope st) f cdv A outer s H E).nox (slots0 N (args i)) (defBody st) { nx := fun _ => False, rv := fun _ => False, rl := P i }) : FnOk Pg w K mg base CX0 (k + 1) f fd ps (spL K args pre P) := by
  refine F.ok S (fun vs H Q E h => ?_) (fun cdv A outer s H vs Q E hr h => ?_)
  · obtain ⟨_, i, _, p, _⟩ := h
    rw [p.length, hl]
  · obtain ⟨F', i, fh, p, hp, q⟩ := h
    refine ⟨_, pss_wp, hb i hp cdv A outer s H E hr ⟨F', H, none⟩ none (fun _ => none) (start N vs) F' H ⟨sok_start (by rw [p.length, hl]; exact hn) p fh, Tr.refl, fun _ _ h => (by cases h), .inl rfl, fun _ s c h => (by cases h)⟩ _ ⟨fun _ _ _ _ _ _ z => z.elim, fun _ _ _ _ _ _ _ _ z => z.elim, fun p us ds ρ S O σ F2 H2 z Y h1 h2 h3 h4 => q p us ds F2 H2 Y.tr Y.ok.FH h1 h2 h3 h4 z, fun _ _ _ _ _ _ z => z.elim, fun _ _ _ _ _ _ z => z.elim⟩⟩
/-- a def whose first parameter is the law's state -/
def slotsS (N : List Str) (ds : List PyData) : Slots := Sl.st :: (ds.map Sl.va ++ List.replicate (N.length - (ds.length + 1)) Sl.no)
theorem sokS_start {P : Program} {N : List Str} {ds : List PyData} {vs : List V} {F H : Hp} {s c : Addr} (p : DqAll K F vs ds) (fh : Same F H) (so : StObj H s c) (h1 : F s = none) (h2 : F c = none) : Sok ⟨P, w, K⟩ (some (s, c)) (fun _ => none) (slotsS N ds) (start N (.ref s :: vs)) F H where
  len := by
    unfold slotsS L2.start
    simp only [List.length_cons, List.length_append, List.length_map, List.length_replicate, p.length]
    omega
  va := fun i d h => by
    unfold slotsS at h
    cases i with
    | zero => simp at h
    | succ i =>
      rw [List.getElem?_cons_succ] at h
      by_cases hi : i < ds.length
      · rw [List.getElem?_append_left (by simpa using hi), List.getElem?_map] at h
        cases e : ds[i]? with
        | none => rw [e] at h; cases h
        | some d' =>
          rw [e] at h
          cases (Option.some.inj h)
          obtain ⟨v, g1, g2⟩ := p.get e
          refine ⟨v, ?_, g2⟩
          have hi' : i < vs.length := (List.getElem?_eq_some_iff.mp g1).1
          unfold L2.start
          rw [List.map_cons, List.cons_append, List.getElem?_cons_succ, List.getElem?_append_left (by simpa using hi'), List.getElem?_map, g1]; rfl
      · rw [List.getElem?_append_right (by simpa using Nat.le_of_not_lt hi)] at h
        cases List.eq_of_mem_replicate (List.mem_of_getElem? h)
  ow := fun i o h => by
    unfold slotsS at h
    cases i with
    | zero => simp at h
    | succ i =>
      rw [List.getElem?_cons_succ] at h
      rcases List.mem_append.mp (List.mem_of_getElem? h) with z | z
      · obtain ⟨_, _, e⟩ := List.mem_map.mp z; cases e
      · cases List.eq_of_mem_replicate z
  oi := fun i a h => by cases h
  stv := fun i h => by
    unfold slotsS at h
    cases i with
    | zero => exact ⟨s, c, rfl, rfl⟩
    | succ i =>
      rw [List.getElem?_cons_succ] at h
      rcases List.mem_append.mp (List.mem_of_getElem? h) with z | z
      · obtain ⟨_, _, e⟩ := List.mem_map.mp z; cases e
      · cases List.eq_of_mem_replicate z
  sto := fun s' c' h => by cases h; exact ⟨so, h1, h2⟩
  FH := fh
theorem fn_S {x qual : Str} {st : Stmt} {f : Addr} {fd : FuncData} {N ps : List Str} {k : Nat} {ι : Type} {args : ι → List PyData} {pre : ι → Prop} {P : ι → PyData → Prop} (F : Fun K x qual st f fd) (S : FnScope N ps (defScope st)) (hl : ∀ i, (args i).length + 1 = ps.length)
    (hb : ∀ i, pre i → ∀ (cdv : Value) (A : Around) (outer : List Env) (s : Shared) (H : Hp) (E : XK), Room k (A.deeper (envOfC qual (defScope st) s.heap.objs.size f cdv)) →
      DoB (cxOf CX0 Pg w K mg base N qual (defScope st) f cdv A outer s H E).nox (slotsS N (args i)) (defBody st) { nx := fun _ => P i .none, rv := P i }) : FnOk Pg w K mg base CX0 (k + 1) f fd ps (spS K args pre P) := by
  refine F.ok S (fun vs H Q E h => ?_) (fun cdv A outer s H vs Q E hr h => ?_)
  · obtain ⟨_, i, s, c, us, rfl, _, _, _, _, p, _⟩ := h
    rw [List.length_cons, p.length, hl]
  · obtain ⟨F', i, a, c, us, rfl, so, n1, n2, fh, p, hp, q⟩ := h
    refine ⟨_, pss_wp, hb i hp cdv A outer s H E hr ⟨F', H, some (a, c)⟩ (some (a, c)) (fun _ => none) (start N (.ref a :: us)) F' H ⟨sokS_start p fh so n1 n2, Tr.refl, fun _ _ h => (by cases h), .inr rfl, fun h => (by cases h)⟩ _ ⟨fun ρ S O σ F2 H2 z Y => ?_, fun v d ρ S O σ F2 H2 z Y pd => ?_, fun _ _ _ _ _ _ _ _ _ z => z.elim, fun _ _ _ _ _ _ z => z.elim, fun _ _ _ _ _ _ z => z.elim⟩⟩
    · have e : S = some (a, c) := Y.st.1.resolve_left (by intro h; cases h)
      subst e
      obtain ⟨m1, m2, m3⟩ := Y.ok.sto a c rfl
      exact q .non .none F2 H2 Y.tr Y.ok.FH m1 m2 m3 .non z
    · have e : S = some (a, c) := Y.st.1.resolve_left (by intro h; cases h)
      subst e
      obtain ⟨m1, m2, m3⟩ := Y.ok.sto a c rfl
      exact q v d F2 H2 Y.tr Y.ok.FH m1 m2 m3 pd z
theorem fn_SL {x qual : Str} {st : Stmt} {f : Addr} {fd : FuncData} {N ps : List Str} {k : Nat} {ι : Type} {args : ι → List PyData} {pre : ι → Prop} {P : ι → List PyData → Prop} (F : Fun K x qual st f fd) (S : FnScope N ps (defScope st)) (hl : ∀ i, (args i).length + 1 = ps.length)
    (hb : ∀ i, pre i → ∀ (cdv : Value) (A : Around) (outer : List Env) (s : Shared) (H : Hp) (E : XK), Room k (A.deeper (envOfC qual (defScope st) s.heap.objs.size f cdv)) →
      DoB (cxOf CX0 Pg w K mg base N qual (defScope st) f cdv A outer s H E).nox (slotsS N (args i)) (defBody st) { nx := fun _ => False, rv := fun _ => False, rl := P i }) : FnOk Pg w K mg base CX0 (k + 1) f fd ps (spSL K args pre P) := by
  refine F.ok S (fun vs H Q E h => ?_) (fun cdv A outer s H vs Q E hr h => ?_)
  · obtain ⟨_, i, s, c, us, rfl, _, _, _, _, p, _⟩ := h
    rw [List.length_cons, p.length, hl]
  · obtain ⟨F', i, a, c, us, rfl, so, n1, n2, fh, p, hp, q⟩ := h
    refine ⟨_, pss_wp, hb i hp cdv A outer s H E hr ⟨F', H, some (a, c)⟩ (some (a, c)) (fun _ => none) (start N (.ref a :: us)) F' H ⟨sokS_start p fh so n1 n2, Tr.refl, fun _ _ h => (by cases h), .inr rfl, fun h => (by cases h)⟩ _ ⟨fun _ _ _ _ _ _ z => z.elim, fun _ _ _ _ _ _ _ _ z => z.elim, fun p us ds ρ S O σ F2 H2 z Y h1 h2 h3 h4 => ?_, fun _ _ _ _ _ _ z => z.elim, fun _ _ _ _ _ _ z => z.elim⟩⟩
    have e : S = some (a, c) := Y.st.1.resolve_left (by intro h; cases h)
    subst e
    obtain ⟨m1, m2, m3⟩ := Y.ok.sto a c rfl
    exact q p us ds F2 H2 Y.tr Y.ok.FH m1 m2 m3 h1 h2 h3 h4 z
end
/-! ### lists' methods -/
section
variable {X : Cx} {ρ : Slots} {R : Out} {a b e : Expr} {es : List Expr} {pos : Pos} {x : Str} {p p2 apos cpos : Pos} {P P1 P2 : PyData → Prop}
/-- x.append(e), x an own list -/
theorem do_appendM (j : Nat) {ds : List PyData} (hN : X.N[j]? = some x) (hv : Vis X.env.scope x) (hj : ρ[j]? = some (.ow (.lst ds))) (h : De X ρ e P) (hz : ds.length ≤ 1000000) (k : ∀ d, P d → R.nx (ρ.set j (.ow (.lst (ds ++ [d])))))
    (hs : swapsWith (.Call (.Attribute (.Name x p) "append" apos) [e] [] cpos) none pos.line X.env = pure false := by rfl) (hd : (x == ("__debug__" : Str)) = false := by decide) (hcd : (x == ("__classdict__" : Str)) = false := by decide)
    (hbase : attributeBase (.Name x p) "append" X.env (eval (.Name x p) X.env) = eval (.Name x p) X.env := by rfl)
    (hfew : ((backTo cpos (starEach [e] X.env)).all (fun x => !x.1) && (backToKw cpos (keywordEach [] X.env)).all (fun x => x.1.isSome) && decide ([e].length + ([] : List Keyword).length + (if ([] : List Keyword).isEmpty then 0 else 1) < 30)) = true := by rfl)
    (hline : (apos.endLine == cpos.line) = true := by rfl) (hst : starEach [e] X.env = (false, eval e X.env) :: starEach [] X.env := by rfl) (hplain : (backTo cpos (starEach [] X.env)).any (·.1) = false := by rfl) :
    Do X ρ (.Expr (.Call (.Attribute (.Name x p) "append" apos) [e] [] cpos) pos) R :=
  Do.of (ps_expr (pe_bm PySem.F.plainAttrs_list PySem.F.slot_list_append PySem.F.type_list_append mt_append (pe_var hN hv hd hcd) (pa_cons pe_wp pa_nil hst) hbase hfew hline hst hplain) hs) fun B S O σ F H Y D q => by
    obtain ⟨l, o1, o2, us, o3, o4⟩ := Y.ok.ow j _ hj
    refine ⟨.ref l, o2, .inl ⟨rfl, us, .inl (.inl o3)⟩, h S O σ F H Y.ok _ fun v d F' H' Y' t pd e => ?_⟩
    obtain ⟨l', h1, h2, vs, h3, h4⟩ := Y'.ow j _ hj
    rw [o1] at h1
    cases h1
    refine ⟨l, vs, v, rfl, rfl, h3, by rw [h4.length]; exact Nat.lt_of_le_of_lt hz (by decide), ?_⟩
    exact q.nx _ S O σ F' _ (k d e) ((Y.step t Y').mut o1 h2 ⟨_, upd_same, h4.append (.one pd)⟩)
theorem do_appendD (j : Nat) {ds : List PyData} {d : PyData} (hN : X.N[j]? = some x) (hv : Vis X.env.scope x) (hj : ρ[j]? = some (.ow (.lst ds))) (h : Dd X (fz ρ) e d) (hp : pur d = true) (hz : ds.length ≤ 1000000) (k : R.nx (ρ.set j (.ow (.lst (ds ++ [d])))))
    (hs : swapsWith (.Call (.Attribute (.Name x p) "append" apos) [e] [] cpos) none pos.line X.env = pure false := by rfl) (hd : (x == ("__debug__" : Str)) = false := by decide) (hcd : (x == ("__classdict__" : Str)) = false := by decide)
    (hbase : attributeBase (.Name x p) "append" X.env (eval (.Name x p) X.env) = eval (.Name x p) X.env := by rfl)
    (hfew : ((backTo cpos (starEach [e] X.env)).all (fun x => !x.1) && (backToKw cpos (keywordEach [] X.env)).all (fun x => x.1.isSome) && decide ([e].length + ([] : List Keyword).length + (if ([] : List Keyword).isEmpty then 0 else 1) < 30)) = true := by rfl)
    (hline : (apos.endLine == cpos.line) = true := by rfl) (hst : starEach [e] X.env = (false, eval e X.env) :: starEach [] X.env := by rfl) (hplain : (backTo cpos (starEach [] X.env)).any (·.1) = false := by rfl) :
    Do X ρ (.Expr (.Call (.Attribute (.Name x p) "append" apos) [e] [] cpos) pos) R :=
  do_appendM j hN hv hj (De1.thaw h fun d' z => by rw [z]; exact hp) hz (fun d' z => by rw [z]; exact k) hs hd hcd hbase hfew hline hst hplain
/-- list + list: a new list -/
def rCatR : R2 := fun x y H Q => ∃ l b xs zs, x = .ref l ∧ y = .ref b ∧ Rd H l (.lst xs) ∧ Rd H b (.lst zs) ∧ xs.length + zs.length ≤ sizeLine ∧ ∀ p, H p = none → Q (.ref p) (upd H p (.lst (xs ++ zs)))
theorem op_catR : OpR X (binaryOp .Add) rCatR := by
  intro pins s σ H x y v u Q I rx ry h
  obtain ⟨l, b, xs, zs, rfl, rfl, hH, hB, hz, q⟩ := h
  cases rx
  cases ry
  obtain ⟨z, its, n, r, e⟩ := (show ObjOk X.prog X.w H s.heap l (.lst xs) from hH.ok I.hok)
  obtain ⟨z2, its2, n2, r2, e2⟩ := (show ObjOk X.prog X.w H s.heap b (.lst zs) from hB.ok I.hok)
  have hl := r.length
  have hl2 := r2.length
  refine PySem.P.add_list e e2 ?_ (by rw [List.size_toArray, List.size_toArray]; omega)
  have ea : its.toArray ++ its2.toArray = (its ++ its2).toArray := by simp
  rw [ea]
  exact ⟨.ref _, _, I.lnew (t' := s.toks) (r.append r2) (by rw [List.length_append]; omega), rfl, q _ I.fresh⟩
theorem rdl_cat {K : Cn} {ds es : List PyData} {P : List PyData → Prop} (hz : ds.length + es.length ≤ 1000000) (hp : P (ds ++ es)) : RDL K rCatR (.list ds) (.list es) P := fun S O ρ σ F H v1 v2 s p1 p2 Q k => by
  cases p1 with
  | lst a1 b1 =>
    cases p2 with
    | lst a2 b2 =>
      refine ⟨_, _, _, _, rfl, rfl, rd_mono s.FH a1, rd_mono s.FH a2, by rw [b1.length, b2.length]; exact Nat.le_trans hz (by decide), fun p hp' => ?_⟩
      exact k p _ _ F _ (s.newL hp') (Tr.newL hp').of0 hp' (s.fnone hp') upd_same (b1.append b2) hp
theorem dl_cat {ds es : List PyData} (ha : Dd X ρ a (.list ds)) (hb : Dd X ρ b (.list es)) (hz : ds.length + es.length ≤ 1000000) : DLd X ρ (.BinOp a .Add b pos) (ds ++ es) :=
  DL.of (pe_op op_catR pe_wp pe_wp) (DL1.op ha hb fun d1 d2 e1 e2 => by rw [e1, e2]; exact rdl_cat hz rfl)
end
/-! ### built-ins by name -/
section
variable {X : Cx} {ρ : Slots} {a b e : Expr} {es : List Expr} {pos : Pos} {x : Str} {p p2 : Pos} {P P1 P2 : PyData → Prop}
/-- a call of a built-in on data -/
def RC (K : Cn) (r : List V → Hp → VK → Prop) (ds : List PyData) (P : PyData → Prop) : Prop :=
  ∀ (S : Sta) (O : Own) (ρ : Slots) (σ : L2.St) (F H : Hp) (vs : List V), Sok K S O ρ σ F H → DqAll K.K F vs ds → ∀ Q : VK, (∀ v d F' H', Sok K S O ρ σ F' H' → Tr S F H F' H' → Dq K.K F' v d → P d → Q v H') → r vs H Q
def RCL (K : Cn) (r : List V → Hp → VK → Prop) (ds : List PyData) (P : List PyData → Prop) : Prop :=
  ∀ (S : Sta) (O : Own) (ρ : Slots) (σ : L2.St) (F H : Hp) (vs : List V), Sok K S O ρ σ F H → DqAll K.K F vs ds → ∀ Q : VK, (∀ p us ds' F' H', Sok K S O ρ σ F' H' → Tr S F H F' H' → H p = none → F' p = none → H' p = some (.lst us) → DqAll K.K F' us ds' → P ds' → Q (.ref p) H') → r vs H Q
theorem dm_bi {id : String} {r : List V → Hp → VK → Prop} {Pa : List PyData → Prop} (hc : CallR X (.builtin id) r) (hg : Gl X x) (hm : X.mg x = none) (hv : bootBuiltins x = some (.builtin id)) (ha : DA X ρ (e :: es) Pa) (hr : ∀ ds, Pa ds → RC (cn X) r ds P) (hn : x ≠ "__name__" := by decide) (hdb : (x == ("__debug__" : Str)) = false := by decide)
    (he : starEach (e :: es) X.env = (false, eval e X.env) :: starEach es X.env := by rfl) (hpl : (backTo pos (starEach es X.env)).any (·.1) = false := by rfl) : De X ρ (.Call (.Name x p) (e :: es) [] pos) P :=
  De.of (pe_callB hc hg hm hv pa_wp hn hdb he hpl) fun S O σ F H s Q q => ha S O σ F H s _ fun vs ds F' H' s' t p1 q1 => hr ds q1 S O ρ σ F' H' vs s' p1 Q fun v d F2 H2 s2 t2 p2 q2 => q v d F2 H2 s2 (t.trans t2) p2 q2
theorem dl_bi {id : String} {r : List V → Hp → VK → Prop} {Pa : List PyData → Prop} {P : List PyData → Prop} (hc : CallR X (.builtin id) r) (hg : Gl X x) (hm : X.mg x = none) (hv : bootBuiltins x = some (.builtin id)) (ha : DA X ρ (e :: es) Pa) (hr : ∀ ds, Pa ds → RCL (cn X) r ds P) (hn : x ≠ "__name__" := by decide) (hdb : (x == ("__debug__" : Str)) = false := by decide)
    (he : starEach (e :: es) X.env = (false, eval e X.env) :: starEach es X.env := by rfl) (hpl : (backTo pos (starEach es X.env)).any (·.1) = false := by rfl) : DL X ρ (.Call (.Name x p) (e :: es) [] pos) P :=
  DL.of (pe_callB hc hg hm hv pa_wp hn hdb he hpl) fun S O σ F H s Q q => ha S O σ F H s _ fun vs ds F' H' s' t p1 q1 => hr ds q1 S O ρ σ F' H' vs s' p1 Q fun p us ds' F2 H2 s2 t2 h1 h2 h3 h4 h5 => q p us ds' F2 H2 s2 (t.trans t2) (tr_free t h1) h2 h3 h4 h5
theorem dm_ty {T : String} {r : List V → Hp → VK → Prop} {Pa : List PyData → Prop} (hc : CallR X (.type T) r) (hg : Gl X x) (hm : X.mg x = none) (hv : bootBuiltins x = some (.type T)) (ha : DA X ρ (e :: es) Pa) (hr : ∀ ds, Pa ds → RC (cn X) r ds P) (hn : x ≠ "__name__" := by decide) (hdb : (x == ("__debug__" : Str)) = false := by decide)
    (he : starEach (e :: es) X.env = (false, eval e X.env) :: starEach es X.env := by rfl) (hpl : (backTo pos (starEach es X.env)).any (·.1) = false := by rfl) : De X ρ (.Call (.Name x p) (e :: es) [] pos) P :=
  De.of (pe_callTy hc hg hm hv pa_wp hn hdb he hpl) fun S O σ F H s Q q => ha S O σ F H s _ fun vs ds F' H' s' t p1 q1 => hr ds q1 S O ρ σ F' H' vs s' p1 Q fun v d F2 H2 s2 t2 p2 q2 => q v d F2 H2 s2 (t.trans t2) p2 q2
theorem dl_ty {T : String} {r : List V → Hp → VK → Prop} {Pa : List PyData → Prop} {P : List PyData → Prop} (hc : CallR X (.type T) r) (hg : Gl X x) (hm : X.mg x = none) (hv : bootBuiltins x = some (.type T)) (ha : DA X ρ (e :: es) Pa) (hr : ∀ ds, Pa ds → RCL (cn X) r ds P) (hn : x ≠ "__name__" := by decide) (hdb : (x == ("__debug__" : Str)) = false := by decide)
    (he : starEach (e :: es) X.env = (false, eval e X.env) :: starEach es X.env := by rfl) (hpl : (backTo pos (starEach es X.env)).any (·.1) = false := by rfl) : DL X ρ (.Call (.Name x p) (e :: es) [] pos) P :=
  DL.of (pe_callTy hc hg hm hv pa_wp hn hdb he hpl) fun S O σ F H s Q q => ha S O σ F H s _ fun vs ds F' H' s' t p1 q1 => hr ds q1 S O ρ σ F' H' vs s' p1 Q fun p us ds' F2 H2 s2 t2 h1 h2 h3 h4 h5 => q p us ds' F2 H2 s2 (t.trans t2) (tr_free t h1) h2 h3 h4 h5
theorem dq_one {K : PySem.W.Frag} {F : Hp} {vs : List V} {d : PyData} (h : DqAll K F vs [d]) : ∃ v, vs = [v] ∧ Dq K F v d := by
  cases h with
  | cons a b => cases b; exact ⟨_, rfl, a⟩
theorem dq_two {K : PySem.W.Frag} {F : Hp} {vs : List V} {d d2 : PyData} (h : DqAll K F vs [d, d2]) : ∃ v v2, vs = [v, v2] ∧ Dq K F v d ∧ Dq K F v2 d2 := by
  cases h with
  | cons a b => obtain ⟨v, e, h⟩ := dq_one b; subst e; exact ⟨_, _, rfl, a, h⟩
/-- len -/
def lenD : PyData → Option Nat
  | .list ds => some ds.length
  | .tuple ds => some ds.length
  | _ => none
theorem dd_len {d : PyData} {n : Nat} (hg : Gl X "len") (hm : X.mg "len" = none) (ha : Dd X ρ e d) (h : lenD d = some n) (he : starEach [e] X.env = (false, eval e X.env) :: starEach [] X.env := by rfl) (hpl : (backTo pos (starEach [] X.env)).any (·.1) = false := by rfl) : Dd X ρ (.Call (.Name "len" p) [e] [] pos) (.int n) :=
  dm_bi (x := "len") call_len hg hm PySem.boot_len (da_cons ha da_nil he) (fun ds e S O ρ σ F H vs Y pd Q q => by
    subst e
    obtain ⟨v, rfl, pv⟩ := dq_one pd
    refine ⟨v, n, rfl, ?_, q _ _ F H Y Tr.refl (.int _) rfl⟩
    cases pv with
    | lst a b => cases h; exact .inl ⟨_, .inl (rd_mono Y.FH a), b.length.symm⟩
    | tup a b => cases h; exact .inr ⟨_, sqT_mono Y.FH a, b.length.symm⟩
    | non => cases h
    | bl => cases h
    | int => cases h
    | str => cases h) (by decide) (by decide) he hpl
/-- int(n) -/
theorem dm_int (hg : Gl X "int") (hm : X.mg "int" = none) (ha : De X ρ e (fun d => ∃ i, d = .int i ∧ P (.int i))) (he : starEach [e] X.env = (false, eval e X.env) :: starEach [] X.env := by rfl) (hpl : (backTo pos (starEach [] X.env)).any (·.1) = false := by rfl) : De X ρ (.Call (.Name "int" p) [e] [] pos) P :=
  dm_ty (x := "int") call_int1 hg hm (by decide +kernel) (da_consM (t := tNil) ha da_nil (Pz := fun ds => ∃ i, ds = [.int i] ∧ P (.int i)) (fun d ds ⟨i, e1, e2⟩ e3 => ⟨i, by rw [e1, e3], e2⟩) he) (fun ds ⟨i, e, hp⟩ S O ρ σ F H vs Y pd Q q => by
    subst e
    obtain ⟨v, rfl, pv⟩ := dq_one pd
    cases pv
    exact .inl ⟨i, rfl, q _ _ F H Y Tr.refl (.int _) hp⟩) (by decide) (by decide) he hpl
theorem dd_intI {i : Int} (hg : Gl X "int") (hm : X.mg "int" = none) (ha : Dd X ρ e (.int i)) (he : starEach [e] X.env = (false, eval e X.env) :: starEach [] X.env := by rfl) (hpl : (backTo pos (starEach [] X.env)).any (·.1) = false := by rfl) : Dd X ρ (.Call (.Name "int" p) [e] [] pos) (.int i) :=
  dm_int hg hm (ha.imp fun d z => ⟨i, z, rfl⟩) he hpl
theorem dd_intB {i : Bool} (hg : Gl X "int") (hm : X.mg "int" = none) (ha : Dd X ρ e (.bool i)) (he : starEach [e] X.env = (false, eval e X.env) :: starEach [] X.env := by rfl) (hpl : (backTo pos (starEach [] X.env)).any (·.1) = false := by rfl) : Dd X ρ (.Call (.Name "int" p) [e] [] pos) (.int (if i then 1 else 0)) :=
  dm_ty (x := "int") call_int1 hg hm (by decide +kernel) (da_cons ha da_nil he) (fun ds e S O ρ σ F H vs Y pd Q q => by
    subst e
    obtain ⟨v, rfl, pv⟩ := dq_one pd
    cases pv
    exact .inr ⟨i, rfl, q _ _ F H Y Tr.refl (.int _) rfl⟩) (by decide) (by decide) he hpl
/-- abs(n) -/
theorem dd_abs {i : Int} (hg : Gl X "abs") (hm : X.mg "abs" = none) (ha : Dd X ρ e (.int i)) (he : starEach [e] X.env = (false, eval e X.env) :: starEach [] X.env := by rfl) (hpl : (backTo pos (starEach [] X.env)).any (·.1) = false := by rfl) : Dd X ρ (.Call (.Name "abs" p) [e] [] pos) (.int (if i < 0 then -i else i)) :=
  dm_bi (x := "abs") call_abs hg hm (by decide +kernel) (da_cons ha da_nil he) (fun ds e S O ρ σ F H vs Y pd Q q => by
    subst e
    obtain ⟨v, rfl, pv⟩ := dq_one pd
    cases pv
    exact ⟨i, rfl, q _ _ F H Y Tr.refl (.int _) rfl⟩) (by decide) (by decide) he hpl
/-- gcd(a, b), a name of the module for math.gcd -/
theorem dd_gcd {i j : Int} (hg : Gl X x) (hm : X.mg x = some (.builtin "math.gcd")) (ha : Dd X ρ a (.int i)) (hb : Dd X ρ b (.int j)) (hdb : (x == ("__debug__" : Str)) = false := by decide)
    (he : starEach [a, b] X.env = (false, eval a X.env) :: starEach [b] X.env := by rfl) (he2 : starEach [b] X.env = (false, eval b X.env) :: starEach [] X.env := by rfl) (hpl : (backTo pos (starEach [b] X.env)).any (·.1) = false := by rfl) : Dd X ρ (.Call (.Name x p) [a, b] [] pos) (.int (Nat.gcd i.natAbs j.natAbs : Nat)) :=
  De.of (pe_callBfun cr_gcd hg hm pa_wp hdb he hpl) fun S O σ F H s Q q => (da_cons ha (da_cons hb da_nil he2) he) S O σ F H s _ fun vs ds F' H' s' t p1 q1 => by
    subst q1
    obtain ⟨v, v2, rfl, h1, h2⟩ := dq_two p1
    cases h1
    cases h2
    exact ⟨i, j, rfl, q _ _ F' H' s' t (.int _) rfl⟩
/-- tuple(xs): a new tuple (of a tuple: itself) -/
theorem dd_tuple {d : PyData} {ds : List PyData} (hg : Gl X "tuple") (hm : X.mg "tuple" = none) (ha : Dd X ρ e d) (hd : d = .list ds ∨ d = .tuple ds) (he : starEach [e] X.env = (false, eval e X.env) :: starEach [] X.env := by rfl) (hpl : (backTo pos (starEach [] X.env)).any (·.1) = false := by rfl) : Dd X ρ (.Call (.Name "tuple" p) [e] [] pos) (.tuple ds) :=
  dm_ty (x := "tuple") call_tuple_of hg hm (by decide +kernel) (da_cons ha da_nil he) (fun ds' e S O ρ σ F H vs Y pd Q q => by
    subst e
    obtain ⟨v, rfl, pv⟩ := dq_one pd
    rcases hd with rfl | rfl
    · cases pv with
      | lst a b => exact ⟨_, _, rfl, .inl ⟨.inl (rd_mono Y.FH a), fun l hl => q _ _ _ _ (Y.new hl) (Tr.new (Y.fnone hl) hl).of0 (.tup (.of upd_same) (DqAll.mono (same_new (Y.fnone hl)) _ b)) rfl⟩⟩
    · cases pv with
      | tup a b => exact ⟨_, _, rfl, .inr ⟨sqT_mono Y.FH a, q _ _ F H Y Tr.refl (.tup a b) rfl⟩⟩) (by decide) (by decide) he hpl
/-- list(xs): a new list -/
theorem dl_list {d : PyData} {ds : List PyData} (hg : Gl X "list") (hm : X.mg "list" = none) (ha : Dd X ρ e d) (hd : d = .list ds ∨ d = .tuple ds) (he : starEach [e] X.env = (false, eval e X.env) :: starEach [] X.env := by rfl) (hpl : (backTo pos (starEach [] X.env)).any (·.1) = false := by rfl) : DLd X ρ (.Call (.Name "list" p) [e] [] pos) ds :=
  dl_ty (x := "list") call_list_of hg hm (by decide +kernel) (da_cons ha da_nil he) (fun ds' e S O ρ σ F H vs Y pd Q q => by
    subst e
    obtain ⟨v, rfl, pv⟩ := dq_one pd
    rcases hd with rfl | rfl
    · cases pv with
      | lst a b => exact ⟨_, _, rfl, .inl (.inl (rd_mono Y.FH a)), fun l hl => q l _ _ F _ (Y.newL hl) (Tr.newL hl).of0 hl (Y.fnone hl) upd_same b rfl⟩
    · cases pv with
      | tup a b => exact ⟨_, _, rfl, .inr (sqT_mono Y.FH a), fun l hl => q l _ _ F _ (Y.newL hl) (Tr.newL hl).of0 hl (Y.fnone hl) upd_same b rfl⟩) (by decide) (by decide) he hpl
/-- sum(xs) -/
theorem dd_sum {ns : List Int} (hc : X.calm = true) (hg : Gl X "sum") (hm : X.mg "sum" = none) (ha : Dd X ρ e (.list (ns.map .int))) (he : starEach [e] X.env = (false, eval e X.env) :: starEach [] X.env := by rfl) (hpl : (backTo pos (starEach [] X.env)).any (·.1) = false := by rfl) : Dd X ρ (.Call (.Name "sum" p) [e] [] pos) (.int ns.sum) :=
  dm_bi (x := "sum") (cr_sum hc) hg hm (by decide +kernel) (da_cons ha da_nil he) (fun ds e S O ρ σ F H vs Y pd Q q => by
    subst e
    obtain ⟨v, rfl, pv⟩ := dq_one pd
    cases pv with
    | lst a b =>
      obtain rfl := b.ints
      exact ⟨_, ns, rfl, .inl (rd_mono Y.FH a), q _ _ F H Y Tr.refl (.int _) rfl⟩) (by decide) (by decide) he hpl
end
end G
/-! G8: comprehensions told exactly. -/
namespace G
open PySem PySem.Spec PyProof.Rows L2
section
variable {X : Cx} {ρ : Slots} {elt tg iter tg1 iter1 c c1 : Expr} {scope : Scope} {own : List (Str × Nat)} {vs1 : List Nat} {pos : Pos} {g g1 : TG} {α β : Type}
abbrev BG (X : Cx) (scope : Scope) (tg : Expr) (g : TG) : Prop := ∀ (s : Shared) (H : Hp) (C : Addr) (cl : List (Str × Addr)) (fp : List Addr), PG (X.blk s H scope (compEnvC scope cl C X.env) fp) tg g
theorem filter_tt : ∀ xs : List α, xs.filter (fun _ => true) = xs
  | [] => rfl
  | x :: xs => by rw [List.filter_cons, if_pos rfl, filter_tt xs]
/-- [elt for tg in iter] -/
theorem lc_M (xs : List α) (enc : α → PyData) (f : α → PyData) (ρ1 : α → Slots) (js : List Nat) (hc : X.calm = true) (hN : X.N.Nodup) (hi : DI X ρ tg iter (fun x => x = xs.map enc)) (ok : BlkOk X.N X.env.scope scope own) (hz : xs.length ≤ 1000000) (hg : BG X scope tg g)
    (hG : ∀ x ∈ xs, DG1 (cn X) (wipeR ρ (own.map (·.2))) g (enc x) (ρ1 x) js) (hj : ∀ j ∈ js, j ∈ own.map (·.2)) (he : ∀ x ∈ xs, BE X scope (ρ1 x) elt (fun y => y = f x))
    (hs : ∀ x, foldedSetIterable iter X.env x = pure x := by intro _; rfl) : LC X ρ (.ListComp elt [⟨tg, iter, [], 0⟩] scope pos) (fun ds => ds = xs.map f) :=
  (lc_D (ifs := []) xs enc (fun _ => true) f ρ1 js hc hN hi ok (Nat.zero_le _) hz hg hG hj (fun _ _ => (rfl : true = true)) (fun x hx _ => he x hx) hs).imp fun d e => by rw [e, filter_tt]
/-- [elt for tg in iter if c] -/
theorem lc_F (xs : List α) (enc : α → PyData) (b : α → Bool) (f : α → PyData) (ρ1 : α → Slots) (js : List Nat) (hc : X.calm = true) (hN : X.N.Nodup) (hi : DI X ρ tg iter (fun x => x = xs.map enc)) (ok : BlkOk X.N X.env.scope scope own) (hz : xs.length ≤ 1000000) (hg : BG X scope tg g)
    (hG : ∀ x ∈ xs, DG1 (cn X) (wipeR ρ (own.map (·.2))) g (enc x) (ρ1 x) js) (hj : ∀ j ∈ js, j ∈ own.map (·.2)) (ht : ∀ x ∈ xs, ∀ (s : Shared) (H0 : Hp) (C : Addr) (cl : List (Str × Addr)) (fp : List Addr), DT (X.blk s H0 scope (compEnvC scope cl C X.env) fp) (ρ1 x) c (fun k => k = b x)) (he : ∀ x ∈ xs, b x = true → BE X scope (ρ1 x) elt (fun y => y = f x))
    (hs : ∀ x, foldedSetIterable iter X.env x = pure x := by intro _; rfl) : LC X ρ (.ListComp elt [⟨tg, iter, [c], 0⟩] scope pos) (fun ds => ds = (xs.filter b).map f) :=
  lc_D xs enc b f ρ1 js hc hN hi ok (Nat.le_refl _) hz hg hG hj ht he hs
theorem flat_len {f : α → List β} {m : Nat} : ∀ (xs : List α), (∀ x ∈ xs, (f x).length ≤ m) → (xs.flatMap f).length ≤ xs.length * m
  | [], _ => by simp
  | x :: xs, h => by
    rw [List.flatMap_cons, List.length_append, List.length_cons]
    have h1 := h x List.mem_cons_self
    have h2 := flat_len xs fun y hy => h y (List.mem_cons_of_mem _ hy)
    have e : (xs.length + 1) * m = xs.length * m + m := by rw [Nat.add_mul, Nat.one_mul]
    omega
theorem map_flat {γ : Type} (f : β → γ) (g : α → List β) : ∀ xs : List α, (xs.flatMap g).map f = xs.flatMap fun x => (g x).map f
  | [] => rfl
  | x :: xs => by rw [List.flatMap_cons, List.flatMap_cons, List.map_append, map_flat f g xs]
/-- [elt for tg in iter for tg1 in iter1 (if c1)], the inner walk wi1 -/
theorem lc_2 {wi1 : TI} {ifs1 : List Expr} (xs : List α) (enc : α → PyData) (ys : α → List β) (enc1 : α → β → PyData) (b : α → β → Bool) (f : α → β → PyData) (ρ1 : α → Slots) (ρ2 : α → β → Slots) (js js1 : List Nat) (m : Nat) (hc : X.calm = true) (hN : X.N.Nodup) (hi : DI X ρ tg iter (fun x => x = xs.map enc)) (ok : BlkOk X.N X.env.scope scope own) (hv : ∀ i ∈ vs1, i ∈ own.map (·.2)) (hl1 : ifs1.length ≤ 1)
    (hz1 : ∀ x ∈ xs, (ys x).length ≤ m) (hz : xs.length * m ≤ 1000000) (hg : BG X scope tg g) (hg1 : BG X scope tg1 g1)
    (hi1 : ∀ (s : Shared) (H0 : Hp) (C : Addr) (cl : List (Str × Addr)) (fp : List Addr), PI (X.blk s H0 scope (compEnvC scope cl C X.env) fp) tg1 iter1 wi1)
    (hd1 : ∀ x ∈ xs, DI1 (cn X) (ρ1 x) wi1 (fun z => z = (ys x).map (enc1 x)))
    (hG : ∀ x ∈ xs, DG1 (cn X) (wipeR ρ (own.map (·.2))) g (enc x) (ρ1 x) js) (hj : ∀ j ∈ js, j ∈ own.map (·.2))
    (hG1 : ∀ x ∈ xs, ∀ y ∈ ys x, DG1 (cn X) (wipeR (ρ1 x) vs1) g1 (enc1 x y) (ρ2 x y) js1) (hj1 : ∀ j ∈ js1, j ∈ vs1)
    (ht : ∀ x ∈ xs, ∀ y ∈ ys x, BT X scope (ρ2 x y) ifs1 (fun k => k = b x y)) (he : ∀ x ∈ xs, ∀ y ∈ ys x, b x y = true → BE X scope (ρ2 x y) elt (fun z => z = f x y))
    (hs : ∀ x, foldedSetIterable iter X.env x = pure x := by intro _; rfl) (hs1 : ∀ env x, foldedSetIterable iter1 env x = pure x := by intro _ _; rfl) :
    LC X ρ (.ListComp elt [⟨tg, iter, [], 0⟩, ⟨tg1, iter1, ifs1, 0⟩] scope pos) (fun ds => ds = xs.flatMap fun x => ((ys x).filter (b x)).map (f x)) :=
  lc_I2 hc hN hi ok hv (Nat.zero_le _) hl1 hg hg1 hi1 (fun ds e => by
    subst e
    refine ⟨fun i acc => acc = (xs.take i).flatMap fun x => ((ys x).filter (b x)).map (f x), rfl, fun i d acc hd e => ?_, fun acc e => ?_⟩
    · rw [List.getElem?_map] at hd
      cases hx : xs[i]? with
      | none => rw [hx] at hd; cases hd
      | some x =>
        rw [hx] at hd
        obtain rfl : enc x = d := Option.some.inj hd
        have hm : x ∈ xs := List.mem_of_getElem? hx
        have e1 : xs.take (i + 1) = xs.take i ++ [x] := by rw [List.take_add_one, hx]; rfl
        have hacc : acc.length ≤ i * m := by
          rw [e]
          have h1 := flat_len (f := fun x => ((ys x).filter (b x)).map (f x)) (m := m) (xs.take i) fun y hy => by
            rw [List.length_map]; exact Nat.le_trans (List.length_filter_le _ _) (hz1 y (List.mem_of_mem_take hy))
          exact Nat.le_trans h1 (Nat.mul_le_mul_right m (by rw [List.length_take]; exact Nat.min_le_left _ _))
        have hi' : i < xs.length := (List.getElem?_eq_some_iff.mp hx).1
        refine ⟨ρ1 x, js, hG x hm, hj, fun k => k = true, rfl, fun _ => ⟨_, hd1 x hm, fun ds1 e2 => ?_⟩, fun z => by cases z⟩
        subst e2
        refine ⟨fun j acc1 => acc1 = acc ++ (((ys x).take j).filter (b x)).map (f x), by simp, fun j d1 acc1 hd1' ea => ?_, fun acc1 ea => ?_⟩
        · rw [List.getElem?_map] at hd1'
          cases hy : (ys x)[j]? with
          | none => rw [hy] at hd1'; cases hd1'
          | some y =>
            rw [hy] at hd1'
            obtain rfl : enc1 x y = d1 := Option.some.inj hd1'
            have hmy : y ∈ ys x := List.mem_of_getElem? hy
            have ey : (ys x).take (j + 1) = (ys x).take j ++ [y] := by rw [List.take_add_one, hy]; rfl
            have hj' : j < (ys x).length := (List.getElem?_eq_some_iff.mp hy).1
            refine ⟨?_, ρ2 x y, js1, hG1 x hm y hmy, hj1, _, ht x hm y hmy, fun hb => ?_, fun hb => ?_⟩
            · rw [ea, List.length_append, List.length_map]
              have h1 := List.length_filter_le (b x) ((ys x).take j)
              have h2 : ((ys x).take j).length ≤ j := by rw [List.length_take]; exact Nat.min_le_left _ _
              have h3 := hz1 x hm
              have h4 : i * m + m ≤ xs.length * m := by
                have := Nat.mul_le_mul_right m (show i + 1 ≤ xs.length from hi')
                rw [Nat.add_mul, Nat.one_mul] at this
                exact this
              have h5 : (1000000 : Nat) < sizeLine := by decide
              omega
            · intro s H0 C cl fp
              refine (he x hm y hmy hb.symm s H0 C cl fp).imp fun z ez => ?_
              show acc1 ++ [z] = acc ++ List.map (f x) (List.filter (b x) (List.take (j + 1) (ys x)))
              rw [ea, ey, List.filter_append, List.map_append, ez, List.filter_cons, if_pos hb.symm, List.append_assoc]; rfl
            · show acc1 = acc ++ List.map (f x) (List.filter (b x) (List.take (j + 1) (ys x)))
              rw [ea, ey, List.filter_append, List.map_append, List.filter_cons, if_neg (by rw [← hb]; decide)]; simp
        · rw [List.length_map, List.take_length] at ea
          show acc1 = List.flatMap _ (List.take (i + 1) xs)
          rw [ea, e1, List.flatMap_append, e]; simp
    · rw [e, List.length_map, List.take_length]) hs hs1
/-- .. without tests; the inner iterable a tuple -/
theorem lc_M2T (xs : List α) (enc : α → PyData) (ys : α → List β) (enc1 : α → β → PyData) (f : α → β → PyData) (ρ1 : α → Slots) (ρ2 : α → β → Slots) (js js1 : List Nat) (m : Nat) (hc : X.calm = true) (hN : X.N.Nodup) (hi : DI X ρ tg iter (fun x => x = xs.map enc)) (ok : BlkOk X.N X.env.scope scope own) (hv : ∀ i ∈ vs1, i ∈ own.map (·.2))
    (hz1 : ∀ x ∈ xs, (ys x).length ≤ m) (hz : xs.length * m ≤ 1000000) (hg : BG X scope tg g) (hg1 : BG X scope tg1 g1)
    (hd1 : ∀ x ∈ xs, BE X scope (ρ1 x) iter1 (fun z => z = .tuple ((ys x).map (enc1 x))))
    (hG : ∀ x ∈ xs, DG1 (cn X) (wipeR ρ (own.map (·.2))) g (enc x) (ρ1 x) js) (hj : ∀ j ∈ js, j ∈ own.map (·.2))
    (hG1 : ∀ x ∈ xs, ∀ y ∈ ys x, DG1 (cn X) (wipeR (ρ1 x) vs1) g1 (enc1 x y) (ρ2 x y) js1) (hj1 : ∀ j ∈ js1, j ∈ vs1)
    (he : ∀ x ∈ xs, ∀ y ∈ ys x, BE X scope (ρ2 x y) elt (fun z => z = f x y))
    (hs : ∀ x, foldedSetIterable iter X.env x = pure x := by intro _; rfl) (hs1 : ∀ env x, foldedSetIterable iter1 env x = pure x := by intro _ _; rfl) :
    LC X ρ (.ListComp elt [⟨tg, iter, [], 0⟩, ⟨tg1, iter1, [], 0⟩] scope pos) (fun ds => ds = xs.flatMap fun x => (ys x).map (f x)) :=
  (lc_2 (ifs1 := []) xs enc ys enc1 (fun _ _ => true) f ρ1 ρ2 js js1 m hc hN hi ok hv (Nat.zero_le _) hz1 hz hg hg1 (fun s H0 C cl fp => pi_tup (pe_bw s H0 C cl fp)) (fun x hx => di_tup ((hd1 x hx).ok.imp fun d e => ⟨_, e, rfl⟩)) hG hj hG1 hj1 (fun _ _ _ _ => (rfl : true = true)) (fun x hx y hy _ => he x hx y hy) hs hs1).imp fun d e => by rw [e]; simp only [filter_tt]
theorem lc_M2L (xs : List α) (enc : α → PyData) (ys : α → List β) (enc1 : α → β → PyData) (f : α → β → PyData) (ρ1 : α → Slots) (ρ2 : α → β → Slots) (js js1 : List Nat) (m : Nat) (hc : X.calm = true) (hN : X.N.Nodup) (hi : DI X ρ tg iter (fun x => x = xs.map enc)) (ok : BlkOk X.N X.env.scope scope own) (hv : ∀ i ∈ vs1, i ∈ own.map (·.2))
    (hz1 : ∀ x ∈ xs, (ys x).length ≤ m) (hz : xs.length * m ≤ 1000000) (hg : BG X scope tg g) (hg1 : BG X scope tg1 g1)
    (hd1 : ∀ x ∈ xs, BE X scope (ρ1 x) iter1 (fun z => z = .list ((ys x).map (enc1 x))))
    (hG : ∀ x ∈ xs, DG1 (cn X) (wipeR ρ (own.map (·.2))) g (enc x) (ρ1 x) js) (hj : ∀ j ∈ js, j ∈ own.map (·.2))
    (hG1 : ∀ x ∈ xs, ∀ y ∈ ys x, DG1 (cn X) (wipeR (ρ1 x) vs1) g1 (enc1 x y) (ρ2 x y) js1) (hj1 : ∀ j ∈ js1, j ∈ vs1)
    (he : ∀ x ∈ xs, ∀ y ∈ ys x, BE X scope (ρ2 x y) elt (fun z => z = f x y))
    (hs : ∀ x, foldedSetIterable iter X.env x = pure x := by intro _; rfl) (hs1 : ∀ env x, foldedSetIterable iter1 env x = pure x := by intro _ _; rfl) :
    LC X ρ (.ListComp elt [⟨tg, iter, [], 0⟩, ⟨tg1, iter1, [], 0⟩] scope pos) (fun ds => ds = xs.flatMap fun x => (ys x).map (f x)) :=
  (lc_2 (ifs1 := []) xs enc ys enc1 (fun _ _ => true) f ρ1 ρ2 js js1 m hc hN hi ok hv (Nat.zero_le _) hz1 hz hg hg1 (fun s H0 C cl fp => pi_list (pe_bw s H0 C cl fp)) (fun x hx => di_list ((hd1 x hx).ok.imp fun d e => ⟨_, e, rfl⟩)) hG hj hG1 hj1 (fun _ _ _ _ => (rfl : true = true)) (fun x hx y hy _ => he x hx y hy) hs hs1).imp fun d e => by rw [e]; simp only [filter_tt]
end
/-! ### sorted of tuples of ints -/
def tupI (ns : List Int) : PyData := .tuple (ns.map .int)
section
variable {X : Cx} {ρ : Slots} {a b e : Expr} {pos p p2 pos2 : Pos}
theorem dq_tupI {K : PySem.W.Frag} {F : Hp} {v : V} {ns : List Int} (h : Dq K F v (tupI ns)) : TupI K F v ns := by
  cases h with
  | tup a b =>
    obtain rfl := b.ints
    exact ⟨_, rfl, a⟩
/-- what stands there is told by it -/
theorem tupI_inj {K : PySem.W.Frag} {F : Hp} {v : V} {ns ms : List Int} (h : TupI K F v ns) (h2 : Dq K F v (tupI ms)) : ∃ t, v = .ref t ∧ SqT K F t (ns.map V.int) ∧ SqT K F t (ms.map V.int) := by
  obtain ⟨t, rfl, h⟩ := h
  obtain ⟨t2, e, h2⟩ := dq_tupI h2
  cases e
  exact ⟨t, rfl, h, h2⟩
/-- a list and its data, turned about together -/
theorem perm_data {K : PySem.W.Frag} {F : Hp} : ∀ {vs ys : List V} {ds : List PyData}, ys.Perm vs → DqAll K F vs ds → ∃ es, es.Perm ds ∧ DqAll K F ys es := by
  intro vs ys ds hp
  induction hp generalizing ds with
  | nil => intro h; exact ⟨ds, .refl _, h⟩
  | @cons x l1 l2 hp ih =>
    intro h
    cases h with
    | cons a b =>
      obtain ⟨es, e1, e2⟩ := ih b
      exact ⟨_, .cons _ e1, .cons a e2⟩
  | swap x y l =>
    intro h
    cases h with
    | cons a b =>
      cases b with
      | cons a2 b2 => exact ⟨_, .swap _ _ _, .cons a2 (.cons a b2)⟩
  | trans p1 p2 ih1 ih2 =>
    intro h
    obtain ⟨es, e1, e2⟩ := ih2 h
    obtain ⟨fs, f1, f2⟩ := ih1 e2
    exact ⟨fs, f1.trans e1, f2⟩
theorem perm_map_inv {α β : Type} {f : α → β} : ∀ {xs : List α} {ys : List β}, ys.Perm (xs.map f) → ∃ zs : List α, zs.Perm xs ∧ ys = zs.map f := by
  intro xs ys h
  have : ∀ {l1 l2 : List β}, l1.Perm l2 → ∀ xs : List α, l2 = xs.map f → ∃ zs : List α, zs.Perm xs ∧ l1 = zs.map f := by
    intro l1 l2 hp
    induction hp with
    | nil => intro xs e; cases xs with
      | nil => exact ⟨[], .refl _, rfl⟩
      | cons x xs => cases e
    | @cons x l1 l2 hp ih =>
      intro xs e
      cases xs with
      | nil => cases e
      | cons z xs =>
        rw [List.map_cons] at e
        obtain ⟨e1, e2⟩ := List.cons.inj e
        obtain ⟨zs, g1, g2⟩ := ih xs e2
        exact ⟨z :: zs, .cons _ g1, by rw [List.map_cons, ← e1, g2]⟩
    | swap x y l =>
      intro xs e
      cases xs with
      | nil => cases e
      | cons z xs =>
        cases xs with
        | nil => simp at e
        | cons z2 xs =>
          rw [List.map_cons, List.map_cons] at e
          obtain ⟨e1, e2⟩ := List.cons.inj e
          obtain ⟨e3, e4⟩ := List.cons.inj e2
          exact ⟨z2 :: z :: xs, .swap _ _ _, by rw [List.map_cons, List.map_cons, ← e1, ← e3, ← e4]⟩
    | trans p1 p2 ih1 ih2 =>
      intro xs e
      obtain ⟨zs, g1, g2⟩ := ih2 xs e
      obtain ⟨ws, f1, f2⟩ := ih1 zs g2
      exact ⟨ws, f1.trans g1, f2⟩
  exact this h xs rfl
/-- sorted(xs): fewer than 64 tuples of d ints from 0 on, below B -/
theorem dl_sortT {d : Nat} {Bn : Int} {nss : List (List Int)} (hd : 1 ≤ d) (hg : Gl X "sorted") (hm : X.mg "sorted" = none) (ha : Dd X ρ e (.list (nss.map tupI))) (h64 : nss.length < 64) (hB : ∀ ns ∈ nss, ns.length = d ∧ TS.Bd Bn ns)
    (he : starEach [e] X.env = (false, eval e X.env) :: starEach [] X.env := by rfl) (hpl : (backTo pos (starEach [] X.env)).any (·.1) = false := by rfl) : DL X ρ (.Call (.Name "sorted" p) [e] [] pos) (fun ds => ∃ mss : List (List Int), ds = mss.map tupI ∧ mss.Perm nss ∧ mss.Pairwise fun x y => TS.code Bn x ≤ TS.code Bn y) :=
  dl_bi (x := "sorted") (cr_sortT (d := d) (B := Bn) hd) hg hm (by decide +kernel) (da_cons ha da_nil he) (fun ds' e S O ρ σ F H vs Y pd Q q => by
    subst e
    obtain ⟨v, rfl, pv⟩ := dq_one pd
    cases pv with
    | @lst _ xs _ a b =>
      have hl := b.length
      rw [List.length_map] at hl
      refine ⟨_, xs, rfl, .inl (rd_mono Y.FH a), by rw [hl]; exact h64, fun x hx => ?_, fun ys p hp pw hn => ?_⟩
      · obtain ⟨i, hi⟩ := List.mem_iff_getElem?.mp hx
        obtain ⟨dd, h1, h2⟩ := b.getV hi
        rw [List.getElem?_map] at h1
        cases hn : nss[i]? with
        | none => rw [hn] at h1; cases h1
        | some ns =>
          rw [hn] at h1
          obtain rfl : tupI ns = dd := Option.some.inj h1
          obtain ⟨g1, g2⟩ := hB ns (List.mem_of_getElem? hn)
          exact ⟨ns, dq_tupI (Dq.mono Y.FH _ h2), g1, g2⟩
      · obtain ⟨es, e1, e2⟩ := perm_data hp b
        obtain ⟨mss, m1, m2⟩ := perm_map_inv e1
        subst m2
        refine q p ys _ F _ (Y.newL hn) (Tr.newL hn).of0 hn (Y.fnone hn) upd_same e2 ⟨mss, rfl, m1, ?_⟩
        rw [List.pairwise_iff_getElem] at pw ⊢
        intro i j hi hj hij
        have e3 := e2.length
        rw [List.length_map] at e3
        have hiy : i < ys.length := by omega
        have hjy : j < ys.length := by omega
        obtain ⟨v1, a1, a2⟩ := e2.get (i := i) (d := tupI mss[i]) (by rw [List.getElem?_map, List.getElem?_eq_getElem hi]; rfl)
        obtain ⟨v2, b1, b2⟩ := e2.get (i := j) (d := tupI mss[j]) (by rw [List.getElem?_map, List.getElem?_eq_getElem hj]; rfl)
        have c1 : ys[i] = v1 := Option.some.inj ((List.getElem?_eq_getElem hiy).symm.trans a1)
        have c2 : ys[j] = v2 := Option.some.inj ((List.getElem?_eq_getElem hjy).symm.trans b1)
        have := pw i j hiy hjy hij mss[i] mss[j]
        rw [c1, c2] at this
        exact this (dq_tupI (Dq.mono Y.FH _ a2)) (dq_tupI (Dq.mono Y.FH _ b2))) (by decide) (by decide) he hpl
end
end G
/-! G9: sorted(set(..)), isinstance. -/
namespace G
open PySem PySem.Spec PyProof.Rows L2
section
variable {X : Cx} {ρ : Slots} {a b e : Expr} {pos p p2 p3 p4 pos2 : Pos}
theorem keyed_of {K : PySem.W.Frag} {F : Hp} : ∀ {nss : List (List Int)} {vs : List V}, DqAll K F vs (nss.map tupI) → ∃ ks : List (Addr × List Int), vs = ks.map (fun p => V.ref p.1) ∧ ks.map (·.2) = nss ∧ ∀ p ∈ ks, SqT K F p.1 (p.2.map V.int)
  | [], _, h => by cases h; exact ⟨[], rfl, rfl, fun _ h => nomatch h⟩
  | ns :: nss, _, h => by
    cases h with
    | cons a b =>
      obtain ⟨ks, e1, e2, e3⟩ := keyed_of b
      obtain ⟨t, rfl, ht⟩ := dq_tupI a
      exact ⟨(t, ns) :: ks, by rw [e1]; rfl, by rw [List.map_cons, e2], fun p hp => by
        rcases List.mem_cons.mp hp with rfl | hp
        · exact ht
        · exact e3 p hp⟩
theorem data_of {K : PySem.W.Frag} {F : Hp} : ∀ {ks : List (Addr × List Int)}, (∀ p ∈ ks, SqT K F p.1 (p.2.map V.int)) → DqAll K F (ks.map fun p => V.ref p.1) ((ks.map (·.2)).map tupI)
  | [], _ => .nil
  | p :: ks, h => .cons (.tup (h p List.mem_cons_self) (DqAll.ofInts p.2)) (data_of fun q hq => h q (List.mem_cons_of_mem _ hq))
/-- sorted(set(xs)): fewer than 64 tuples of d ints from 0 on, below B -/
theorem dl_sortSet {d : Nat} {Bn : Int} {nss : List (List Int)} (hc : X.calm = true) (hu : X.A.units + 65 < cLine) (hd : 1 ≤ d) (hg : Gl X "sorted") (hm : X.mg "sorted" = none) (hg2 : Gl X "set") (hm2 : X.mg "set" = none) (ha : Dd X ρ e (.list (nss.map tupI))) (h64 : nss.length < 64) (hB : ∀ ns ∈ nss, ns.length = d ∧ TS.Bd Bn ns)
    (he : starEach [e] X.env = (false, eval e X.env) :: starEach [] X.env := by rfl) (hpl : (backTo p4 (starEach [] X.env)).any (·.1) = false := by rfl)
    (he1 : starEach [.Call (.Name "set" p2) [e] [] p4] X.env = (false, eval (.Call (.Name "set" p2) [e] [] p4) X.env) :: starEach [] X.env := by rfl) (hpl1 : (backTo pos (starEach [] X.env)).any (·.1) = false := by rfl) : DL X ρ (.Call (.Name "sorted" p) [.Call (.Name "set" p2) [e] [] p4] [] pos) (fun ds => ∃ mss : List (List Int), ds = mss.map tupI ∧ mss.Nodup ∧ (∀ ns, ns ∈ mss ↔ ns ∈ nss) ∧ mss.Pairwise fun x y => TS.code Bn x ≤ TS.code Bn y) :=
  DL.of (pe_callB (x := "sorted") (cr_sortedT hc) hg hm (by decide +kernel) (pa_cons (pe_callTy (x := "set") (cr_setOfT hc (Nat.lt_of_succ_lt hu)) hg2 hm2 (by decide +kernel) pa_wp (by decide) (by decide) he hpl) pa_nil he1) (by decide) (by decide) he1 hpl1) fun S O σ F H Y Q q => by
    refine (da_cons ha da_nil he) S O σ F H Y _ fun vs ds' F' H' Y' t pd e => ?_
    subst e
    obtain ⟨v, rfl, pv⟩ := dq_one pd
    cases pv with
    | @lst l xs _ a b =>
      obtain ⟨ks, rfl, e2, hk⟩ := keyed_of b
      subst e2
      rw [List.length_map] at h64
      refine ⟨l, ks, rfl, .inl (rd_mono Y'.FH a), fun p hp => sqT_mono Y'.FH (hk p hp), h64, fun sa L hsa hL1 hL2 => ?_⟩
      have Y2 := Y'.newL (o := SetTO X.prog X.w sa L) hsa
      have t2 : Tr none F' H' F' (upd H' sa (SetTO X.prog X.w sa L)) := Tr.newL hsa
      refine ⟨sa, L, d, Bn, rfl, upd_same, fun p hp => sqT_mono Y2.FH (hk p (hL1 p hp)), hd, fun p hp => hB p.2 (List.mem_map.mpr ⟨p, hL1 p hp, rfl⟩), fun L' pl pm nd _ pw hpl => ?_⟩
      have Y3 := Y2.newL (o := .lst (L'.map fun q => V.ref q.1)) hpl
      have t3 : Tr none F' (upd H' sa (SetTO X.prog X.w sa L)) F' _ := Tr.newL (o := .lst (L'.map fun q => V.ref q.1)) hpl
      have hk' : ∀ p ∈ L', SqT X.K F' p.1 (p.2.map V.int) := fun p hp => hk p (hL1 p (pm.mem_iff.mp hp))
      refine q pl _ _ F' _ Y3 ((t.trans t2.of0).trans t3.of0) (tr_free t (tr_free t2 hpl)) (Y'.fnone (tr_free t2 hpl)) upd_same (data_of hk') ⟨L'.map (·.2), rfl, nd, fun ns => ⟨fun h => ?_, fun h => ?_⟩, ?_⟩
      · obtain ⟨p, hp, rfl⟩ := List.mem_map.mp h
        exact List.mem_map.mpr ⟨p, hL1 p (pm.mem_iff.mp hp), rfl⟩
      · obtain ⟨p, hp, rfl⟩ := List.mem_map.mp h
        exact (pm.map (·.2)).mem_iff.mpr (hL2 p hp)
      · rw [List.pairwise_map]; exact pw
/-- the type's name -/
def tyName : PyData → String
  | .none => "NoneType"
  | .bool _ => "bool"
  | .int _ => "int"
  | .str _ => "str"
  | .list _ => "list"
  | .tuple _ => "tuple"
  | .dict _ => "dict"
theorem tyX_of {K : PySem.W.Frag} {F H : Hp} {v : V} {d : PyData} (h : Dq K F v d) (e : Same F H) : TyX K H v (.type (tyName d)) := by
  cases h with
  | non => exact .base .non
  | bl b => exact .base (.bl b)
  | int i => exact .base (.int i)
  | str x => exact .base (.str x)
  | lst a b =>
    rcases rd_mono e a with h | ⟨o, h⟩
    · exact .base (.lst h)
    · exact .base (.frz h)
  | tup a b =>
    rcases sqT_mono e a with (h | ⟨o, h⟩) | ⟨o, its, n, h1, h2, h3⟩
    · exact .base (.tup h)
    · exact .fTuple h
    · exact .kTuple h1 h2
/-- isinstance(e, T), T a built-in class -/
theorem dd_isi {T : Str} {tn : String} {d : PyData} {r : Bool} (hg : Gl X "isinstance") (hm : X.mg "isinstance" = none) (hgT : Gl X T) (hmT : X.mg T = none) (hvT : bootBuiltins T = some (.type tn)) (ha : Dd X ρ e d) (hr : kitB (tyName d) tn = some r) (hnT : T ≠ "__name__" := by decide) (hdT : (T == ("__debug__" : Str)) = false := by decide)
    (he : starEach [e, .Name T p2] X.env = (false, eval e X.env) :: starEach [.Name T p2] X.env := by rfl) (he2 : starEach [.Name T p2] X.env = (false, eval (.Name T p2) X.env) :: starEach [] X.env := by rfl) (hpl : (backTo pos (starEach [.Name T p2] X.env)).any (·.1) = false := by rfl) : Dd X ρ (.Call (.Name "isinstance" p) [e, .Name T p2] [] pos) (.bool r) :=
  De.of (pe_callB (x := "isinstance") call_isi hg hm (by decide +kernel) (pa_cons pe_wp (pa_cons (pe_bltn (v := .ty tn) hgT hmT hvT rfl hnT hdT) pa_nil he2) he) (by decide) (by decide) he hpl) fun S O σ F H Y Q q => ha S O σ F H Y _ fun v d' F' H' Y' t pv e => by
    subst e
    exact ⟨v, .ty tn, _, _, r, rfl, .ty tn, tyX_of pv Y'.FH, kit_ty hr, q _ _ F' H' Y' t (.bl r) rfl⟩
/-- e is None -/
theorem dt_isN {d : PyData} {j : Nat} (ha : Dd X ρ e d) : DTd X ρ (.Compare e [.Is] [.Constant .none j p] pos) (match d with | .none => true | _ => false) :=
  DT.of (pt_cmp (pc_isN pe_wp) rfl) fun S O σ F H Y Q q => ha S O σ F H Y _ fun v d' F' H' Y' t pv e => by
    subst e
    refine ⟨_, rfl, q _ F' H' Y' t ?_⟩
    cases pv <;> rfl
theorem dd_isN {d : PyData} {j : Nat} (ha : Dd X ρ e d) : Dd X ρ (.Compare e [.Is] [.Constant .none j p] pos) (.bool (match d with | .none => true | _ => false)) :=
  De.of (pe_cmp (pc_isN pe_wp) rfl) fun S O σ F H Y Q q => ha S O σ F H Y _ fun v d' F' H' Y' t pv e => by
    subst e
    refine q _ _ F' H' Y' t (.bl _) ?_
    cases pv <;> rfl
theorem dt_isNot {d : PyData} {j : Nat} (ha : Dd X ρ e d) : DTd X ρ (.Compare e [.IsNot] [.Constant .none j p] pos) (match d with | .none => false | _ => true) :=
  DT.of (pt_cmp (pc_notN pe_wp) rfl) fun S O σ F H Y Q q => ha S O σ F H Y _ fun v d' F' H' Y' t pv e => by
    subst e
    refine ⟨_, rfl, q _ F' H' Y' t ?_⟩
    cases pv <;> rfl
end
end G
namespace G
open PySem PySem.Spec PyProof.Rows L2
theorem hu_r {A : Around} {k : Nat} (hr : Room k A) : A.units + 65 < cLine := by have := hr.un; omega
section
variable {X : Cx} {ρ : Slots} {a b e : Expr} {pos : Pos}
theorem dd_lt {i j : Int} (ha : Dd X ρ a (.int i)) (hb : Dd X ρ b (.int j)) : Dd X ρ (.Compare a [.Lt] [b] pos) (.bool (decide (i < j))) := dd_cmp op_lt ha hb (rd_B0 rfl) (nomark _)
theorem dd_le {i j : Int} (ha : Dd X ρ a (.int i)) (hb : Dd X ρ b (.int j)) : Dd X ρ (.Compare a [.LtE] [b] pos) (.bool (decide (i ≤ j))) := dd_cmp op_le ha hb (rd_B0 rfl) (nomark _)
theorem dd_gt {i j : Int} (ha : Dd X ρ a (.int i)) (hb : Dd X ρ b (.int j)) : Dd X ρ (.Compare a [.Gt] [b] pos) (.bool (decide (j < i))) := dd_cmp op_gt ha hb (rd_B0 rfl) (nomark _)
theorem dd_ge {i j : Int} (ha : Dd X ρ a (.int i)) (hb : Dd X ρ b (.int j)) : Dd X ρ (.Compare a [.GtE] [b] pos) (.bool (decide (j ≤ i))) := dd_cmp op_ge ha hb (rd_B0 rfl) (nomark _)
theorem dd_eqI {i j : Int} (hu : X.A.units + 65 < cLine) (ha : Dd X ρ a (.int i)) (hb : Dd X ρ b (.int j)) : Dd X ρ (.Compare a [.Eq] [b] pos) (.bool (i == j)) := dd_eq hu ha hb rfl rfl
theorem dd_neI {i j : Int} (hu : X.A.units + 65 < cLine) (ha : Dd X ρ a (.int i)) (hb : Dd X ρ b (.int j)) : Dd X ρ (.Compare a [.NotEq] [b] pos) (.bool (!(i == j))) := dd_ne hu ha hb rfl rfl
end
theorem mulB {i j : Int} (a : i.natAbs < 2 ^ 64) (b : j.natAbs < 2 ^ 64) : CMulW i j := wide_mul (a := 64) (b := 64) a b (by decide) (by decide) (by decide)
theorem divB {i j : Int} (a : 0 < j) (b : j.natAbs < 2 ^ 64) : CDivW i j := wide_div (b := 64) a b (by decide) (by decide)
end G
/-! G10: loops that fold. -/
namespace G
open PySem PySem.Spec PyProof.Rows L2
/-- ρ' knows no more than ρ -/
def Fits : Slots → Slots → Prop
  | [], [] => True
  | s :: ρ, s' :: ρ' => (s' = .no ∨ s' = s) ∧ Fits ρ ρ'
  | _, _ => False
theorem Fits.refl : ∀ ρ : Slots, Fits ρ ρ
  | [] => True.intro
  | s :: ρ => ⟨.inr rfl, Fits.refl ρ⟩
theorem Fits.len : ∀ {ρ ρ' : Slots}, Fits ρ ρ' → ρ'.length = ρ.length
  | [], [], _ => rfl
  | s :: ρ, s' :: ρ', h => by rw [List.length_cons, List.length_cons, Fits.len h.2]
  | [], _ :: _, h => h.elim
  | _ :: _, [], h => h.elim
theorem Fits.get : ∀ {ρ ρ' : Slots}, Fits ρ ρ' → ∀ (i : Nat) (s : Sl), ρ'[i]? = some s → s = .no ∨ ρ[i]? = some s
  | [], [], _, i, s, e => by simp at e
  | s0 :: ρ, s' :: ρ', h, 0, s, e => by
    have e' : s' = s := by simpa using e
    subst e'
    rcases h.1 with z | z
    · exact .inl z
    · exact .inr (by rw [z]; rfl)
  | s0 :: ρ, s' :: ρ', h, i + 1, s, e => by
    rw [List.getElem?_cons_succ] at e ⊢
    exact Fits.get h.2 i s e
  | [], _ :: _, h, _, _, _ => h.elim
  | _ :: _, [], h, _, _, _ => h.elim
section
variable {X : Cx} {ρ ρ' : Slots} {R : Out} {body : List Stmt} {tg iter : Expr} {g : TG} {pos : Pos} {α T : Type}
theorem do_fit {t : TS} (h : Fits ρ ρ') (k : Do1 (cn X) ρ' t R) : Do1 (cn X) ρ t R := do_weak h.len h.get k
theorem DG1.fit {K : Cn} {d : PyData} {ρ2 : Slots} {js : List Nat} (h : Fits ρ ρ') (k : DG1 K ρ' g d ρ2 js) : DG1 K ρ g d ρ2 js := fun S O σ F H v Y p Q q => k S O σ F H v (Y.weak h.len h.get) p Q q
/-- a loop that folds f over xs; V: the slots between the turns -/
theorem do_fold (xs : List α) (enc : α → PyData) (s0 : T) (f : T → α → T) (V : T → Slots) (hp : PassesOwn (model X.prog X.w) X.A X.env X.xe) (hc : X.calm = true) (hi : DI X ρ tg iter (fun x => x = xs.map enc)) (hg : PG X tg g)
    (h0 : Fits ρ (V s0))
    (turn : ∀ (i : Nat) x s, xs[i]? = some x → s = (xs.take i).foldl f s0 → ∃ ρ' js, DG1 (cn X) (V s) g (enc x) ρ' js ∧ DoB X ρ' body { nx := fun ρ2 => Fits ρ2 (V (f s x)), ct := fun ρ2 => Fits ρ2 (V (f s x)), bk := fun _ => False, rv := R.rv, rl := R.rl })
    (done : R.nx (V (xs.foldl f s0)))
    (hnx : ∀ ρ2 ρ3, Fits ρ2 ρ3 → R.nx ρ3 → R.nx ρ2)
    (hs : ∀ x, foldedSetIterable iter X.env x = pure x := by intro _; rfl) : Do X ρ (.For tg iter body [] pos) R :=
  do_for hp hc hi hg (fun ds e => by
    subst e
    refine ⟨fun i ρ1 => Fits ρ1 (V ((xs.take i).foldl f s0)), h0, fun i d ρ1 hd iv => ?_, fun ρ1 iv => ?_⟩
    · rw [List.getElem?_map] at hd
      cases hx : xs[i]? with
      | none => rw [hx] at hd; cases hd
      | some x =>
        rw [hx] at hd
        obtain rfl : enc x = d := Option.some.inj hd
        obtain ⟨ρ', js, h1, h2⟩ := turn i x _ hx rfl
        have e1 : (xs.take (i + 1)).foldl f s0 = f ((xs.take i).foldl f s0) x := by
          rw [List.take_add_one, hx, List.foldl_append]; rfl
        refine ⟨ρ', js, DG1.fit iv h1, ?_⟩
        show DoB X ρ' body { nx := fun ρ2 => Fits ρ2 (V ((xs.take (i + 1)).foldl f s0)), ct := fun ρ2 => Fits ρ2 (V ((xs.take (i + 1)).foldl f s0)), bk := R.nx, rv := R.rv, rl := R.rl }
        rw [e1]
        exact do_imp h2 (fun _ z => z) (fun _ z => z) (fun _ z => z) (fun _ z => z.elim) (fun _ z => z)
    · rw [List.length_map, List.take_length] at iv
      exact hnx _ _ iv done) hs
theorem dob_fit {sts : List Stmt} (ρ2 ρ3 : Slots) (h : Fits ρ2 ρ3) (k : DoB X ρ3 sts R) : DoB X ρ2 sts R := do_fit h k
end
end G
/-! G11: a, b = x, y with local names. -/
namespace G
open PySem PySem.Spec PyProof.Rows L2
section
variable {X : Cx} {ρ : Slots} {R : Out} {a b : Expr} {x y : Str} {px py pt pt2 pos : Pos} {kt k2 : Nat}
/-- what of the names and the form -/
structure Par (X : Cx) (i j : Nat) (x y : Str) (a b : Expr) (px py pt pt2 pos : Pos) (kt k2 : Nat) : Prop where
  hc : X.calm = true
  nd : X.N.Nodup
  hi : X.N[i]? = some x
  hj : X.N[j]? = some y
  hij : i ≠ j
  hx : X.env.scope.names.lookup x = some .local
  hy : X.env.scope.names.lookup y = some .local
  hw : swappedStores [.Tuple [.Name x px, .Name y py] kt pt] (.Tuple [a, b] k2 pt2) X.env = pure (some [x, y])
  hs : swapsWithSole [.Tuple [.Name x px, .Name y py] kt pt] (.Tuple [a, b] k2 pt2) pos.line X.env = pure false
  s1 : starEach [a, b] X.env = (false, eval a X.env) :: starEach [b] X.env
  s2 : starEach [b] X.env = (false, eval b X.env) :: starEach [] X.env
variable {i j : Nat}
theorem Par.ps (h : Par X i j x y a b px py pt pt2 pos kt k2) : PS X (.Assign [.Tuple [.Name x px, .Name y py] kt pt] (.Tuple [a, b] k2 pt2) pos) (tPar i j (tCons (wpE X a) (tCons (wpE X b) tNil))) :=
  ps_par h.hc h.nd h.hi h.hj h.hij h.hx h.hy (pa_cons pe_wp (pa_cons pe_wp pa_nil h.s2) h.s1) h.hw h.hs
theorem do_parDD {d1 d2 : PyData} (h : Par X i j x y a b px py pt pt2 pos kt k2) (ha : Dd X (fz ρ) a d1) (hb : Dd X (fz ρ) b d2) (p1 : pur d1 = true) (p2 : pur d2 = true) (k : R.nx ((ρ.set i (.va d1)).set j (.va d2))) : Do X ρ (.Assign [.Tuple [.Name x px, .Name y py] kt pt] (.Tuple [a, b] k2 pt2) pos) R :=
  Do.of h.ps fun B S O σ F H Y D q => (De1.thaw ha fun d z => by rw [z]; exact p1) S O σ F H Y.ok _ fun v1 e1 F1 H1 Y1 t1 q1 z1 => (De1.thaw hb fun d z => by rw [z]; exact p2) S O σ F1 H1 Y1 _ fun v2 e2 F2 H2 Y2 t2 q2 z2 => by
    subst z1 z2
    exact ⟨v1, v2, rfl, q.nx _ S O _ F2 H2 k ((((Y.step t1 Y1).step t2 Y2).setV i (Dq.mono t2.ff _ q1)).setV j q2)⟩
theorem SB.loose_set {K : Cn} {B : Bse} {S : Sta} {O : Own} {σ : L2.St} {F H : Hp} (Y : SB K B S O ρ σ F H) (i : Nat) {p : Addr} {us : List V} {ds : List PyData} (n1 : B.H0 p = none) (n2 : F p = none) (n3 : ∀ i, O i ≠ some p) (n4 : ∀ s c, S = some (s, c) → p ≠ s ∧ p ≠ c) (h : H p = some (.lst us)) (hd : DqAll K.K F us ds) :
    SB K B S (fun j => if j = i then some p else O j) (ρ.set i (.ow (.lst ds))) (σ.set i (some (.ref p))) F H :=
  ⟨Y.ok.setO i n2 n3 n4 ⟨us, h, hd⟩, Y.tr, fun j b e => by
    by_cases hj : j = i
    · rw [if_pos hj] at e; cases e; exact n1
    · rw [if_neg hj] at e; exact Y.nw j b e, Y.st⟩
theorem do_parLD {ds : List PyData} {d2 : PyData} (h : Par X i j x y a b px py pt pt2 pos kt k2) (ha : DLd X (fz ρ) a ds) (hb : Dd X (fz ρ) b d2) (p1 : purAll ds = true) (p2 : pur d2 = true) (k : R.nx ((ρ.set i (.ow (.lst ds))).set j (.va d2))) : Do X ρ (.Assign [.Tuple [.Name x px, .Name y py] kt pt] (.Tuple [a, b] k2 pt2) pos) R :=
  Do.of h.ps fun B S O σ F H Y D q => (DL1.thaw ha fun d z => by rw [z]; exact p1) S O σ F H Y.ok _ fun p us es F1 H1 Y1 t1 h1 h2 h3 h4 z1 => (De1.thaw hb fun d z => by rw [z]; exact p2) S O σ F1 H1 Y1 _ fun v2 e2 F2 H2 Y2 t2 q2 z2 => by
    subst z1 z2
    have g2 := t2.nw p h2 (ne_none h3)
    have g3 := t2.hh p _ h3 (Y.ok.notS h1)
    exact ⟨.ref p, v2, rfl, q.nx _ S _ _ F2 H2 k ((((Y.step t1 Y1).step t2 Y2).loose_set i (Y.free h1) g2 (Y.ok.notO h1) (Y.ok.notS h1) g3 (DqAll.mono t2.ff _ h4)).setV j q2)⟩
theorem do_parDL {d1 : PyData} {ds : List PyData} (h : Par X i j x y a b px py pt pt2 pos kt k2) (ha : Dd X (fz ρ) a d1) (hb : DLd X (fz ρ) b ds) (p1 : pur d1 = true) (p2 : purAll ds = true) (k : R.nx ((ρ.set i (.va d1)).set j (.ow (.lst ds)))) : Do X ρ (.Assign [.Tuple [.Name x px, .Name y py] kt pt] (.Tuple [a, b] k2 pt2) pos) R :=
  Do.of h.ps fun B S O σ F H Y D q => (De1.thaw ha fun d z => by rw [z]; exact p1) S O σ F H Y.ok _ fun v1 e1 F1 H1 Y1 t1 q1 z1 => (DL1.thaw hb fun d z => by rw [z]; exact p2) S O σ F1 H1 Y1 _ fun p us es F2 H2 Y2 t2 h1 h2 h3 h4 z2 => by
    subst z1 z2
    exact ⟨v1, .ref p, rfl, q.nx _ S _ _ F2 H2 k ((((Y.step t1 Y1).step t2 Y2).setV i (Dq.mono t2.ff _ q1)).loose_set j (Y.free (tr_free t1 h1)) h2 (Y1.notO h1) (Y1.notS h1) h3 h4)⟩
theorem do_parLL {P1 P2 : List PyData → Prop} (h : Par X i j x y a b px py pt pt2 pos kt k2) (ha : DL X (fz ρ) a P1) (hb : DL X (fz ρ) b P2) (p1 : ∀ d, P1 d → purAll d = true) (p2 : ∀ d, P2 d → purAll d = true) (k : ∀ d1 d2, P1 d1 → P2 d2 → R.nx ((ρ.set i (.ow (.lst d1))).set j (.ow (.lst d2)))) : Do X ρ (.Assign [.Tuple [.Name x px, .Name y py] kt pt] (.Tuple [a, b] k2 pt2) pos) R :=
  Do.of h.ps fun B S O σ F H Y D q => (DL1.thaw ha p1) S O σ F H Y.ok _ fun p us es F1 H1 Y1 t1 h1 h2 h3 h4 z1 => (DL1.thaw hb p2) S O σ F1 H1 Y1 _ fun p' us' es' F2 H2 Y2 t2 g1 g2 g3 g4 z2 => by
    have f2 := t2.nw p h2 (ne_none h3)
    have f3 := t2.hh p _ h3 (Y.ok.notS h1)
    have ne : p' ≠ p := fun e => by rw [e, h3] at g1; cases g1
    have Y3 := (((Y.step t1 Y1).step t2 Y2).loose_set i (Y.free h1) f2 (Y.ok.notO h1) (Y.ok.notS h1) f3 (DqAll.mono t2.ff _ h4))
    exact ⟨.ref p, .ref p', rfl, q.nx _ S _ _ F2 H2 (k es es' z1 z2) (Y3.loose_set j (Y.free (tr_free t1 g1)) g2 (fun k e => by
      by_cases hk : k = i
      · rw [if_pos hk] at e; cases e; exact ne rfl
      · rw [if_neg hk] at e; exact Y1.notO g1 k e) (Y1.notS g1) g3 g4)⟩
end
end G
/-! G12: a def's names, looked up once. -/
namespace G
open PySem PySem.Spec PyProof.Rows L2
def namesOk (N : List Str) (sc : Scope) (m : Nat) : Bool := (N.take m).all fun x => (match sc.names.lookup x with
  | some .local => true
  | some .cell => true
  | _ => false) && !(x == ("__debug__" : Str)) && !(x == ("__classdict__" : Str))
theorem names_at {N : List Str} {sc : Scope} {m i : Nat} {x : Str} (vn : namesOk N sc m = true) (hN : N[i]? = some x) (hi : Nat.blt i m = true) : Loc sc x ∧ (x == ("__debug__" : Str)) = false ∧ (x == ("__classdict__" : Str)) = false := by
  have him : i < m := Nat.le_of_ble_eq_true hi
  have hm : x ∈ N.take m := List.mem_of_getElem? (i := i) (by rw [List.getElem?_take_of_lt him]; exact hN)
  have h := List.all_eq_true.mp vn x hm
  simp only [Bool.and_eq_true, Bool.not_eq_true'] at h
  obtain ⟨⟨h1, h2⟩, h3⟩ := h
  refine ⟨?_, h2, h3⟩
  split at h1
  · exact .inl (by assumption)
  · exact .inr (by assumption)
  · cases h1
theorem lo {N : List Str} {sc : Scope} {m : Nat} {x : Str} (vn : namesOk N sc m = true) (i : Nat) (hN : N[i]? = some x := by rfl) (hi : Nat.blt i m = true := by rfl) : Loc sc x := (names_at vn hN hi).1
theorem vi {N : List Str} {sc : Scope} {m : Nat} {x : Str} (vn : namesOk N sc m = true) (i : Nat) (hN : N[i]? = some x := by rfl) (hi : Nat.blt i m = true := by rfl) : Vis sc x := (lo vn i hN hi).elim .inl fun h => .inr (.inl h)
section
variable {X : Cx} {ρ : Slots} {pos : Pos} {x : Str}
theorem dd_varz {m : Nat} (vn : namesOk X.N X.env.scope m = true) (i : Nat) {d : PyData} {s : Sl} (hN : X.N[i]? = some x := by rfl) (hi : Nat.blt i m = true := by rfl) (h : ρ[i]? = some s := by rfl) (hs : fz1 s = .va d := by rfl) : Dd X (fz ρ) (.Name x pos) d := by
  obtain ⟨l, h2, h3⟩ := names_at vn hN hi
  exact dd_var i hN (l.elim .inl fun h => .inr (.inl h)) (by unfold fz; rw [List.getElem?_map, h]; exact congrArg some hs) h2 h3
theorem dd_varn {m : Nat} (vn : namesOk X.N X.env.scope m = true) (i : Nat) {d : PyData} (hN : X.N[i]? = some x := by rfl) (hi : Nat.blt i m = true := by rfl) (h : ρ[i]? = some (.va d) := by rfl) : Dd X ρ (.Name x pos) d := by
  obtain ⟨l, h2, h3⟩ := names_at vn hN hi
  exact dd_var i hN (l.elim .inl fun h => .inr (.inl h)) h h2 h3
end
end G
/-! G13: sorted told by a plain function. -/
namespace G
open PySem PySem.Spec PyProof.Rows L2
section
variable {α : Type}
/-- x put into a list that ascends by c, unless one of the same code stands there -/
def insC (c : α → Int) (x : α) : List α → List α
  | [] => [x]
  | y :: ys => if c x < c y then x :: y :: ys else if c x = c y then y :: ys else y :: insC c x ys
/-- sorted(set(l)) -/
def ssC (c : α → Int) : List α → List α
  | [] => []
  | x :: xs => insC c x (ssC c xs)
/-- x put into a list that ascends by c -/
def inlC (c : α → Int) (x : α) : List α → List α
  | [] => [x]
  | y :: ys => if c x ≤ c y then x :: y :: ys else y :: inlC c x ys
/-- sorted(l) -/
def srC (c : α → Int) : List α → List α
  | [] => []
  | x :: xs => inlC c x (srC c xs)
variable {c : α → Int} {x : α}
theorem mem_insC (y : α) : ∀ {l : List α}, (∀ z ∈ l, c x = c z → x = z) → (y ∈ insC c x l ↔ y = x ∨ y ∈ l)
  | [], _ => by simp [insC]
  | z :: l, h => by
    unfold insC
    split
    · simp
    · split
      · next e => rw [h z List.mem_cons_self e]; simp
      · rw [List.mem_cons, mem_insC y (fun w hw => h w (List.mem_cons_of_mem _ hw)), List.mem_cons]
        constructor <;> (intro q; rcases q with q | q | q <;> simp [q])
theorem lt_insC : ∀ {l : List α}, l.Pairwise (fun a b => c a < c b) → (insC c x l).Pairwise (fun a b => c a < c b) ∧ ∀ k : Int, (∀ z ∈ l, k < c z) → k < c x → ∀ z ∈ insC c x l, k < c z
  | [], _ => ⟨List.pairwise_singleton _ _, fun k _ h z hz => by rw [insC, List.mem_singleton] at hz; rw [hz]; exact h⟩
  | y :: l, h => by
    obtain ⟨h1, h2⟩ := List.pairwise_cons.mp h
    obtain ⟨i1, i2⟩ := lt_insC h2
    unfold insC
    split
    · next e =>
      refine ⟨List.pairwise_cons.mpr ⟨fun z hz => ?_, h⟩, fun k a b z hz => ?_⟩
      · rcases List.mem_cons.mp hz with q | q
        · rw [q]; exact e
        · exact Int.lt_trans e (h1 z q)
      · rcases List.mem_cons.mp hz with q | q
        · rw [q]; exact b
        · exact a z q
    · split
      · exact ⟨h, fun k a b => a⟩
      · next e1 e2 =>
        refine ⟨List.pairwise_cons.mpr ⟨i2 _ h1 (by omega), i1⟩, fun k a b z hz => ?_⟩
        rcases List.mem_cons.mp hz with q | q
        · rw [q]; exact a y List.mem_cons_self
        · exact i2 k (fun w hw => a w (List.mem_cons_of_mem _ hw)) b z q
theorem ssC_ok : ∀ {l : List α}, (∀ a ∈ l, ∀ b ∈ l, c a = c b → a = b) → (ssC c l).Pairwise (fun a b => c a < c b) ∧ ∀ y, y ∈ ssC c l ↔ y ∈ l
  | [], _ => ⟨.nil, fun y => Iff.rfl⟩
  | x :: l, h => by
    obtain ⟨i1, i2⟩ := ssC_ok (l := l) fun a ha b hb => h a (List.mem_cons_of_mem _ ha) b (List.mem_cons_of_mem _ hb)
    refine ⟨(lt_insC i1).1, fun y => ?_⟩
    rw [ssC, mem_insC y fun z hz e => h x List.mem_cons_self z (List.mem_cons_of_mem _ ((i2 z).mp hz)) e, i2, List.mem_cons]
theorem inlC_perm : ∀ l : List α, (inlC c x l).Perm (x :: l)
  | [] => .refl _
  | y :: l => by
    unfold inlC
    split
    · exact .refl _
    · exact ((inlC_perm l).cons y).trans (.swap x y l)
theorem srC_perm : ∀ l : List α, (srC c l).Perm l
  | [] => .refl _
  | x :: l => (inlC_perm _).trans ((srC_perm l).cons x)
theorem inlC_le : ∀ {l : List α}, l.Pairwise (fun a b => c a ≤ c b) → (inlC c x l).Pairwise (fun a b => c a ≤ c b)
  | [], _ => List.pairwise_singleton _ _
  | y :: l, h => by
    obtain ⟨h1, h2⟩ := List.pairwise_cons.mp h
    unfold inlC
    split
    · next e =>
      refine List.pairwise_cons.mpr ⟨fun z hz => ?_, h⟩
      rcases List.mem_cons.mp hz with q | q
      · rw [q]; exact e
      · exact Int.le_trans e (h1 z q)
    · next e =>
      refine List.pairwise_cons.mpr ⟨fun z hz => ?_, inlC_le h2⟩
      rcases List.mem_cons.mp ((inlC_perm l).mem_iff.mp hz) with q | q
      · rw [q]; omega
      · exact h1 z q
theorem srC_le : ∀ l : List α, (srC c l).Pairwise (fun a b => c a ≤ c b)
  | [] => .nil
  | x :: l => inlC_le (srC_le l)
end
section
variable {α : Type} {Bn : Int} {enc : α → List Int} {c : α → Int}
theorem eq_ssC {xs : List α} {mss : List (List Int)} (hc : ∀ x ∈ xs, TS.code Bn (enc x) = c x) (inj : ∀ a ∈ xs, ∀ b ∈ xs, c a = c b → a = b) (h1 : mss.Nodup) (h2 : ∀ ns, ns ∈ mss ↔ ns ∈ xs.map enc) (h3 : mss.Pairwise fun x y => TS.code Bn x ≤ TS.code Bn y) : mss = (ssC c xs).map enc := by
  obtain ⟨p, m⟩ := ssC_ok (c := c) inj
  have mem : ∀ ns, ns ∈ mss ↔ ns ∈ (ssC c xs).map enc := fun ns => by
    rw [h2, List.mem_map, List.mem_map]
    exact ⟨fun ⟨a, h, e⟩ => ⟨a, (m a).mpr h, e⟩, fun ⟨a, h, e⟩ => ⟨a, (m a).mp h, e⟩⟩
  have lt : ((ssC c xs).map enc).Pairwise fun x y => TS.code Bn x < TS.code Bn y := by
    rw [List.pairwise_map]
    refine p.imp_of_mem fun {a b} ha hb h => ?_
    rw [hc a ((m a).mp ha), hc b ((m b).mp hb)]
    exact h
  have nd : ((ssC c xs).map enc).Nodup := lt.imp fun {a b} h e => by rw [e] at h; exact Int.lt_irrefl _ h
  refine List.Perm.eq_of_pairwise (le := fun x y => TS.code Bn x ≤ TS.code Bn y) (fun a b ha hb l1 l2 => ?_) h3 (lt.imp fun {a b} h => Int.le_of_lt h) ((List.perm_ext_iff_of_nodup h1 nd).mpr mem)
  obtain ⟨u, hu, e1⟩ := List.mem_map.mp ((h2 a).mp ha)
  obtain ⟨v, hv, e2⟩ := List.mem_map.mp ((h2 b).mp ((mem b).mpr hb))
  subst e1 e2
  rw [hc u hu, hc v hv] at l1 l2
  rw [inj u hu v hv (Int.le_antisymm l1 l2)]
theorem eq_srC {xs : List α} {mss : List (List Int)} (hc : ∀ x ∈ xs, TS.code Bn (enc x) = c x) (inj : ∀ a ∈ xs, ∀ b ∈ xs, c a = c b → a = b) (h1 : mss.Perm (xs.map enc)) (h3 : mss.Pairwise fun x y => TS.code Bn x ≤ TS.code Bn y) : mss = (srC c xs).map enc := by
  have pp := srC_perm (c := c) xs
  have le : ((srC c xs).map enc).Pairwise fun x y => TS.code Bn x ≤ TS.code Bn y := by
    rw [List.pairwise_map]
    refine (srC_le xs).imp_of_mem fun {a b} ha hb h => ?_
    rw [hc a (pp.mem_iff.mp ha), hc b (pp.mem_iff.mp hb)]
    exact h
  refine List.Perm.eq_of_pairwise (le := fun x y => TS.code Bn x ≤ TS.code Bn y) (fun a b ha hb l1 l2 => ?_) h3 le (h1.trans (pp.map enc).symm)
  obtain ⟨u, hu, e1⟩ := List.mem_map.mp (h1.mem_iff.mp ha)
  obtain ⟨v, hv, e2⟩ := List.mem_map.mp hb
  subst e1 e2
  have hv' := pp.mem_iff.mp hv
  rw [hc u hu, hc v hv'] at l1 l2
  rw [inj u hu v hv' (Int.le_antisymm l1 l2)]
variable {X : Cx} {ρ : Slots} {R : Out} {e : Expr} {pos p p2 p4 : Pos}
/-- sorted(set(xs)), told -/
theorem dl_sset {d : Nat} {xs : List α} {dx : PyData} (Bn : Int) (enc : α → List Int) (c : α → Int) (hc : X.calm = true) (hu : X.A.units + 65 < cLine) (hd : 1 ≤ d) (hg : Gl X "sorted") (hm : X.mg "sorted" = none) (hg2 : Gl X "set") (hm2 : X.mg "set" = none) (ha : Dd X ρ e dx) (hx : dx = .list (xs.map fun x => tupI (enc x))) (h64 : xs.length < 64) (hB : ∀ x ∈ xs, (enc x).length = d ∧ TS.Bd Bn (enc x))
    (hco : ∀ x ∈ xs, TS.code Bn (enc x) = c x) (inj : ∀ a ∈ xs, ∀ b ∈ xs, c a = c b → a = b)
    (he : starEach [e] X.env = (false, eval e X.env) :: starEach [] X.env := by rfl) (hpl : (backTo p4 (starEach [] X.env)).any (·.1) = false := by rfl)
    (he1 : starEach [.Call (.Name "set" p2) [e] [] p4] X.env = (false, eval (.Call (.Name "set" p2) [e] [] p4) X.env) :: starEach [] X.env := by rfl) (hpl1 : (backTo pos (starEach [] X.env)).any (·.1) = false := by rfl) : DLd X ρ (.Call (.Name "sorted" p) [.Call (.Name "set" p2) [e] [] p4] [] pos) ((ssC c xs).map fun x => tupI (enc x)) := by
  subst hx
  refine DL1.imp (dl_sortSet (nss := xs.map enc) (d := d) (Bn := Bn) hc hu hd hg hm hg2 hm2 (by rw [List.map_map]; exact ha) (by rw [List.length_map]; exact h64) (fun ns h => ?_) he hpl he1 hpl1) fun ds h => ?_
  · obtain ⟨x, hx, rfl⟩ := List.mem_map.mp h
    exact hB x hx
  · obtain ⟨mss, rfl, h1, h2, h3⟩ := h
    rw [eq_ssC hco inj h1 h2 h3, List.map_map]; rfl
/-- sorted(xs), told -/
theorem dl_sort {d : Nat} {xs : List α} {dx : PyData} (Bn : Int) (enc : α → List Int) (c : α → Int) (hd : 1 ≤ d) (hg : Gl X "sorted") (hm : X.mg "sorted" = none) (ha : Dd X ρ e dx) (hx : dx = .list (xs.map fun x => tupI (enc x))) (h64 : xs.length < 64) (hB : ∀ x ∈ xs, (enc x).length = d ∧ TS.Bd Bn (enc x))
    (hco : ∀ x ∈ xs, TS.code Bn (enc x) = c x) (inj : ∀ a ∈ xs, ∀ b ∈ xs, c a = c b → a = b)
    (he : starEach [e] X.env = (false, eval e X.env) :: starEach [] X.env := by rfl) (hpl : (backTo pos (starEach [] X.env)).any (·.1) = false := by rfl) : DLd X ρ (.Call (.Name "sorted" p) [e] [] pos) ((srC c xs).map fun x => tupI (enc x)) := by
  subst hx
  refine DL1.imp (dl_sortT (nss := xs.map enc) (d := d) (Bn := Bn) hd hg hm (by rw [List.map_map]; exact ha) (by rw [List.length_map]; exact h64) (fun ns h => ?_) he hpl) fun ds h => ?_
  · obtain ⟨x, hx, rfl⟩ := List.mem_map.mp h
    exact hB x hx
  · obtain ⟨mss, rfl, h1, h3⟩ := h
    rw [eq_srC hco inj h1 h3, List.map_map]; rfl
/-- x = a new list that stays as it is -/
theorem do_setV (i : Nat) {x : Str} {ds : List PyData} (hN : X.N.Nodup) (hi : X.N[i]? = some x) (hx : Loc X.env.scope x) (h : DLd X (fz ρ) e ds) (hp : purAll ds = true) (k : R.nx (ρ.set i (.va (.list ds)))) (hs : swapsWith e (some (.Name x p)) pos.line X.env = pure false := by rfl) (hf : X.fn x = true ∨ X.env.scope.names.lookup x = some .local := by first | exact .inl rfl | exact .inr rfl | assumption) : Do X ρ (.Assign [.Name x p] e pos) R :=
  do_set i hN hi hx (De.ofL (DL1.thaw h fun d z => by rw [z]; exact hp)) (fun d z => by obtain ⟨x, e1, e2⟩ := z; rw [e1, e2]; exact k) hs hf
end
theorem purAll_map {α : Type} {f : α → PyData} (h : ∀ x, pur (f x) = true) : ∀ xs : List α, purAll (xs.map f) = true
  | [] => rfl
  | x :: xs => by show (pur (f x) && purAll (xs.map f)) = true; rw [h x, purAll_map h xs]; rfl
end G
/-! G14: an expression told as data, used where the heap is in sight. -/
namespace G
open PySem PySem.Spec PyProof.Rows L2
def Vas (K : PySem.W.Frag) (H : Hp) : L2.St → Slots → Prop
  | [], [] => True
  | _ :: σ, .no :: ρ => Vas K H σ ρ
  | some v :: σ, .va d :: ρ => Dq K H v d ∧ Vas K H σ ρ
  | _, _ => False
theorem Vas.len {K : PySem.W.Frag} {H : Hp} : ∀ {σ : L2.St} {ρ : Slots}, Vas K H σ ρ → ρ.length = σ.length
  | [], [], _ => rfl
  | x :: σ, .no :: ρ, h => by rw [List.length_cons, List.length_cons, Vas.len (σ := σ) (ρ := ρ) (by cases x <;> exact h)]
  | some v :: σ, .va d :: ρ, h => by rw [List.length_cons, List.length_cons, Vas.len h.2]
  | none :: σ, .va d :: ρ, h => h.elim
  | x :: σ, .ow _ :: ρ, h => by cases x <;> exact h.elim
  | x :: σ, .st :: ρ, h => by cases x <;> exact h.elim
  | [], _ :: _, h => h.elim
  | _ :: _, [], h => by cases (‹Option V›) <;> exact h.elim
theorem Vas.get {K : PySem.W.Frag} {H : Hp} : ∀ {σ : L2.St} {ρ : Slots} (i : Nat) (s : Sl), Vas K H σ ρ → ρ[i]? = some s → s = .no ∨ ∃ d v, s = .va d ∧ σ[i]? = some (some v) ∧ Dq K H v d
  | [], [], i, s, _, e => by simp at e
  | x :: σ, .no :: ρ, 0, s, h, e => .inl (by simpa using e.symm)
  | x :: σ, .no :: ρ, i + 1, s, h, e => by
    have := Vas.get (σ := σ) (ρ := ρ) i s (by cases x <;> exact h) (by simpa using e)
    simpa using this
  | some v :: σ, .va d :: ρ, 0, s, h, e => .inr ⟨d, v, by simpa using e.symm, rfl, h.1⟩
  | some v :: σ, .va d :: ρ, i + 1, s, h, e => by
    have := Vas.get i s h.2 (by simpa using e)
    simpa using this
  | none :: σ, .va d :: ρ, _, _, h, _ => h.elim
  | x :: σ, .ow _ :: ρ, _, _, h, _ => by cases x <;> exact h.elim
  | x :: σ, .st :: ρ, _, _, h, _ => by cases x <;> exact h.elim
  | [], _ :: _, _, _, h, _ => h.elim
  | _ :: _, [], _, _, h, _ => by cases (‹Option V›) <;> exact h.elim
theorem Vas.sok {K : Cn} {H : Hp} {σ : L2.St} {ρ : Slots} (h : Vas K.K H σ ρ) : Sok K none (fun _ => none) ρ σ H H where
  len := h.len
  va := fun i d e => by
    rcases h.get i _ e with z | ⟨d', v, z, e1, e2⟩
    · cases z
    · cases z; exact ⟨v, e1, e2⟩
  ow := fun i o e => by
    rcases h.get i _ e with z | ⟨d', v, z, e1, e2⟩ <;> cases z
  oi := fun i a e => by cases e
  stv := fun i e => by
    rcases h.get i _ e with z | ⟨d', v, z, e1, e2⟩ <;> cases z
  sto := fun s c e => by cases e
  FH := Same.refl H
section
variable {X : Cx} {ρ : Slots} {e : Expr} {σ : L2.St} {H : Hp}
theorem de_at {P : PyData → Prop} {Q : VK} (h : De X ρ e P) (hv : Vas X.K H σ ρ) (q : ∀ v d H', Same H H' → Dq X.K H' v d → P d → Q v H') : wpE X e σ H Q :=
  h none (fun _ => none) σ H H hv.sok Q fun v d F' H' Y t p z => q v d H' t.same (Dq.mono Y.FH _ p) z
theorem dd_at {d : PyData} {Q : VK} (h : Dd X ρ e d) (hv : Vas X.K H σ ρ) (q : ∀ v H', Same H H' → Dq X.K H' v d → Q v H') : wpE X e σ H Q :=
  de_at h hv fun v d' H' e p z => by subst z; exact q v H' e p
theorem ddI_at {i : Int} {Q : VK} (h : Dd X ρ e (.int i)) (hv : Vas X.K H σ ρ) (q : ∀ H', Same H H' → Q (.int i) H') : wpE X e σ H Q :=
  dd_at h hv fun v H' e p => by cases p; exact q H' e
theorem dt_at {b : Bool} {Q : Bool → Hp → Prop} (h : DTd X ρ e b) (hv : Vas X.K H σ ρ) (q : ∀ H', Same H H' → Q b H') : wpT X e σ H Q :=
  h none (fun _ => none) σ H H hv.sok Q fun k F' H' Y t z => by subst z; exact q H' t.same
end
theorem dq_ints {K : PySem.W.Frag} {H : Hp} {a : Addr} {ns : List Int} (h : H a = some (.lst (ns.map V.int))) : Dq K H (.ref a) (.list (ns.map .int)) := .lst (.inl h) (DqAll.ofInts ns)
/-- the law's state as data -/
theorem dq_state {K : PySem.W.Frag} {H : Hp} {s c : Addr} {ns : List Int} {seed : Int} (h : H s = some (.lst [.ref c, .int seed])) (h2 : H c = some (.lst (ns.map V.int))) : Dq K H (.ref s) (.list [.list (ns.map .int), .int seed]) :=
  .lst (.inl h) (.cons (dq_ints h2) (.cons (.int _) .nil))
/-- what the state's lists are while _law_draw runs -/
structure DrawAt (H H1 : Hp) (s c : Addr) (cells : List Int) (seed : Int) : Prop where
  hs : H1 s = some (.lst [.ref c, .int seed])
  hc : H1 c = some (.lst (cells.map V.int))
  nn : ∀ z ∈ cells, 0 ≤ z
  sd : 0 ≤ seed ∧ seed < 2147483648
  hh : ∀ b o, H b = some o → b ≠ s → b ≠ c → H1 b = some o
section
variable {F H H1 H2 : Hp} {s c : Addr} {cells cells' : List Int} {seed seed' : Int}
theorem DrawAt.mono (h : DrawAt H H1 s c cells seed) (e : Same H1 H2) : DrawAt H H2 s c cells seed :=
  ⟨e _ _ h.hs, e _ _ h.hc, h.nn, h.sd, fun b o x y z => e _ _ (h.hh b o x y z)⟩
theorem DrawAt.setC (h : DrawAt H H1 s c cells seed) (ne : s ≠ c) (hn : ∀ z ∈ cells', 0 ≤ z) : DrawAt H (upd H1 c (.lst (cells'.map V.int))) s c cells' seed :=
  ⟨by rw [upd_ne ne]; exact h.hs, upd_same, hn, h.sd, fun b o x y z => by rw [upd_ne z]; exact h.hh b o x y z⟩
theorem DrawAt.setS (h : DrawAt H H1 s c cells seed) (ne : s ≠ c) (hn : 0 ≤ seed' ∧ seed' < 2147483648) : DrawAt H (upd H1 s (.lst [.ref c, .int seed'])) s c cells seed' :=
  ⟨upd_same, by rw [upd_ne ne.symm]; exact h.hc, h.nn, hn, fun b o x y z => by rw [upd_ne y]; exact h.hh b o x y z⟩
theorem DrawAt.done (h : DrawAt H H1 s c cells seed) (ne : s ≠ c) (fs : F s = none) (fc : F c = none) (fh : Same F H) : Tr (some (s, c)) F H F H1 ∧ Same F H1 ∧ StObj H1 s c := by
  refine ⟨⟨Same.refl F, fun b o x n => ?_, fun b x _ => x, fun b x => ?_⟩, fun b o x => ?_, ⟨ne, cells, seed, h.hs, h.hc, h.nn, h.sd.1, h.sd.2⟩⟩
  · obtain ⟨n1, n2⟩ := n s c rfl
    exact h.hh b o x n1 n2
  · by_cases e1 : b = s
    · rw [e1, h.hs]; intro z; cases z
    · by_cases e2 : b = c
      · rw [e2, h.hc]; intro z; cases z
      · cases e : H b with
        | none => exact absurd e x
        | some o => rw [h.hh b o e e1 e2]; intro z; cases z
  · exact h.hh b o (fh _ _ x) (fun e => by rw [e, fs] at x; cases x) (fun e => by rw [e, fc] at x; cases x)
theorem DrawAt.data {K : PySem.W.Frag} (h : DrawAt H H1 s c cells seed) : Dq K H1 (.ref s) (.list [.list (cells.map .int), .int seed]) ∧ Dq K H1 (.ref c) (.list (cells.map .int)) := ⟨dq_state h.hs h.hc, dq_ints h.hc⟩
end
theorem atI_zero {α : Type} (d : α) (ds : List α) : atI (d :: ds) 0 = some d := by
  unfold atI ixN
  rw [if_pos (Int.le_refl 0), if_pos (by simp only [List.length_cons]; omega)]; rfl
theorem atI_int {α : Type} {ds : List α} {i : Int} {d : α} (h0 : 0 ≤ i) (h : ds[i.toNat]? = some d) : atI ds i = some d := by
  have := atI_nat h
  rwa [Int.toNat_of_nonneg h0] at this
theorem ixN_zero {n : Nat} : ixN (n + 1) 0 = some 0 := by
  unfold ixN
  rw [if_pos (Int.le_refl 0), if_pos (by omega)]; rfl
end G
/-! G15: isinstance for the five kinds. -/
namespace G
open PySem PySem.Spec PyProof.Rows L2
inductive Ki where
  | list | tuple | str | bool | int
def Ki.nm : Ki → String
  | .list => "list"
  | .tuple => "tuple"
  | .str => "str"
  | .bool => "bool"
  | .int => "int"
def isK : PyData → Ki → Bool
  | .list _, .list => true
  | .tuple _, .tuple => true
  | .str _, .str => true
  | .bool _, .bool => true
  | .bool _, .int => true
  | .int _, .int => true
  | _, _ => false
theorem kit_tab : (["NoneType", "bool", "int", "str", "list", "tuple"].all fun a => [Ki.list, .tuple, .str, .bool, .int].all fun k => kitB a k.nm == some (a == k.nm || (a == "bool" && k.nm == "int"))) = true := by decide +kernel
theorem kit_row {a : String} (ha : a ∈ ["NoneType", "bool", "int", "str", "list", "tuple"]) (k : Ki) : kitB a k.nm = some (a == k.nm || (a == "bool" && k.nm == "int")) := by
  have h := List.all_eq_true.mp (List.all_eq_true.mp kit_tab a ha) k (by cases k <;> simp)
  exact eq_of_beq h
def noDict : PyData → Bool
  | .dict _ => false
  | _ => true
theorem kit_isK (d : PyData) (k : Ki) (hd : noDict d = true) : kitB (tyName d) k.nm = some (isK d k) := by
  cases d with
  | dict _ => cases hd
  | _ => rw [kit_row (by simp [tyName]) k]; cases k <;> rfl
section
variable {X : Cx} {ρ : Slots} {e : Expr} {pos p p2 : Pos}
/-- isinstance(e, T) -/
theorem dd_isK {T : Str} (k : Ki) {d : PyData} (hd : noDict d = true) (hg : Gl X "isinstance") (hm : X.mg "isinstance" = none) (hgT : Gl X T) (hmT : X.mg T = none) (hvT : bootBuiltins T = some (.type k.nm)) (ha : Dd X ρ e d) (hnT : T ≠ "__name__" := by decide) (hdT : (T == ("__debug__" : Str)) = false := by decide)
    (he : starEach [e, .Name T p2] X.env = (false, eval e X.env) :: starEach [.Name T p2] X.env := by rfl) (he2 : starEach [.Name T p2] X.env = (false, eval (.Name T p2) X.env) :: starEach [] X.env := by rfl) (hpl : (backTo pos (starEach [.Name T p2] X.env)).any (·.1) = false := by rfl) : Dd X ρ (.Call (.Name "isinstance" p) [e, .Name T p2] [] pos) (.bool (isK d k)) :=
  dd_isi hg hm hgT hmT hvT ha (kit_isK d k hd) hnT hdT he he2 hpl
end
theorem bt_list : bootBuiltins "list" = some (.type Ki.list.nm) := by decide +kernel
theorem bt_tuple : bootBuiltins "tuple" = some (.type Ki.tuple.nm) := by decide +kernel
theorem bt_str : bootBuiltins "str" = some (.type Ki.str.nm) := by decide +kernel
theorem bt_bool : bootBuiltins "bool" = some (.type Ki.bool.nm) := by decide +kernel
theorem bt_int : bootBuiltins "int" = some (.type Ki.int.nm) := by decide +kernel
/-- data of bounded depth and width -/
def okD : Nat → PyData → Prop
  | _, .none => True
  | _, .bool _ => True
  | _, .int _ => True
  | _, .str x => SeqAt.shaped (.str x) = true
  | n + 1, .list ds => ds.length ≤ 1000000 ∧ ∀ d ∈ ds, okD n d
  | n + 1, .tuple ds => ds.length ≤ 1000000 ∧ ∀ d ∈ ds, okD n d
  | _, _ => False
end G
/-! G16: a law's head: state = _law_state(script), then the rest. -/
namespace G
open PySem PySem.Spec PyProof.Rows L2
def sp_state (K : PySem.W.Frag) : Sp := fun vs H Q _ => ∃ (a : Addr) (ns : List Int), vs = [.ref a] ∧ SqL K H a (ns.map V.int) ∧ ns.length ≤ 63 ∧ ∀ s c H', Same H H' → H s = none → H c = none → StObj H' s c → Q (.ref s) H'
def sp_law (K : PySem.W.Frag) : Sp := fun vs H Q _ => ∃ (a : Addr) (ns : List Int), vs = [.ref a] ∧ SqL K H a (ns.map V.int) ∧ ns.length ≤ 63 ∧ ∀ H', Q (.bl true) H'
theorem dqAll_ints {K : PySem.W.Frag} {F : Hp} : ∀ {ms : List Int} {vs : List V}, DqAll K F vs (ms.map .int) → vs = ms.map V.int
  | [], _, h => by cases h; rfl
  | m :: ms, _, h => by
    cases h with
    | cons a b => cases a; rw [dqAll_ints b]; rfl
theorem dq_allI {K : PySem.W.Frag} {H : Hp} (ns : List Int) : DqAll K H (ns.map V.int) (ns.map .int) := DqAll.ofInts ns
section
variable {Pg : Program} {w : World} {K : PySem.W.Frag} {mg : Str → Option Value} {base : Heap}
theorem sok_law {K : Cn} {a s c : Addr} {H H' : Hp} (m : Nat) (sm : Same H H') (h1 : H s = none) (h2 : H c = none) (so : StObj H' s c) : Sok K (some (s, c)) (fun _ => none) (.no :: .st :: List.replicate m .no) (some (.ref a) :: some (.ref s) :: List.replicate m none) H H' where
  len := by simp
  va := fun i d e => by
    match i, e with
    | 0, e => cases e
    | 1, e => cases e
    | i + 2, e =>
      have := List.eq_of_mem_replicate (List.mem_of_getElem? (show (List.replicate m Sl.no)[i]? = some (.va d) from e))
      cases this
  ow := fun i o e => by
    match i, e with
    | 0, e => cases e
    | 1, e => cases e
    | i + 2, e =>
      have := List.eq_of_mem_replicate (List.mem_of_getElem? (show (List.replicate m Sl.no)[i]? = some (.ow o) from e))
      cases this
  oi := fun i a h => by cases h
  stv := fun i e => by
    match i, e with
    | 0, e => cases e
    | 1, e => exact ⟨s, c, rfl, rfl⟩
    | i + 2, e =>
      have := List.eq_of_mem_replicate (List.mem_of_getElem? (show (List.replicate m Sl.no)[i]? = some .st from e))
      cases this
  sto := fun s' c' h => by cases h; exact ⟨so, h1, h2⟩
  FH := sm
theorem fn_law {st : Stmt} {f : Addr} {fd : FuncData} {N' : List Str} {rest : List Stmt} {k : Nat} {p1 p2 p3 p4 p5 : Pos} (F : Fun K "law" "law" st f fd) (S : FnScope ("script" :: "state" :: N') ["script"] (defScope st))
    (hbody : defBody st = .Assign [.Name "state" p1] (.Call (.Name "_law_state" p2) [.Name "script" p3] [] p4) p5 :: rest) (hv : Vis (defScope st) "script") (hl : Loc (defScope st) "state") (hG : ∀ (cdv : Value) (A : Around) (outer : List Env) (s : Shared) (H : Hp) (E : XK), Gl (cxOf CX0 Pg w K mg base ("script" :: "state" :: N') "law" (defScope st) f cdv A outer s H E).nox "_law_state")
    (hsw : ∀ (cdv : Value) (A : Around) (outer : List Env) (s : Shared) (H : Hp) (E : XK), swapsWith (.Call (.Name "_law_state" p2) [.Name "script" p3] [] p4) (some (.Name "state" p1)) p5.line (cxOf CX0 Pg w K mg base ("script" :: "state" :: N') "law" (defScope st) f cdv A outer s H E).nox.env = pure false)
    (hst : ∀ (cdv : Value) (A : Around) (outer : List Env) (s : Shared) (H : Hp) (E : XK), starEach [.Name "script" p3] (cxOf CX0 Pg w K mg base ("script" :: "state" :: N') "law" (defScope st) f cdv A outer s H E).nox.env = (false, eval (.Name "script" p3) (cxOf CX0 Pg w K mg base ("script" :: "state" :: N') "law" (defScope st) f cdv A outer s H E).nox.env) :: starEach [] (cxOf CX0 Pg w K mg base ("script" :: "state" :: N') "law" (defScope st) f cdv A outer s H E).nox.env)
    (F_state : Fn Pg w K mg base "_law_state" ["script"] k (sp_state K))
    (hb : ∀ (cdv : Value) (A : Around) (outer : List Env) (s : Shared) (H : Hp) (E : XK), Room k (A.deeper (envOfC "law" (defScope st) s.heap.objs.size f cdv)) →
      DoB (cxOf CX0 Pg w K mg base ("script" :: "state" :: N') "law" (defScope st) f cdv A outer s H E).nox (.no :: .st :: List.replicate N'.length .no) rest { nx := fun _ => False, rv := fun d => d = .bool true }) : FnOk Pg w K mg base CX0 (k + 1) f fd ["script"] (sp_law K) := by
  refine F.ok S (fun vs H Q E h => ?_) (fun cdv A outer s H vs Q E hr h => ?_)
  · obtain ⟨_, _, rfl, _⟩ := h; rfl
  obtain ⟨a, ns, rfl, hS, hlen, q⟩ := h
  obtain ⟨f1, fd1, G, hm, hk, hbd⟩ := F_state.ex
  refine ⟨_, hbody ▸ pss_cons (ps_set (i := 1) S.nd rfl hl (pe_call (E := E0) G hr (hG cdv A outer s H E) hm hk hbd .nil pass0 (pa_cons (pe_var (i := 0) rfl hv) pa_nil (hst cdv A outer s H E)) (by decide) (hst cdv A outer s H E) rfl) (hsw cdv A outer s H E) (.inl rfl)) pss_wp, ?_⟩
  refine ⟨.ref a, rfl, a, ns, rfl, hS, hlen, fun s1 c1 H' sm n1 n2 so => ?_⟩
  refine hb cdv A outer s H E hr ⟨H, H', some (s1, c1)⟩ (some (s1, c1)) (fun _ => none) _ H H' ⟨sok_law N'.length sm n1 n2 so, Tr.refl, fun _ _ h => (by cases h), .inr rfl, fun h => (by cases h)⟩ _ ⟨fun _ _ _ _ _ _ z => z.elim, fun v d ρ S O σ F2 H2 z Y pd => ?_, fun _ _ _ _ _ _ _ _ _ z => z.elim, fun _ _ _ _ _ _ z => z.elim, fun _ _ _ _ _ _ z => z.elim⟩
  subst z
  cases pd
  exact q H2
end
end G
/-! G17: draws: numbers of which bounds alone are known. -/
namespace G
open PySem PySem.Spec PyProof.Rows L2
abbrev sp_draw (K : PySem.W.Frag) : Sp := spS K (ι := Int) (fun m => [.int m]) (fun m => 1 ≤ m ∧ m < 2 ^ 62) (fun m d => ∃ r : Int, d = .int r ∧ 0 ≤ r ∧ r < m)
abbrev sp_pick (K : PySem.W.Frag) : Sp := spS K (ι := List PyData) (fun ds => [.list ds]) (fun ds => 1 ≤ ds.length ∧ ds.length ≤ 1000000) (fun ds d => d ∈ ds)
abbrev sp_leq (K : PySem.W.Frag) (n : Nat) : Sp := spV K (ι := PyData) (fun d => [d, d]) (fun d => okD n d) (fun _ r => r = .bool true)
section
variable {X : Cx} {ρ : Slots} {R : Out} {a b e : Expr} {es : List Expr} {pos p py : Pos} {x y : Str} {k : Nat} {P : PyData → Prop}
def IntP (P : Int → Prop) : PyData → Prop := fun d => ∃ r : Int, d = .int r ∧ P r
theorem dm_addI {P1 P2 P : Int → Prop} (ha : De X ρ a (IntP P1)) (hb : De X ρ b (IntP P2)) (h : ∀ i j, P1 i → P2 j → P (i + j)) : De X ρ (.BinOp a .Add b pos) (IntP P) := dm_op op_add ha hb fun d1 d2 ⟨i, e1, p1⟩ ⟨j, e2, p2⟩ => by subst e1 e2; exact rd_I0 ⟨_, rfl, h i j p1 p2⟩
theorem dm_subI {P1 P2 P : Int → Prop} (ha : De X ρ a (IntP P1)) (hb : De X ρ b (IntP P2)) (h : ∀ i j, P1 i → P2 j → P (i - j)) : De X ρ (.BinOp a .Sub b pos) (IntP P) := dm_op op_sub ha hb fun d1 d2 ⟨i, e1, p1⟩ ⟨j, e2, p2⟩ => by subst e1 e2; exact rd_I0 ⟨_, rfl, h i j p1 p2⟩
theorem dm_mulI {P1 P2 P : Int → Prop} (ha : De X ρ a (IntP P1)) (hb : De X ρ b (IntP P2)) (hc : ∀ i j, P1 i → P2 j → CMulW i j) (h : ∀ i j, P1 i → P2 j → P (i * j)) : De X ρ (.BinOp a .Mult b pos) (IntP P) := dm_op op_mulW ha hb fun d1 d2 ⟨i, e1, p1⟩ ⟨j, e2, p2⟩ => by subst e1 e2; exact rd_I (hc i j p1 p2) ⟨_, rfl, h i j p1 p2⟩
theorem IntP.of {P : Int → Prop} {i : Int} (h : Dd X ρ e (.int i)) (hp : P i) : De X ρ e (IntP P) := De.imp h fun d z => ⟨i, z, hp⟩
theorem dI_int {P : Int → Prop} {i : Int} {j : Nat} {pos : Pos} (hp : P i) : De X ρ (.Constant (.int i) j pos) (IntP P) := IntP.of dd_int hp
theorem da_I1 {P1 : Int → Prop} {Pz : List PyData → Prop} (ha : De X ρ a (IntP P1)) (h : ∀ i, P1 i → Pz [.int i]) (he : starEach [a] X.env = (false, eval a X.env) :: starEach [] X.env := by rfl) : DA X ρ [a] Pz :=
  da_consM (t := tNil) ha da_nil (fun d ds ⟨i, e1, q⟩ e2 => by subst e1 e2; exact h i q) he
theorem da_I2 {P1 P2 : Int → Prop} {Pz : List PyData → Prop} (ha : De X ρ a (IntP P1)) (hb : De X ρ b (IntP P2)) (h : ∀ i j, P1 i → P2 j → Pz [.int i, .int j]) (he : starEach [a, b] X.env = (false, eval a X.env) :: starEach [b] X.env := by rfl) (he2 : starEach [b] X.env = (false, eval b X.env) :: starEach [] X.env := by rfl) : DA X ρ [a, b] Pz :=
  da_consM (t := tNil) (Pr := fun ds => ∃ j, ds = [.int j] ∧ P2 j) ha (da_I1 hb (fun j q => ⟨j, rfl, q⟩) he2) (fun d ds ⟨i, e1, q⟩ ⟨j, e2, q2⟩ => by subst e1 e2; exact h i j q q2) he
/-- _law_draw(state, e) -/
theorem dm_draw (j : Nat) {Pm : Int → Prop} (F : Fn X.prog X.w X.K X.mg X.base x ["state", "many"] k (sp_draw X.K)) (hr : Room k X.A) (hg : Gl X x) (hN : X.N[j]? = some y) (hv : Vis X.env.scope y) (hj : ρ[j]? = some .st) (ha : De X ρ e (IntP Pm)) (hm : ∀ m, Pm m → 1 ≤ m ∧ m < 2 ^ 62) {Pr : Int → Prop} (h : ∀ m r, Pm m → 0 ≤ r → r < m → Pr r)
    (hdb : (x == ("__debug__" : Str)) = false := by decide) (hd : (y == ("__debug__" : Str)) = false := by decide) (hcd : (y == ("__classdict__" : Str)) = false := by decide) (he : starEach [.Name y py, e] X.env = (false, eval (.Name y py) X.env) :: starEach [e] X.env := by rfl) (hpl : (backTo pos (starEach [e] X.env)).any (·.1) = false := by rfl) (hes : starEach [e] X.env = (false, eval e X.env) :: starEach [] X.env := by rfl) :
    De X ρ (.Call (.Name x p) [.Name y py, e] [] pos) (IntP Pr) :=
  dm_callS j F hr hg hN hv hj (da_consM (t := tNil) (Pz := fun ds => ∃ m, ds = [.int m] ∧ Pm m) ha da_nil (fun d ds ⟨m, e1, q⟩ e2 => ⟨m, by rw [e1, e2], q⟩) hes) (fun ds ⟨m, e1, q⟩ => ⟨m, e1, hm m q, fun d ⟨r, e2, r0, r1⟩ => ⟨r, e2, h m r q r0 r1⟩⟩) hdb hd hcd he hpl
/-- .. by a number that is known -/
theorem dm_drawD (j : Nat) {m : Int} (F : Fn X.prog X.w X.K X.mg X.base x ["state", "many"] k (sp_draw X.K)) (hr : Room k X.A) (hg : Gl X x) (hN : X.N[j]? = some y) (hv : Vis X.env.scope y) (hj : ρ[j]? = some .st) (ha : Dd X ρ e (.int m)) (hm : 1 ≤ m ∧ m < 2 ^ 62)
    (hdb : (x == ("__debug__" : Str)) = false := by decide) (hd : (y == ("__debug__" : Str)) = false := by decide) (hcd : (y == ("__classdict__" : Str)) = false := by decide) (he : starEach [.Name y py, e] X.env = (false, eval (.Name y py) X.env) :: starEach [e] X.env := by rfl) (hpl : (backTo pos (starEach [e] X.env)).any (·.1) = false := by rfl) (hes : starEach [e] X.env = (false, eval e X.env) :: starEach [] X.env := by rfl) :
    De X ρ (.Call (.Name x p) [.Name y py, e] [] pos) (IntP fun r => 0 ≤ r ∧ r < m) :=
  dm_draw j (Pm := fun z => z = m) F hr hg hN hv hj (IntP.of ha rfl) (fun z e => e ▸ hm) (fun z r e r0 r1 => ⟨r0, e ▸ r1⟩) hdb hd hcd he hpl hes
/-- _law_pick(state, e), _law_one(state, e) -/
theorem dm_pick (j : Nat) {ds : List PyData} (F : Fn X.prog X.w X.K X.mg X.base x [("state" : Str), z] k (sp_pick X.K)) (hr : Room k X.A) (hg : Gl X x) (hN : X.N[j]? = some y) (hv : Vis X.env.scope y) (hj : ρ[j]? = some .st) (ha : Dd X ρ e (.list ds)) (hm : 1 ≤ ds.length ∧ ds.length ≤ 1000000) (h : ∀ d ∈ ds, P d)
    (hdb : (x == ("__debug__" : Str)) = false := by decide) (hd : (y == ("__debug__" : Str)) = false := by decide) (hcd : (y == ("__classdict__" : Str)) = false := by decide) (he : starEach [.Name y py, e] X.env = (false, eval (.Name y py) X.env) :: starEach [e] X.env := by rfl) (hpl : (backTo pos (starEach [e] X.env)).any (·.1) = false := by rfl) (hes : starEach [e] X.env = (false, eval e X.env) :: starEach [] X.env := by rfl) :
    De X ρ (.Call (.Name x p) [.Name y py, e] [] pos) P :=
  dm_callS j F hr hg hN hv hj (da_cons ha da_nil hes) (fun es e1 => ⟨ds, e1, hm, fun d hd => h d hd⟩) hdb hd hcd he hpl
/-- a target = e, the slots told by the data -/
theorem do_asgX {tg : Expr} {g : TG} (hg : PG X tg g) (h : De X ρ e P) (k : ∀ d, P d → ∃ ρ' js, DG1 (cn X) ρ g d ρ' js ∧ R.nx ρ') (hs : swapsWithSole [tg] e pos.line X.env = pure false := by rfl) (hw : swappedStores [tg] e X.env = pure none := by rfl)
    (h1 : (assignEach [tg] X.env).map (·.2) = [assign tg X.env] := by rfl) : Do X ρ (.Assign [tg] e pos) R := Do.of (ps_asg pe_wp hg hs hw h1) fun B S O σ F H Y D q =>
  h S O σ F H Y.ok _ fun v d F' H' Y' t p e => by
    obtain ⟨ρ', js, hG, hk⟩ := k d e
    exact hG S O σ F' H' v Y' p _ fun σ' Y2 _ => q.nx _ S O σ' F' H' hk (Y.step t Y2)
end
section
variable {X : Cx} {ρ : Slots} {R : Out} {body : List Stmt} {tg iter : Expr} {g : TG} {pos : Pos}
/-- a loop that keeps what the slots V say -/
theorem do_rep {Pi : List PyData → Prop} (V : Slots) (hp : PassesOwn (model X.prog X.w) X.A X.env X.xe) (hc : X.calm = true) (hi : DI X ρ tg iter Pi) (hg : PG X tg g) (h0 : Fits ρ V)
    (turn : ∀ ds d, Pi ds → d ∈ ds → ∃ ρ' js, DG1 (cn X) V g d ρ' js ∧ DoB X ρ' body { nx := fun ρ2 => Fits ρ2 V, ct := fun ρ2 => Fits ρ2 V, bk := R.nx, rv := R.rv, rl := R.rl })
    (done : R.nx V) (hnx : ∀ ρ2 ρ3, Fits ρ2 ρ3 → R.nx ρ3 → R.nx ρ2)
    (hs : ∀ x, foldedSetIterable iter X.env x = pure x := by intro _; rfl) : Do X ρ (.For tg iter body [] pos) R :=
  do_for hp hc hi hg (fun ds e => ⟨fun _ ρ1 => Fits ρ1 V, h0, fun i d ρ1 hd iv => by
    obtain ⟨ρ', js, h1, h2⟩ := turn ds d e (List.mem_of_getElem? hd)
    exact ⟨ρ', js, DG1.fit iv h1, h2⟩, fun ρ1 iv => hnx _ _ iv done⟩) hs
end
theorem canLay_all {α : Type} {f : α → PyData} (h : ∀ x, (f x).canLay0 = true) : ∀ l : List α, PyData.canLayAll0 (l.map f) = true
  | [] => rfl
  | x :: l => by show ((f x).canLay0 && PyData.canLayAll0 (l.map f)) = true; rw [h x, canLay_all h l]; rfl
theorem depth_all {α : Type} {f : α → PyData} {n : Nat} (h : ∀ x, (f x).depth ≤ n) : ∀ l : List α, PyData.depthAll (l.map f) ≤ n
  | [] => Nat.zero_le _
  | x :: l => by show max (f x).depth (PyData.depthAll (l.map f)) ≤ n; have := h x; have := depth_all h l; omega
theorem shaped_list {α : Type} {f : α → PyData} (h : ∀ x, (f x).canLay0 = true) (h2 : ∀ x, (f x).depth ≤ 60) (l : List α) : SeqAt.shaped (.list (l.map f)) = true := by
  show (PyData.canLayAll0 (l.map f) && decide (PyData.depthAll (l.map f) + 1 ≤ 64)) = true
  rw [canLay_all h l, decide_eq_true (by have := depth_all h2 l; omega)]; rfl
theorem eqv_nil : ∀ ds : List PyData, PyData.eqv (.list ds) (.list []) = ds.isEmpty
  | [] => rfl
  | d :: ds => rfl
end G
/-! G18: a, b = x, y by way of a tuple, where new lists stand among x, y. -/
namespace G
open PySem PySem.Spec PyProof.Rows L2
section
variable {X : Cx} {ρ : Slots} {R : Out} {a b : Expr} {x y : Str} {px py pt pt2 pos : Pos} {kt k2 : Nat}
structure ParU (X : Cx) (i j : Nat) (x y : Str) (a b : Expr) (px py pt pt2 pos : Pos) (kt k2 : Nat) : Prop where
  hc : X.calm = true
  nd : X.N.Nodup
  hi : X.N[i]? = some x
  hj : X.N[j]? = some y
  hij : i ≠ j
  hx : Loc X.env.scope x
  hy : Loc X.env.scope y
  hw : swappedStores [.Tuple [.Name x px, .Name y py] kt pt] (.Tuple [a, b] k2 pt2) X.env = pure none
  hs : swapsWithSole [.Tuple [.Name x px, .Name y py] kt pt] (.Tuple [a, b] k2 pt2) pos.line X.env = pure false
  s1 : starEach [a, b] X.env = (false, eval a X.env) :: starEach [b] X.env
  s2 : starEach [b] X.env = (false, eval b X.env) :: starEach [] X.env
  g1 : (assignEach [.Name x px, .Name y py] X.env).length = 2
  g2 : (assignEach [.Name x px, .Name y py] X.env).findIdx? (·.1) = none
  g3 : PGs X [.Name x px, .Name y py] (gCons (gName i) (gCons (gName j) gNil))
  g4 : (assignEach [.Tuple [.Name x px, .Name y py] kt pt] X.env).map (·.2) = [assign (.Tuple [.Name x px, .Name y py] kt pt) X.env]
variable {i j : Nat}
theorem ParU.ps (h : ParU X i j x y a b px py pt pt2 pos kt k2) : PS X (.Assign [.Tuple [.Name x px, .Name y py] kt pt] (.Tuple [a, b] k2 pt2) pos) (tAsg (tTup (tCons (wpE X a) (tCons (wpE X b) tNil))) (gTup X.K 2 (gCons (gName i) (gCons (gName j) gNil)))) :=
  ps_asg (pe_tup (pa_cons pe_wp (pa_cons pe_wp pa_nil h.s2) h.s1)) (pg_tup h.hc h.g3 h.g1 h.g2) h.hs h.hw h.g4
theorem SB.newL {K : Cn} {B : Bse} {S : Sta} {O : Own} {σ : L2.St} {F H : Hp} (Y : SB K B S O ρ σ F H) {p : Addr} {o : HO} (h : H p = none) : SB K B S O ρ σ F (upd H p o) := Y.step (Tr.newL h).of0 (Y.ok.newL h)
theorem do_parULL {P1 P2 : List PyData → Prop} (h : ParU X i j x y a b px py pt pt2 pos kt k2) (ha : DL X (fz ρ) a P1) (hb : DL X (fz ρ) b P2) (p1 : ∀ d, P1 d → purAll d = true) (p2 : ∀ d, P2 d → purAll d = true) (k : ∀ d1 d2, P1 d1 → P2 d2 → R.nx ((ρ.set i (.ow (.lst d1))).set j (.ow (.lst d2)))) : Do X ρ (.Assign [.Tuple [.Name x px, .Name y py] kt pt] (.Tuple [a, b] k2 pt2) pos) R :=
  Do.of h.ps fun B S O σ F H Y D q => (DL1.thaw ha p1) S O σ F H Y.ok _ fun p us es F1 H1 Y1 t1 h1 h2 h3 h4 z1 => (DL1.thaw hb p2) S O σ F1 H1 Y1 _ fun p' us' es' F2 H2 Y2 t2 g1 g2 g3 g4 z2 => by
    have f2 := t2.nw p h2 (ne_none h3)
    have f3 := t2.hh p _ h3 (Y.ok.notS h1)
    have ne : p' ≠ p := fun e => by rw [e, h3] at g1; cases g1
    refine ⟨by show (2 : Nat) ≤ sizeLine; decide, fun T hT => ⟨T, [.ref p, .ref p'], rfl, .inl (.inl upd_same), rfl, .ref p, [.ref p'], rfl, .ref p', [], rfl, rfl, ?_⟩⟩
    have f3' : (upd H2 T (.tup [.ref p, .ref p'])) p = some (.lst us) := by rw [upd_ne (ne_of_none f3 hT)]; exact f3
    have g3' : (upd H2 T (.tup [.ref p, .ref p'])) p' = some (.lst us') := by rw [upd_ne (ne_of_none g3 hT)]; exact g3
    have Y3 := ((((Y.step t1 Y1).step t2 Y2).newL (o := .tup [.ref p, .ref p']) hT).loose_set i (Y.free h1) f2 (Y.ok.notO h1) (Y.ok.notS h1) f3' (DqAll.mono t2.ff _ h4))
    exact q.nx _ S _ _ F2 _ (k es es' z1 z2) (Y3.loose_set j (Y.free (tr_free t1 g1)) g2 (fun k e => by
      by_cases hk : k = i
      · rw [if_pos hk] at e; cases e; exact ne rfl
      · rw [if_neg hk] at e; exact Y1.notO g1 k e) (Y1.notS g1) g3' g4)
theorem do_parULD {ds : List PyData} {d2 : PyData} (h : ParU X i j x y a b px py pt pt2 pos kt k2) (ha : DLd X (fz ρ) a ds) (hb : Dd X (fz ρ) b d2) (p1 : purAll ds = true) (p2 : pur d2 = true) (k : R.nx ((ρ.set i (.ow (.lst ds))).set j (.va d2))) : Do X ρ (.Assign [.Tuple [.Name x px, .Name y py] kt pt] (.Tuple [a, b] k2 pt2) pos) R :=
  Do.of h.ps fun B S O σ F H Y D q => (DL1.thaw ha fun d z => by rw [z]; exact p1) S O σ F H Y.ok _ fun p us es F1 H1 Y1 t1 h1 h2 h3 h4 z1 => (De1.thaw hb fun d z => by rw [z]; exact p2) S O σ F1 H1 Y1 _ fun v2 e2 F2 H2 Y2 t2 q2 z2 => by
    subst z1 z2
    have f2 := t2.nw p h2 (ne_none h3)
    have f3 := t2.hh p _ h3 (Y.ok.notS h1)
    refine ⟨by show (2 : Nat) ≤ sizeLine; decide, fun T hT => ⟨T, [.ref p, v2], rfl, .inl (.inl upd_same), rfl, .ref p, [v2], rfl, v2, [], rfl, rfl, ?_⟩⟩
    have f3' : (upd H2 T (.tup [.ref p, v2])) p = some (.lst us) := by rw [upd_ne (ne_of_none f3 hT)]; exact f3
    exact q.nx _ S _ _ F2 _ k (((((Y.step t1 Y1).step t2 Y2).newL (o := .tup [.ref p, v2]) hT).loose_set i (Y.free h1) f2 (Y.ok.notO h1) (Y.ok.notS h1) f3' (DqAll.mono t2.ff _ h4)).setV j q2)
theorem do_parUDL {d1 : PyData} {ds : List PyData} (h : ParU X i j x y a b px py pt pt2 pos kt k2) (ha : Dd X (fz ρ) a d1) (hb : DLd X (fz ρ) b ds) (p1 : pur d1 = true) (p2 : purAll ds = true) (k : R.nx ((ρ.set i (.va d1)).set j (.ow (.lst ds)))) : Do X ρ (.Assign [.Tuple [.Name x px, .Name y py] kt pt] (.Tuple [a, b] k2 pt2) pos) R :=
  Do.of h.ps fun B S O σ F H Y D q => (De1.thaw ha fun d z => by rw [z]; exact p1) S O σ F H Y.ok _ fun v1 e1 F1 H1 Y1 t1 q1 z1 => (DL1.thaw hb fun d z => by rw [z]; exact p2) S O σ F1 H1 Y1 _ fun p us es F2 H2 Y2 t2 h1 h2 h3 h4 z2 => by
    subst z1 z2
    refine ⟨by show (2 : Nat) ≤ sizeLine; decide, fun T hT => ⟨T, [v1, .ref p], rfl, .inl (.inl upd_same), rfl, v1, [.ref p], rfl, .ref p, [], rfl, rfl, ?_⟩⟩
    have h3' : (upd H2 T (.tup [v1, .ref p])) p = some (.lst us) := by rw [upd_ne (ne_of_none h3 hT)]; exact h3
    exact q.nx _ S _ _ F2 _ k (((((Y.step t1 Y1).step t2 Y2).newL (o := .tup [v1, .ref p]) hT).setV i (Dq.mono t2.ff _ q1)).loose_set j (Y.free (tr_free t1 h1)) h2 (Y1.notO h1) (Y1.notS h1) h3' h4)
end
end G
namespace K35
open PySem PySem.Spec PyProof.Rows L2 G
local macro_rules | `(tactic| walk_at "mul") => `(tactic| first | exact mulB (by omega) (by omega))
local macro_rules | `(tactic| walk_at "mod") => `(tactic| omega)
local macro_rules | `(tactic| walk_at "div") => `(tactic| first | exact divB (by omega) (by omega))
local macro_rules | `(tactic| walk_at "pre") => `(tactic| first | assumption | (refine ⟨?_, ?_⟩ <;> omega))
local macro_rules | `(tactic| walk_at "shp") => `(tactic| first | rfl | decide)
local macro_rules | `(tactic| walk_at "rng") => `(tactic| omega)
def topS (i : Nat) : Stmt := PySem.Challenge.pw_fourfolds_k35_whole_double_turns.main.body.getD i (.Pass ⟨0, 0, 0, 0⟩)
abbrev z2 (x : Int × Int) : PyData := .tuple [.int x.1, .int x.2]
def dtt (n : Int) (x y : Int × Int) : Int × Int :=
  if x.2 = 0 then ((x.1 + y.1) % (2 * n), y.2) else if y.2 = 0 then ((x.1 - y.1) % (2 * n), 1) else ((x.1 - y.1 + n) % (2 * n), 0)
def dto (n : Int) (x : Int × Int) : Int := if x.2 = 1 then 4 else 2 * n / (Nat.gcd x.1.natAbs (2 * n).natAbs : Nat)
def dtb (n : Int) (x : Int × Int) : Int × Int := if x.2 = 0 then ((-x.1) % (2 * n), 0) else ((x.1 + n) % (2 * n), 1)
section
variable {Pg : Program} {w : World} {K : PySem.W.Frag} {mg : Str → Option Value} {base : Heap}
abbrev s_dtt : Stmt := topS 2
abbrev N_dtt : List Str := ["n", "x", "y", "k", "s", "m", "t"]
theorem sc_dtt : FnScope N_dtt ["n", "x", "y"] (defScope s_dtt) := ⟨rfl, rfl, rfl, by decide +kernel, rfl, by decide +kernel, by decide +kernel⟩
abbrev sp_dtt (K : PySem.W.Frag) : Sp := spV K (ι := Int × (Int × Int) × (Int × Int)) (fun i => [.int i.1, z2 i.2.1, z2 i.2.2]) (fun i => 1 ≤ i.1 ∧ i.1 ≤ 1000) (fun i d => d = z2 (dtt i.1 i.2.1 i.2.2))
theorem ok_dtt {f : Addr} {fd : FuncData} {k : Nat} (F : Fun K "double_turn_times" "double_turn_times" s_dtt f fd) : FnOk Pg w K mg base CX0 (k + 1) f fd ["n", "x", "y"] (sp_dtt K) := by
  refine fn_V F sc_dtt (fun _ => rfl) (by decide) fun ⟨n, x, y⟩ hp cdv A outer s H E hr => ?_
  have hu := hu_r hr
  obtain ⟨h1, h2⟩ : 1 ≤ n ∧ n ≤ 1000 := hp
  refine do_cons (do_asgD (pg_tup rfl (pgs_cons (pg_tup rfl (pgs_cons (pg_name (i := 3) sc_dtt.nd rfl (.inl rfl)) (pgs_cons (pg_name (i := 4) sc_dtt.nd rfl (.inl rfl)) pgs_nil))) (pgs_cons (pg_tup rfl (pgs_cons (pg_name (i := 5) sc_dtt.nd rfl (.inl rfl)) (pgs_cons (pg_name (i := 6) sc_dtt.nd rfl (.inl rfl)) pgs_nil))) pgs_nil))) (dd_tup (da_cons (dd_var 1) (da_cons (dd_var 2) da_nil))) rfl (dg_tup (dgs_cons (dg_tup (dgs_cons (dg_name 3) (dgs_cons (dg_name 4) dgs_nil)) rfl) (dgs_cons (dg_tup (dgs_cons (dg_name 5) (dgs_cons (dg_name 6) dgs_nil)) rfl) dgs_nil)) rfl) ?_)
  refine do_cons (do_ifD (dt_eqI hu (dd_var 4) dd_int) (fun c1 => ?_) (fun c1 => ?_))
  ·
    refine do_cons (do_retD (dd_tup (da_cons (dd_mod (dd_add (dd_var 3) (dd_var 5)) (dd_mul dd_int (dd_var 0) (by walk_at "mul")) (by walk_at "mod")) (da_cons (dd_var 6) da_nil))) rfl ?_)
    show PyData.tuple _ = z2 (dtt n x y)
    rw [dtt, if_pos (by simpa using c1)]
  refine do_nil ?_
  refine do_cons (do_ifD (dt_eqI hu (dd_var 6) dd_int) (fun c2 => ?_) (fun c2 => ?_))
  ·
    refine do_cons (do_retD (dd_tup (da_cons (dd_mod (dd_sub (dd_var 3) (dd_var 5)) (dd_mul dd_int (dd_var 0) (by walk_at "mul")) (by walk_at "mod")) (da_cons dd_int da_nil))) rfl ?_)
    show PyData.tuple _ = z2 (dtt n x y)
    rw [dtt, if_neg (by simpa using c1), if_pos (by simpa using c2)]
  refine do_nil ?_
  refine do_cons (do_retD (dd_tup (da_cons (dd_mod (dd_add (dd_sub (dd_var 3) (dd_var 5)) (dd_var 0)) (dd_mul dd_int (dd_var 0) (by walk_at "mul")) (by walk_at "mod")) (da_cons dd_int da_nil))) rfl ?_)
  show PyData.tuple _ = z2 (dtt n x y)
  rw [dtt, if_neg (by simpa using c1), if_neg (by simpa using c2)]
abbrev s_dto : Stmt := topS 3
abbrev N_dto : List Str := ["n", "x"]
theorem sc_dto : FnScope N_dto ["n", "x"] (defScope s_dto) := ⟨rfl, rfl, rfl, by decide +kernel, rfl, by decide +kernel, by decide +kernel⟩
abbrev sp_dto (K : PySem.W.Frag) : Sp := spV K (ι := Int × (Int × Int)) (fun i => [.int i.1, z2 i.2]) (fun i => 1 ≤ i.1 ∧ i.1 ≤ 1000) (fun i d => d = .int (dto i.1 i.2))
theorem ok_dto {f : Addr} {fd : FuncData} {k : Nat} (F : Fun K "double_turn_order" "double_turn_order" s_dto f fd) (m_gcd : mg "gcd" = some (.builtin "math.gcd")) : FnOk Pg w K mg base CX0 (k + 1) f fd ["n", "x"] (sp_dto K) := by
  refine fn_V F sc_dto (fun _ => rfl) (by decide) fun ⟨n, x⟩ hp cdv A outer s H E hr => ?_
  have hu := hu_r hr
  obtain ⟨h1, h2⟩ : 1 ≤ n ∧ n ≤ 1000 := hp
  refine do_norm (ρ' := [.va (.int n), .va (z2 x)]) rfl ?_
  refine do_cons (do_ifD (dt_eqI hu (dd_ixT (dd_var 1) dd_int rfl) dd_int) (fun c1 => ?_) (fun c1 => ?_))
  · refine do_cons (do_retD dd_int rfl ?_)
    show PyData.int _ = .int (dto n x)
    rw [dto, if_pos (by simpa using c1)]
  refine do_nil ?_
  have hg : 0 < Nat.gcd x.1.natAbs (2 * n).natAbs := Nat.gcd_pos_of_pos_right _ (by omega)
  have hg2 : Nat.gcd x.1.natAbs (2 * n).natAbs ≤ (2 * n).natAbs := Nat.gcd_le_right _ (by omega)
  refine do_cons (do_retD (dd_div (dd_mul dd_int (dd_var 0) (by walk_at "mul")) (dd_gcd (by rfl) m_gcd (dd_ixT (dd_var 1) dd_int rfl) (dd_mul dd_int (dd_var 0) (by walk_at "mul"))) (by walk_at "div")) rfl ?_)
  show PyData.int _ = .int (dto n x)
  rw [dto, if_neg (by simpa using c1)]
abbrev s_dtb : Stmt := topS 4
abbrev N_dtb : List Str := ["n", "x"]
theorem sc_dtb : FnScope N_dtb ["n", "x"] (defScope s_dtb) := ⟨rfl, rfl, rfl, by decide +kernel, rfl, by decide +kernel, by decide +kernel⟩
abbrev sp_dtb (K : PySem.W.Frag) : Sp := spV K (ι := Int × (Int × Int)) (fun i => [.int i.1, z2 i.2]) (fun i => 1 ≤ i.1 ∧ i.1 ≤ 1000) (fun i d => d = z2 (dtb i.1 i.2))
theorem ok_dtb {f : Addr} {fd : FuncData} {k : Nat} (F : Fun K "double_turn_back" "double_turn_back" s_dtb f fd) : FnOk Pg w K mg base CX0 (k + 1) f fd ["n", "x"] (sp_dtb K) := by
  refine fn_V F sc_dtb (fun _ => rfl) (by decide) fun ⟨n, x⟩ hp cdv A outer s H E hr => ?_
  have hu := hu_r hr
  obtain ⟨h1, h2⟩ : 1 ≤ n ∧ n ≤ 1000 := hp
  refine do_cons (do_ifD (dt_eqI hu (dd_ixT (dd_var 1) dd_int rfl) dd_int) (fun c1 => ?_) (fun c1 => ?_))
  · refine do_cons (do_retD (dd_tup (da_cons (dd_mod (dd_neg (dd_ixT (dd_var 1) dd_int rfl)) (dd_mul dd_int (dd_var 0) (by walk_at "mul")) (by walk_at "mod")) (da_cons dd_int da_nil))) rfl ?_)
    show PyData.tuple _ = z2 (dtb n x)
    rw [dtb, if_pos (by simpa using c1)]
  refine do_nil ?_
  refine do_cons (do_retD (dd_tup (da_cons (dd_mod (dd_add (dd_ixT (dd_var 1) dd_int rfl) (dd_var 0)) (dd_mul dd_int (dd_var 0) (by walk_at "mul")) (by walk_at "mod")) (da_cons dd_int da_nil))) rfl ?_)
  show PyData.tuple _ = z2 (dtb n x)
  rw [dtb, if_neg (by simpa using c1)]
abbrev s_lti : Stmt := topS 11
abbrev N_lti : List Str := ["n", "x", "y", "k", "s", "l", "t"]
theorem sc_lti : FnScope N_lti ["n", "x", "y"] (defScope s_lti) := ⟨rfl, rfl, rfl, by decide +kernel, rfl, by decide +kernel, by decide +kernel⟩
theorem ok_lti {f : Addr} {fd : FuncData} {k : Nat} (F : Fun K "_law_times" "_law_times" s_lti f fd) : FnOk Pg w K mg base CX0 (k + 1) f fd ["n", "x", "y"] (sp_dtt K) := by
  refine fn_V F sc_lti (fun _ => rfl) (by decide) fun ⟨n, x, y⟩ hp cdv A outer s H E hr => ?_
  have hu := hu_r hr
  obtain ⟨h1, h2⟩ : 1 ≤ n ∧ n ≤ 1000 := hp
  refine do_cons (do_asgD (pg_tup rfl (pgs_cons (pg_name (i := 3) sc_lti.nd rfl (.inl rfl)) (pgs_cons (pg_name (i := 4) sc_lti.nd rfl (.inl rfl)) pgs_nil))) (dd_var 1) rfl (dg_tup (dgs_cons (dg_name 3) (dgs_cons (dg_name 4) dgs_nil)) rfl) ?_)
  refine do_cons (do_asgD (pg_tup rfl (pgs_cons (pg_name (i := 5) sc_lti.nd rfl (.inl rfl)) (pgs_cons (pg_name (i := 6) sc_lti.nd rfl (.inl rfl)) pgs_nil))) (dd_var 2) rfl (dg_tup (dgs_cons (dg_name 5) (dgs_cons (dg_name 6) dgs_nil)) rfl) ?_)
  refine do_cons (do_ifD (dt_eqI hu (dd_var 4) dd_int) (fun c1 => ?_) (fun c1 => ?_))
  · refine do_cons (do_retD (dd_tup (da_cons (dd_mod (dd_add (dd_var 3) (dd_var 5)) (dd_mul dd_int (dd_var 0) (by walk_at "mul")) (by walk_at "mod")) (da_cons (dd_var 6) da_nil))) rfl ?_)
    show PyData.tuple _ = z2 (dtt n x y)
    rw [dtt, if_pos (by simpa using c1)]
  refine do_nil ?_
  refine do_cons (do_retP (dm_if (dt_eqI hu (dd_var 6) dd_int) (fun c2 => De.imp (dd_tup (da_cons (dd_mod (dd_sub (dd_var 3) (dd_var 5)) (dd_mul dd_int (dd_var 0) (by walk_at "mul")) (by walk_at "mod")) (da_cons dd_int da_nil))) ?_) (fun c2 => De.imp (dd_tup (da_cons (dd_mod (dd_add (dd_sub (dd_var 3) (dd_var 5)) (dd_var 0)) (dd_mul dd_int (dd_var 0) (by walk_at "mul")) (by walk_at "mod")) (da_cons dd_int da_nil))) ?_)))
  · rintro _ rfl
    refine ⟨rfl, ?_⟩
    show PyData.tuple _ = z2 (dtt n x y)
    rw [dtt, if_neg (by simpa using c1), if_pos (by simpa using c2.symm)]
  · rintro _ rfl
    refine ⟨rfl, ?_⟩
    show PyData.tuple _ = z2 (dtt n x y)
    rw [dtt, if_neg (by simpa using c1), if_neg (by simpa using c2.symm)]
abbrev s_lba : Stmt := topS 12
abbrev N_lba : List Str := ["n", "x"]
theorem sc_lba : FnScope N_lba ["n", "x"] (defScope s_lba) := ⟨rfl, rfl, rfl, by decide +kernel, rfl, by decide +kernel, by decide +kernel⟩
theorem ok_lba {f : Addr} {fd : FuncData} {k : Nat} (F : Fun K "_law_back" "_law_back" s_lba f fd) : FnOk Pg w K mg base CX0 (k + 1) f fd ["n", "x"] (sp_dtb K) := by
  refine fn_V F sc_lba (fun _ => rfl) (by decide) fun ⟨n, x⟩ hp cdv A outer s H E hr => ?_
  have hu := hu_r hr
  obtain ⟨h1, h2⟩ : 1 ≤ n ∧ n ≤ 1000 := hp
  refine do_cons (do_retP (dm_if (dt_eqI hu (dd_ixT (dd_var 1) dd_int rfl) dd_int) (fun c1 => De.imp (dd_tup (da_cons (dd_mod (dd_sub dd_int (dd_ixT (dd_var 1) dd_int rfl)) (dd_mul dd_int (dd_var 0) (by walk_at "mul")) (by walk_at "mod")) (da_cons dd_int da_nil))) ?_) (fun c1 => De.imp (dd_tup (da_cons (dd_mod (dd_add (dd_ixT (dd_var 1) dd_int rfl) (dd_var 0)) (dd_mul dd_int (dd_var 0) (by walk_at "mul")) (by walk_at "mod")) (da_cons dd_int da_nil))) ?_)))
  · rintro _ rfl
    refine ⟨rfl, ?_⟩
    show PyData.tuple _ = z2 (dtb n x)
    rw [dtb, if_pos (by simpa using c1.symm), Int.zero_sub]
  · rintro _ rfl
    refine ⟨rfl, ?_⟩
    show PyData.tuple _ = z2 (dtb n x)
    rw [dtb, if_neg (by simpa using c1.symm)]
def ordF (n : Int) (x : Int × Int) : Nat → Int → Int × Int → Int
  | 0, told, _ => told
  | f + 1, told, here => if here ≠ (0, 0) ∧ told ≤ 4 * n then ordF n x f (told + 1) (dtt n here x) else told
theorem eqv_z2 (x y : Int × Int) : PyData.eqv (z2 x) (z2 y) = decide (x = y) := by
  obtain ⟨a, b⟩ := x
  obtain ⟨c, d⟩ := y
  show ((a == c) && ((b == d) && true)) = _
  by_cases h1 : a = c <;> by_cases h2 : b = d <;> simp [h1, h2]
abbrev s_lor : Stmt := topS 13
abbrev N_lor : List Str := ["n", "x", "told", "here"]
theorem sc_lor : FnScope N_lor ["n", "x"] (defScope s_lor) := ⟨rfl, rfl, rfl, by decide +kernel, rfl, by decide +kernel, by decide +kernel⟩
abbrev sp_lor (K : PySem.W.Frag) : Sp := spV K (ι := Int × (Int × Int)) (fun i => [.int i.1, z2 i.2]) (fun i => 1 ≤ i.1 ∧ i.1 ≤ 1000) (fun i d => d = .int (ordF i.1 i.2 (4 * i.1).toNat 1 i.2))
theorem ok_lor {f : Addr} {fd : FuncData} (F : Fun K "_law_order" "_law_order" s_lor f fd) (F_lti : Fn Pg w K mg base "_law_times" ["n", "x", "y"] 1 (sp_dtt K)) : FnOk Pg w K mg base CX0 2 f fd ["n", "x"] (sp_lor K) := by
  refine fn_V F sc_lor (fun _ => rfl) (by decide) fun ⟨n, x⟩ hp cdv A outer s H E hr => ?_
  have hu := hu_r hr
  obtain ⟨h1, h2⟩ : 1 ≤ n ∧ n ≤ 1000 := hp
  refine do_cons (do_parDD (i := 2) (j := 3) ⟨rfl, sc_lor.nd, rfl, rfl, by decide, rfl, rfl, rfl, rfl, rfl, rfl⟩ dd_int (dd_var 1) rfl rfl ?_)
  refine do_cons (do_while (fun m ρ1 => ∃ (told : Int) (here : Int × Int), ρ1 = [.va (.int n), .va (z2 x), .va (.int told), .va (z2 here)] ∧ (m : Int) = 4 * n + 1 - told ∧ ordF n x m told here = ordF n x (4 * n).toNat 1 x) (4 * n).toNat PassesOwn.never ⟨1, x, rfl, by omega, rfl⟩ fun m ρ1 iv => ?_)
  obtain ⟨told, here, rfl, hm, ho⟩ := iv
  refine ⟨_, (dw_t (dw_and (dt_ne hu (dd_var 3) (dd_tup (da_cons dd_int (da_cons dd_int da_nil))) (by walk_at "shp") (by walk_at "shp")) fun _ => (dw_and1 (dt_le (dd_var 2) (dd_mul dd_int (dd_var 0) (by walk_at "mul")))))), fun h => ?_, fun h => ?_⟩
  · have hh : (!PyData.eqv (z2 here) (z2 (0, 0)) && decide (told ≤ 4 * n)) = true := h.symm
    rw [eqv_z2, Bool.and_eq_true, Bool.not_eq_true', decide_eq_false_iff_not, decide_eq_true_eq] at hh
    obtain ⟨m', rfl⟩ : ∃ m', m = m' + 1 := ⟨m - 1, by omega⟩
    rw [ordF, if_pos hh] at ho
    refine do_cons (do_parDD (i := 2) (j := 3) ⟨rfl, sc_lor.nd, rfl, rfl, by decide, rfl, rfl, rfl, rfl, rfl, rfl⟩ (dd_add (dd_var 2) dd_int) (dd_call F_lti (hr.mono (by decide)) (by rfl) (da_cons (dd_var 0) (da_cons (dd_var 3) (da_cons (dd_var 1) da_nil))) ⟨_, ⟨_, _⟩, ⟨_, _⟩⟩ rfl (by walk_at "pre") (fun _ h => h)) rfl rfl ?_)
    refine do_nil ?_
    exact ⟨m', Nat.lt_succ_self _, told + 1, dtt n here x, rfl, by omega, ho⟩
  · have hh : (!PyData.eqv (z2 here) (z2 (0, 0)) && decide (told ≤ 4 * n)) = false := h.symm
    rw [eqv_z2, Bool.and_eq_false_iff, Bool.not_eq_false', decide_eq_true_eq, decide_eq_false_iff_not] at hh
    have e : ordF n x m told here = told := by
      cases m with
      | zero => rfl
      | succ m =>
        rw [ordF, if_neg]
        rintro ⟨a, b⟩
        rcases hh with z | z
        · exact a z
        · exact z b
    refine do_cons (do_retD (dd_var 2) rfl ?_)
    show PyData.int told = .int (ordF n x (4 * n).toNat 1 x)
    rw [← ho, e]
end
end K35
namespace K35
open PySem PySem.Spec PyProof.Rows L2 G
local macro_rules | `(tactic| walk_at "mul") => `(tactic| first | exact mulB (by omega) (by omega))
local macro_rules | `(tactic| walk_at "mod") => `(tactic| omega)
local macro_rules | `(tactic| walk_at "div") => `(tactic| first | exact divB (by omega) (by omega))
local macro_rules | `(tactic| walk_at "pre") => `(tactic| first | assumption | (refine ⟨?_, ?_⟩ <;> omega))
local macro_rules | `(tactic| walk_at "shp") => `(tactic| first | rfl | decide)
local macro_rules | `(tactic| walk_at "rng") => `(tactic| omega)
theorem foldl_snoc {α β : Type} (f : α → β) : ∀ (l : List α) (s : List β), l.foldl (fun acc u => acc ++ [f u]) s = s ++ l.map f
  | [], s => by simp
  | x :: l, s => by rw [List.foldl_cons, foldl_snoc f l, List.map_cons, List.append_assoc]; rfl
abbrev i2 (x : Int × Int) : List Int := [x.1, x.2]
def c2 (x : Int × Int) : Int := x.1 * 64 + x.2
/-- 0 ≤ k < 2 n, s = 0 or 1 -/
def In2 (n : Int) (x : Int × Int) : Prop := 0 ≤ x.1 ∧ x.1 < 2 * n ∧ (x.2 = 0 ∨ x.2 = 1)
theorem in_dtt {n : Int} {x y : Int × Int} (h1 : 1 ≤ n) (hy : In2 n y) : In2 n (dtt n x y) := by
  obtain ⟨a, b, c⟩ := hy
  have p : 0 < 2 * n := by omega
  unfold dtt
  split
  · exact ⟨Int.emod_nonneg _ (by omega), Int.emod_lt_of_pos _ p, c⟩
  · split
    · exact ⟨Int.emod_nonneg _ (by omega), Int.emod_lt_of_pos _ p, .inr rfl⟩
    · exact ⟨Int.emod_nonneg _ (by omega), Int.emod_lt_of_pos _ p, .inl rfl⟩
theorem in_dtb {n : Int} {x : Int × Int} (h1 : 1 ≤ n) : In2 n (dtb n x) := by
  have p : 0 < 2 * n := by omega
  unfold dtb
  split
  · exact ⟨Int.emod_nonneg _ (by omega), Int.emod_lt_of_pos _ p, .inl rfl⟩
  · exact ⟨Int.emod_nonneg _ (by omega), Int.emod_lt_of_pos _ p, .inr rfl⟩
def grp (n : Int) : List (Int × Int) := (List.range (2 * n).toNat).flatMap fun (k : Nat) => [((k : Int), (0 : Int)), ((k : Int), (1 : Int))]
theorem grp_in {n : Int} {x : Int × Int} (h : x ∈ grp n) : In2 n x := by
  obtain ⟨k, hk, hx⟩ := List.mem_flatMap.mp h
  have := List.mem_range.mp hk
  rcases List.mem_cons.mp hx with rfl | hx
  · exact ⟨by show (0 : Int) ≤ k; omega, by show (k : Int) < _; omega, .inl rfl⟩
  · rw [List.mem_singleton] at hx
    subst hx
    exact ⟨by show (0 : Int) ≤ k; omega, by show (k : Int) < _; omega, .inr rfl⟩
def cnj (n : Int) (x u : Int × Int) : Int × Int := dtt n (dtt n u x) (dtb n u)
def lotF (n : Int) (x : Int × Int) : List (Int × Int) := ssC c2 ((grp n).map (cnj n x))
def insM (met : List (Int × Int)) (y : Int × Int) : List (Int × Int) := if y ∈ met then met else met ++ [y]
def lotsStep (n : Int) (s : List (Int × Int) × List (List (Int × Int))) (x : Int × Int) : List (Int × Int) × List (List (Int × Int)) :=
  if x ∈ s.1 then s else ((lotF n x).foldl insM s.1, s.2 ++ [lotF n x])
def lotsF (n : Int) : List (List (Int × Int)) := ((grp n).foldl (lotsStep n) ([], [])).2
abbrev kN (x : Int × Int) : NestedKey := .tup [.num x.1, .num x.2]
abbrev metD (m : List (Int × Int)) : List (NestedKey × PyData) := m.map fun x => (kN x, .bool true)
theorem kN_inj {x y : Int × Int} : kN x = kN y ↔ x = y := ⟨fun h => by injection h with h; injection h with h1 h2; injection h2 with h2 _; injection h1 with h1; injection h2 with h2; exact Prod.ext h1 h2, fun h => by rw [h]⟩
theorem lookD_met (y : Int × Int) : ∀ m : List (Int × Int), (lookD (metD m) (kN y)).isSome = decide (y ∈ m)
  | [] => by simp [lookD]
  | x :: m => by
    have ih := lookD_met y m
    unfold lookD at ih ⊢
    show (Option.map _ (List.find? _ ((kN x, PyData.bool true) :: metD m))).isSome = _
    rw [List.find?_cons]
    by_cases h : x = y
    · simp [h]
    · have h' : ¬ kN x = kN y := fun z => h (kN_inj.mp z)
      simp only [h', decide_false]
      rw [ih]
      have : ¬ y = x := fun z => h z.symm
      simp [this]
theorem putD_met (y : Int × Int) (m : List (Int × Int)) : putD (metD m) (kN y) (.bool true) = metD (insM m y) := by
  unfold putD insM
  rw [lookD_met]
  by_cases h : y ∈ m
  · rw [if_pos h, if_pos (by simpa using h), List.map_map]
    refine List.map_congr_left fun x hx => ?_
    show (if kN x = kN y then (kN x, PyData.bool true) else (kN x, PyData.bool true)) = _
    split <;> rfl
  · rw [if_neg h, if_neg (by simpa using h), metD, metD, List.map_append]; rfl
theorem insM_len (y : Int × Int) (m : List (Int × Int)) : (insM m y).length ≤ m.length + 1 := by
  unfold insM
  split
  · omega
  · simp
theorem foldM_len (l : List (Int × Int)) : ∀ m, (l.foldl insM m).length ≤ m.length + l.length := by
  induction l with
  | nil => intro m; simp
  | cons y l ih =>
    intro m
    have h1 := ih (insM m y)
    have h2 := insM_len y m
    rw [List.foldl_cons, List.length_cons]
    omega
theorem insC_len (c : Int × Int → Int) (x : Int × Int) : ∀ l, (insC c x l).length ≤ l.length + 1
  | [] => by simp [insC]
  | y :: l => by
    unfold insC
    split
    · simp
    · split
      · simp
      · have := insC_len c x l
        simp only [List.length_cons]; omega
theorem ssC_len (c : Int × Int → Int) : ∀ l, (ssC c l).length ≤ l.length
  | [] => by simp [ssC]
  | y :: l => by
    have := insC_len c y (ssC c l)
    have := ssC_len c l
    simp only [ssC, List.length_cons]; omega
theorem grp_len (n : Int) : (grp n).length = 2 * (2 * n).toNat := by
  unfold grp
  induction (2 * n).toNat with
  | zero => rfl
  | succ k ih => rw [List.range_succ, List.flatMap_append, List.length_append, ih]; simp; omega
theorem lotF_len (n : Int) (x) : (lotF n x).length ≤ 2 * (2 * n).toNat := by
  have := ssC_len c2 ((grp n).map (cnj n x))
  rw [List.length_map, grp_len] at this
  exact this
/-- what has been met and told after a part of the group -/
theorem steps_len (n : Int) (l : List (Int × Int)) : (l.foldl (lotsStep n) ([], [])).1.length ≤ l.length * (2 * (2 * n).toNat) ∧ (l.foldl (lotsStep n) ([], [])).2.length ≤ l.length := by
  suffices h : ∀ s, (l.foldl (lotsStep n) s).1.length ≤ s.1.length + l.length * (2 * (2 * n).toNat) ∧ (l.foldl (lotsStep n) s).2.length ≤ s.2.length + l.length by
    have := h ([], [])
    simpa using this
  induction l with
  | nil => intro s; simp
  | cons x l ih =>
    intro s
    rw [List.foldl_cons, List.length_cons, Nat.succ_mul]
    obtain ⟨h1, h2⟩ := ih (lotsStep n s x)
    have h3 : (lotsStep n s x).1.length ≤ s.1.length + 2 * (2 * n).toNat ∧ (lotsStep n s x).2.length ≤ s.2.length + 1 := by
      unfold lotsStep
      split
      · omega
      · have := foldM_len (lotF n x) s.1
        have := lotF_len n x
        refine ⟨?_, ?_⟩
        · show ((lotF n x).foldl insM s.1).length ≤ _
          omega
        · show (s.2 ++ [lotF n x]).length ≤ _
          simp
    omega
theorem inj2 {n : Int} (hn : n ≤ 12) {a b : Int × Int} (ha : In2 n a) (hb : In2 n b) (h : c2 a = c2 b) : a = b := by
  obtain ⟨a1, a2, a3⟩ := ha
  obtain ⟨b1, b2, b3⟩ := hb
  unfold c2 at h
  exact Prod.ext (by omega) (by omega)
theorem code2 (x : Int × Int) : TS.code 64 (i2 x) = c2 x := by
  rw [code_pair]; rfl
theorem bd2 {n : Int} (hn : n ≤ 12) {x : Int × Int} (h : In2 n x) : TS.Bd 64 (i2 x) := by
  obtain ⟨a1, a2, a3⟩ := h
  intro m hm
  rcases List.mem_cons.mp hm with rfl | hm
  · omega
  · rw [List.mem_singleton] at hm; subst hm; omega
section
variable {Pg : Program} {w : World} {K : PySem.W.Frag} {mg : Str → Option Value} {base : Heap}
abbrev s_dtl : Stmt := topS 5
abbrev N_dtl : List Str := ["n", "group", "met", "told", "x", "lot", "u", "y", "k", "s"]
theorem sc_dtl : FnScope N_dtl ["n"] (defScope s_dtl) := ⟨rfl, rfl, rfl, by decide +kernel, rfl, by decide +kernel, by decide +kernel⟩
theorem vn_dtl : namesOk N_dtl (defScope s_dtl) 8 = true := by decide +kernel
abbrev sp_dtl (K : PySem.W.Frag) : Sp := spL K (ι := Int) (fun i => [.int i]) (fun i => 1 ≤ i ∧ i ≤ 12) (fun i d => d = (lotsF i).map fun l => .tuple (l.map z2))
theorem ok_dtl {f : Addr} {fd : FuncData} (F : Fun K "double_turn_lots" "double_turn_lots" s_dtl f fd) (F_dtt : Fn Pg w K mg base "double_turn_times" ["n", "x", "y"] 1 (sp_dtt K)) (F_dtb : Fn Pg w K mg base "double_turn_back" ["n", "x"] 1 (sp_dtb K)) (m_range : mg "range" = none) (m_sorted : mg "sorted" = none) (m_set : mg "set" = none) (m_tuple : mg "tuple" = none) : FnOk Pg w K mg base CX0 2 f fd ["n"] (sp_dtl K) := by
  refine fn_L F sc_dtl (fun _ => rfl) (by decide) fun n hp cdv A outer s H E hr => ?_
  have hu := hu_r hr
  have vn := vn_dtl
  obtain ⟨p1, h2⟩ : 1 ≤ n ∧ n ≤ 12 := hp
  refine do_norm (ρ' := [.va (.int n), .no, .no, .no, .no, .no, .no, .no, .no, .no]) rfl ?_
  refine do_cons (do_setCV 1 rfl rfl (lc_M2T (vs1 := [9]) (List.range (2 * n).toNat) (fun k => .int (0 + (k : Nat))) (fun _ => [(0 : Int), 1]) (fun _ s => .int s) (fun k s => z2 ((k : Int), s)) _ _ _ _ 2 rfl sc_dtl.nd (dI_range1 (by rfl) m_range (dd_mul dd_int (dd_varn vn 0) (by walk_at "mul")) (by walk_at "rng")) (blkOk_by (own := [("k", 8), ("s", 9)]) (N := N_dtl) (sc := defScope s_dtl) (by decide +kernel)) (by decide) (fun _ _ => Nat.le_refl _) (by rw [List.length_range]; omega) (fun _ _ _ _ _ => (pg_name (i := 8) sc_dtl.nd rfl (.inl rfl))) (fun _ _ _ _ _ => (pg_name (i := 9) sc_dtl.nd rfl (.inl rfl))) (fun x hx _ _ _ _ _ => (dd_tup (da_cons dd_int (da_cons dd_int da_nil)))) (fun x hx => (dg_name 8)) (by decide) (fun x hx y hy => (dg_name 9)) (by decide) (fun x hx y hy _ _ _ _ _ => by
    refine De.imp (dd_tup (da_cons (dd_var 8) (da_cons (dd_var 9) da_nil))) ?_
    rintro _ rfl
    rw [Int.zero_add])) (fun d z => ?_) (sw_true rfl rfl rfl (by decide +kernel)))
  have hg : d = (grp n).map z2 := by
    rw [z, grp, map_flat]; rfl
  subst hg
  refine do_norm (ρ' := [_, _, _, _, _, _, _, _, _, _]) rfl ?_
  refine do_cons (do_dnew 2 sc_dtl.nd rfl (lo vn 2) ?_)
  refine do_norm (ρ' := [_, _, _, _, _, _, _, _, _, _]) rfl ?_
  refine do_cons (do_setLD 3 sc_dtl.nd rfl (lo vn 3) (dl_lst da_nil) rfl ?_)
  refine do_norm (ρ' := [_, _, _, _, _, _, _, _, _, _]) rfl ?_
  refine do_cons (do_fold (grp n) z2 ([], []) (lotsStep n) (fun s => [.va (.int n), .va (.list ((grp n).map z2)), .ow (.dX (metD s.1)), .ow (.lst (s.2.map fun l => .tuple (l.map z2))), .no, .no, .no, .no, .no, .no]) PassesOwn.never rfl (dI_list (dd_varn vn 1)) (pg_name (i := 4) sc_dtl.nd rfl (lo vn 4)) (Fits.refl _) (fun i x s hx hs => ⟨_, _, (dg_name 4), ?turn1⟩) ?_ (fun _ _ a b => do_fit a b))
  case turn1 =>
    have hx2 := grp_in (List.mem_of_getElem? hx)
    obtain ⟨l1, l2⟩ := steps_len n ((grp n).take i)
    rw [← hs, List.length_take, grp_len] at l1 l2
    have l3 : s.1.length ≤ 48 * 48 := Nat.le_trans l1 (Nat.mul_le_mul (by omega) (by omega))
    refine do_norm (ρ' := [_, _, _, _, _, _, _, _, _, _]) rfl ?_
    refine do_cons (do_ifD (dt_dNotIn hu 2 rfl (vi vn 2) rfl [.num x.1, .num x.2] (dd_varz vn 4) rfl (show 1 ≤ 8 by decide)) (fun h1 => ?_) (fun h1 => ?_))
    · have hn : ¬ x ∈ s.1 := by
        intro z
        have e := lookD_met x s.1
        rw [show lookD (metD s.1) (.tup [.num x.1, .num x.2]) = lookD (metD s.1) (kN x) from rfl] at h1
        rw [e, decide_eq_true z] at h1
        cases h1
      refine do_cons (do_setLD 5 sc_dtl.nd rfl (lo vn 5) (dl_lst da_nil) rfl ?_)
      refine do_norm (ρ' := [_, _, _, _, _, _, _, _, _, _]) rfl ?_
      refine do_cons (do_fold (grp n) z2 [] (fun acc u => acc ++ [cnj n x u]) (fun acc => [.va (.int n), .va (.list ((grp n).map z2)), .ow (.dX (metD s.1)), .ow (.lst (s.2.map fun l => .tuple (l.map z2))), .va (z2 x), .ow (.lst (acc.map z2)), .no, .no, .no, .no]) PassesOwn.never rfl (dI_list (dd_varn vn 1)) (pg_name (i := 6) sc_dtl.nd rfl (lo vn 6)) (Fits.refl _) (fun i u acc hu' ha => ⟨_, _, (dg_name 6), ?turn2⟩) ?_ (fun _ _ a b => do_fit a b))
      case turn2 =>
        refine do_norm (ρ' := [_, _, _, _, _, _, _, _, _, _]) rfl ?_
        have la : acc.length ≤ 48 := by
          rw [ha, foldl_snoc, List.nil_append, List.length_map, List.length_take, grp_len]
          omega
        refine do_cons (do_appendD 5 rfl (vi vn 5) rfl (dd_call F_dtt (hr.mono (by decide)) (by rfl) (da_cons (dd_varz vn 0) (da_cons (dd_call F_dtt (hr.mono (by decide)) (by rfl) (da_cons (dd_varz vn 0) (da_cons (dd_varz vn 6) (da_cons (dd_varz vn 4) da_nil))) ⟨_, ⟨_, _⟩, ⟨_, _⟩⟩ rfl (by walk_at "pre") (fun _ h => h)) (da_cons (dd_call F_dtb (hr.mono (by decide)) (by rfl) (da_cons (dd_varz vn 0) (da_cons (dd_varz vn 6) da_nil)) ⟨_, ⟨_, _⟩⟩ rfl (by walk_at "pre") (fun _ h => h)) da_nil))) ⟨_, ⟨_, _⟩, ⟨_, _⟩⟩ rfl (by walk_at "pre") (fun _ h => h)) rfl (by rw [List.length_map]; omega) ?_)
        refine do_nil ?_
        refine ⟨.inr rfl, .inr rfl, .inr rfl, .inr rfl, .inr rfl, .inr ?_, .inl rfl, .inl rfl, .inl rfl, .inl rfl, True.intro⟩
        rw [List.map_append]; rfl
      have el : (grp n).foldl (fun acc u => acc ++ [cnj n x u]) [] = (grp n).map (cnj n x) := by
        rw [foldl_snoc, List.nil_append]
      rw [el]
      refine do_cons (do_setV 5 sc_dtl.nd rfl (lo vn 5) (dl_sset (d := 2) (xs := (grp n).map (cnj n x)) 64 i2 c2 rfl hu (by decide) (by rfl) m_sorted (by rfl) m_set (dd_varz vn 5) rfl ?h64 ?hB (fun y _ => code2 y) ?inj) (purAll_map (fun _ => rfl) _) ?_)
      case h64 => rw [List.length_map, grp_len]; omega
      case hB =>
        intro y hy
        obtain ⟨u, hu, rfl⟩ := List.mem_map.mp hy
        exact ⟨rfl, bd2 h2 (in_dtt p1 (in_dtb p1))⟩
      case inj =>
        intro a ha b hb
        obtain ⟨u, hu, rfl⟩ := List.mem_map.mp ha
        obtain ⟨v, hv, rfl⟩ := List.mem_map.mp hb
        exact inj2 h2 (in_dtt p1 (in_dtb p1)) (in_dtt p1 (in_dtb p1))
      refine do_norm (ρ' := [.va (.int n), .va (.list ((grp n).map z2)), .ow (.dX (metD s.1)), .ow (.lst (s.2.map fun l => .tuple (l.map z2))), .va (z2 x), .va (.list ((lotF n x).map z2)), .no, .no, .no, .no]) rfl ?_
      refine do_cons (do_fold (lotF n x) z2 s.1 insM (fun m => [.va (.int n), .va (.list ((grp n).map z2)), .ow (.dX (metD m)), .ow (.lst (s.2.map fun l => .tuple (l.map z2))), .va (z2 x), .va (.list ((lotF n x).map z2)), .no, .no, .no, .no]) PassesOwn.never rfl (dI_list (dd_varn vn 5)) (pg_name (i := 7) sc_dtl.nd rfl (lo vn 7)) (Fits.refl _) (fun i y m hy hm => ⟨_, _, (dg_name 7), ?turn3⟩) ?_ (fun _ _ a b => do_fit a b))
      case turn3 =>
        refine do_norm (ρ' := [_, _, _, _, _, _, _, _, _, _]) rfl ?_
        have lm : m.length ≤ 1000000 := by
          have q := foldM_len ((lotF n x).take i) s.1
          rw [← hm, List.length_take] at q
          have := lotF_len n x
          omega
        refine do_cons (do_dput 2 (ks := [.num y.1, .num y.2]) hu rfl (vi vn 2) rfl (dd_varz vn 7) rfl (show 1 ≤ 8 by decide) dd_bool rfl (by rw [List.length_map]; exact lm) ?_)
        refine do_nil ?_
        refine ⟨.inr rfl, .inr rfl, .inr ?_, .inr rfl, .inr rfl, .inr rfl, .inl rfl, .inl rfl, .inl rfl, .inl rfl, True.intro⟩
        exact (congrArg (fun z => Sl.ow (.dX z)) (putD_met y m)).symm
      refine do_cons (do_appendD 3 rfl (vi vn 3) rfl (dd_tuple (by rfl) m_tuple (dd_varz vn 5) (.inl rfl)) (purAll_map (fun _ => rfl) _) (by rw [List.length_map]; omega) ?_)
      refine do_nil ?_
      refine do_nil ?_
      rw [lotsStep, if_neg hn]
      refine ⟨.inr rfl, .inr rfl, .inr rfl, .inr ?_, .inl rfl, .inl rfl, .inl rfl, .inl rfl, .inl rfl, .inl rfl, True.intro⟩
      rw [List.map_append]; rfl
    · have hn : x ∈ s.1 := by
        have e := lookD_met x s.1
        rw [show lookD (metD s.1) (.tup [.num x.1, .num x.2]) = lookD (metD s.1) (kN x) from rfl] at h1
        rw [e] at h1
        by_cases z : x ∈ s.1
        · exact z
        · rw [decide_eq_false z] at h1; cases h1
      refine do_nil ?_
      refine do_nil ?_
      rw [lotsStep, if_pos hn]
      exact ⟨.inr rfl, .inr rfl, .inr rfl, .inr rfl, .inl rfl, .inl rfl, .inl rfl, .inl rfl, .inl rfl, .inl rfl, True.intro⟩
  refine do_cons (do_retO 3 rfl (vi vn 3) rfl ?_)
  rfl
end
end K35
namespace K35
open PySem PySem.Spec PyProof.Rows L2 G
def lawStep (n : Int) (s : List (Int × Int) × List (List (Int × Int))) : List (Int × Int) × List (List (Int × Int)) :=
  match s.1 with
  | [] => s
  | x :: _ => (s.1.filter fun y => !decide (y ∈ lotF n x), s.2 ++ [lotF n x])
def lawRun (n : Int) : Nat → List (Int × Int) × List (List (Int × Int))
  | 0 => (srC c2 (grp n), [])
  | k + 1 => lawStep n (lawRun n k)
def lotsOk (n : Int) : Bool := (lawRun n (n + 4).toNat).1.isEmpty && decide ((lawRun n (n + 4).toNat).2 = lotsF n) && decide ((lotsF n).length = (n + 3).toNat)
theorem lots1 : lotsOk 1 = true := by decide +kernel
theorem lots2 : lotsOk 2 = true := by decide +kernel
theorem lots3 : lotsOk 3 = true := by decide +kernel
theorem lots4 : lotsOk 4 = true := by decide +kernel
theorem lots5 : lotsOk 5 = true := by decide +kernel
theorem lots6 : lotsOk 6 = true := by decide +kernel
theorem lots7 : lotsOk 7 = true := by decide +kernel
theorem lots8 : lotsOk 8 = true := by decide +kernel
theorem lots9 : lotsOk 9 = true := by decide +kernel
theorem lots10 : lotsOk 10 = true := by decide +kernel
theorem lots11 : lotsOk 11 = true := by decide +kernel
theorem lots12 : lotsOk 12 = true := by decide +kernel
theorem lots_ok {n : Int} (h1 : 1 ≤ n) (h2 : n ≤ 12) : (lawRun n (n + 4).toNat).1 = [] ∧ (lawRun n (n + 4).toNat).2 = lotsF n ∧ (lotsF n).length = (n + 3).toNat := by
  have h : lotsOk n = true := by
    have : n = 1 ∨ n = 2 ∨ n = 3 ∨ n = 4 ∨ n = 5 ∨ n = 6 ∨ n = 7 ∨ n = 8 ∨ n = 9 ∨ n = 10 ∨ n = 11 ∨ n = 12 := by omega
    rcases this with rfl | rfl | rfl | rfl | rfl | rfl | rfl | rfl | rfl | rfl | rfl | rfl
    · exact lots1
    · exact lots2
    · exact lots3
    · exact lots4
    · exact lots5
    · exact lots6
    · exact lots7
    · exact lots8
    · exact lots9
    · exact lots10
    · exact lots11
    · exact lots12
  unfold lotsOk at h
  rw [Bool.and_eq_true, Bool.and_eq_true, decide_eq_true_eq, decide_eq_true_eq, List.isEmpty_iff] at h
  exact ⟨h.1.1, h.1.2, h.2⟩
theorem assoc {n : Int} {x y z : Int × Int} (h1 : 1 ≤ n) (hx : In2 n x) (hy : In2 n y) (hz : In2 n z) : dtt n (dtt n x y) z = dtt n x (dtt n y z) := by
  obtain ⟨k, s⟩ := x
  obtain ⟨l, t⟩ := y
  obtain ⟨m, u⟩ := z
  have e2 : ∀ a b : Int, a = b + 2 * n → a % (2 * n) = b % (2 * n) := fun a b e => by rw [e, Int.add_emod_right]
  have hA : ∀ a b c : Int, (a % (2 * n) - b + c) % (2 * n) = (a - b + c) % (2 * n) := fun a b c => by
    rw [show a % (2 * n) - b + c = a % (2 * n) + (c - b) by omega, Int.emod_add_emod]
    congr 1; omega
  have hB : ∀ a b c : Int, (a - b % (2 * n) + c) % (2 * n) = (a - b + c) % (2 * n) := fun a b c => by
    rw [show a - b % (2 * n) + c = (a + c) - b % (2 * n) by omega, Int.sub_emod_emod]
    congr 1; omega
  rcases hx.2.2 with hs | hs <;> rcases hy.2.2 with ht | ht <;> rcases hz.2.2 with hu | hu <;> simp only at hs ht hu <;> subst hs ht hu <;> simp only [dtt] <;> simp [Int.emod_add_emod, Int.add_emod_emod, Int.emod_sub_emod, Int.sub_emod_emod, hA, hB]
  all_goals first
    | (congr 1; omega)
    | (apply e2; omega)
    | (symm; apply e2; omega)
    | skip
theorem back_ok {n : Int} {x : Int × Int} (h1 : 1 ≤ n) (hx : In2 n x) : dtt n x (dtb n x) = (0, 0) := by
  obtain ⟨k, s⟩ := x
  have e0 : ∀ a : Int, a = 0 → a % (2 * n) = 0 := fun a e => by rw [e, Int.zero_emod]
  rcases hx.2.2 with hs | hs <;> simp only at hs <;> subst hs
  · simp only [dtt, dtb]
    simp [Int.add_emod_emod]
    exact e0 _ (by omega)
  · simp only [dtt, dtb]
    simp [Int.add_emod_emod, Int.sub_emod_emod, Int.emod_add_emod]
    rw [Int.add_emod, Int.sub_emod_emod, ← Int.add_emod]
    exact e0 _ (by omega)
/-- k, 2 k, .. mod 2 n: the first that is 0 -/
theorem ord_run {M k g : Nat} (hM : 0 < M) (hg : g = Nat.gcd k M) (n : Int) (hn : (M : Int) = 2 * n) : ∀ (d j f : Nat), 1 ≤ j → j + d = M / g → (f : Int) = 4 * n + 1 - j → ordF n ((k : Int), 0) f j (((j * k : Nat) : Int) % (2 * n), 0) = ((M / g : Nat) : Int) := by
  have hgM : g ∣ M := hg ▸ Nat.gcd_dvd_right k M
  have hgp : 0 < g := hg ▸ Nat.gcd_pos_of_pos_right k hM
  have hq : M / g ≤ M := Nat.div_le_self M g
  have key : ∀ j, (((j * k : Nat) : Int) % (2 * n) = 0) ↔ M / g ∣ j := fun j => by
    rw [← hn, ← Int.dvd_iff_emod_eq_zero, Int.natCast_dvd_natCast]
    have co : Nat.Coprime (k / g) (M / g) := by rw [hg]; exact Nat.coprime_div_gcd_div_gcd (hg ▸ hgp)
    have eM : M = g * (M / g) := (Nat.mul_div_cancel' hgM).symm
    have ek : k = g * (k / g) := (Nat.mul_div_cancel' (hg ▸ Nat.gcd_dvd_left k M)).symm
    have e1 : j * k = g * (j * (k / g)) := by
      calc j * k = j * (g * (k / g)) := by rw [← ek]
        _ = g * (j * (k / g)) := Nat.mul_left_comm _ _ _
    rw [e1]
    constructor
    · intro h
      rw [eM] at h
      exact Nat.Coprime.dvd_of_dvd_mul_right co.symm (Nat.dvd_of_mul_dvd_mul_left hgp h)
    · intro h
      rw [eM]
      exact Nat.mul_dvd_mul_left g (Nat.dvd_mul_right_of_dvd h _)
  intro d
  induction d with
  | zero =>
    intro j f h1 h2 h3
    have h0 : ((j * k : Nat) : Int) % (2 * n) = 0 := (key j).mpr (by rw [← h2]; exact Nat.dvd_refl _)
    rw [h0]
    cases f with
    | zero => rw [ordF, ← h2]; rfl
    | succ f => rw [ordF, if_neg (by simp), ← h2]; rfl
  | succ d ih =>
    intro j f h1 h2 h3
    have hj : j < M / g := by omega
    have h0 : ¬ ((j * k : Nat) : Int) % (2 * n) = 0 := fun z => by
      have := Nat.le_of_dvd (by omega) ((key j).mp z)
      omega
    obtain ⟨f, rfl⟩ : ∃ f', f = f' + 1 := ⟨f - 1, by omega⟩
    rw [ordF, if_pos ⟨fun z => h0 (congrArg Prod.fst z), by omega⟩]
    have := ih (j + 1) f (by omega) (by omega) (by omega)
    rw [← this]
    congr 1
    show dtt n _ _ = _
    rw [dtt, if_pos rfl]
    show ((((j * k : Nat) : Int) % (2 * n) + (k : Int)) % (2 * n), (0 : Int)) = _
    rw [Int.emod_add_emod, Nat.succ_mul, Int.natCast_add]
theorem ord_ok {n : Int} {x : Int × Int} (h1 : 1 ≤ n) (hx : In2 n x) : ordF n x (4 * n).toNat 1 x = dto n x := by
  obtain ⟨k, s⟩ := x
  obtain ⟨a, b, c⟩ := hx
  simp only at a b c
  rcases c with c | c
  · subst c
    have hM : (((2 * n).toNat : Nat) : Int) = 2 * n := Int.toNat_of_nonneg (by omega)
    have hk : ((k.toNat : Nat) : Int) = k := Int.toNat_of_nonneg a
    have hg1 : Nat.gcd k.toNat (2 * n).toNat ≤ (2 * n).toNat := Nat.gcd_le_right _ (by omega)
    have hg0 : 0 < Nat.gcd k.toNat (2 * n).toNat := Nat.gcd_pos_of_pos_right _ (by omega)
    have hq : 1 ≤ (2 * n).toNat / Nat.gcd k.toNat (2 * n).toNat := Nat.div_pos hg1 hg0
    have r := ord_run (M := (2 * n).toNat) (k := k.toNat) (g := Nat.gcd k.toNat (2 * n).toNat) (by omega) rfl n hM ((2 * n).toNat / Nat.gcd k.toNat (2 * n).toNat - 1) 1 (4 * n).toNat (Nat.le_refl _) (by omega) (by rw [Int.toNat_of_nonneg (by omega)]; omega)
    rw [Nat.one_mul, hk, Int.emod_eq_of_lt a b] at r
    show ordF n (k, 0) (4 * n).toNat ((1 : Nat) : Int) (k, 0) = _
    rw [r, dto, if_neg (by simp)]
    have e1 : k.natAbs = k.toNat := by omega
    have e2 : (2 * n).natAbs = (2 * n).toNat := by omega
    rw [e1, e2, Int.natCast_ediv, hM]
  · subst c
    obtain ⟨f, hf⟩ : ∃ f, (4 * n).toNat = f + 3 := ⟨(4 * n).toNat - 3, by omega⟩
    have d1 : dtt n (k, 1) (k, 1) = (n, 0) := by
      rw [dtt, if_neg (by simp), if_neg (by simp)]
      show ((k - k + n) % (2 * n), (0 : Int)) = _
      rw [show k - k + n = n by omega, Int.emod_eq_of_lt (by omega) (by omega)]
    have d2 : dtt n (n, 0) (k, 1) = ((n + k) % (2 * n), 1) := by rw [dtt, if_pos rfl]
    have d3 : dtt n ((n + k) % (2 * n), 1) (k, 1) = (0, 0) := by
      rw [dtt, if_neg (by simp), if_neg (by simp)]
      show (((n + k) % (2 * n) - k + n) % (2 * n), (0 : Int)) = _
      rw [show (n + k) % (2 * n) - k + n = (n + k) % (2 * n) + (n - k) by omega, Int.emod_add_emod, show n + k + (n - k) = 2 * n by omega, Int.emod_self]
    rw [hf, ordF, if_pos ⟨fun z => (by cases (congrArg Prod.snd z)), by omega⟩, d1, ordF, if_pos ⟨fun z => by have := congrArg Prod.fst z; simp only at this; omega, by omega⟩, d2, ordF, if_pos ⟨fun z => (by cases (congrArg Prod.snd z)), by omega⟩, d3]
    have : ordF n (k, 1) f (1 + 1 + 1 + 1) (0, 0) = 1 + 1 + 1 + 1 := by
      cases f with
      | zero => rfl
      | succ f => rw [ordF, if_neg (by simp)]
    rw [this, dto, if_pos rfl]; rfl
end K35
namespace K35
open PySem PySem.Spec PyProof.Rows L2 G
section
variable {Pg : Program} {w : World} {K : PySem.W.Frag} {mg : Str → Option Value} {base : Heap}
abbrev s_draw : Stmt := topS 8
abbrev N_draw : List Str := ["state", "many", "cells", "value", "mixed"]
theorem sc_draw : FnScope N_draw ["state", "many"] (defScope s_draw) := ⟨rfl, rfl, rfl, by decide +kernel, rfl, by decide +kernel, by decide +kernel⟩
theorem vn_draw : namesOk N_draw (defScope s_draw) 5 = true := by decide +kernel
theorem ok_draw {f : Addr} {fd : FuncData} {k : Nat} (F : Fun K "_law_draw" "_law_draw" s_draw f fd) (m_len : mg "len" = none) (m_int : mg "int" = none) : FnOk Pg w K mg base CX0 (k + 1) f fd ["state", "many"] (sp_draw K) := by
  have vn := vn_draw
  refine F.ok sc_draw (fun vs H Q E h => ?_) (fun cdv A outer s0 H vs Q E hr h => ?_)
  · obtain ⟨_, m, s, c, us, rfl, _, _, _, _, p, _⟩ := h
    rw [List.length_cons, p.length]; rfl
  obtain ⟨F', m, s, c, us, rfl, so, n1, n2, fh, p, ⟨hm1, hm2⟩, q⟩ := h
  obtain ⟨v, rfl, pv⟩ := dq_one p
  cases pv
  have hu := hu_r hr
  have ne := so.ne
  obtain ⟨cells0, seed0, e1, e2, e3, e4, e5⟩ := so.ex
  refine ⟨_, pss_cons (ps_set (i := 2) sc_draw.nd rfl (lo vn 2) (pe_ix ix_list (pe_var (i := 0) rfl (vi vn 0)) pe_int (fun _ _ => rfl)) rfl (.inl rfl))
    (pss_cons (ps_while PassesOwn.never pt_wp (pss_one (ps_expr (pe_bm PySem.F.plainAttrs_list PySem.F.slot_list_pop PySem.F.type_list_pop mt_popAt (pe_var (i := 2) rfl (vi vn 2)) (pa_cons pe_int pa_nil)))))
    (pss_cons (ps_if pt_wp (pss_cons (ps_set (i := 3) sc_draw.nd rfl (lo vn 3) pe_wp rfl (.inl rfl)) (pss_cons (ps_asg pe_wp (pg_sub (pe_var (i := 2) rfl (vi vn 2)) pe_int set_list)) (pss_one (ps_ret pe_wp)))) pss_nil)
    (pss_cons (ps_set (i := 4) sc_draw.nd rfl (lo vn 4) pe_wp rfl (.inl rfl)) (pss_cons (ps_asg pe_wp (pg_sub (pe_var (i := 0) rfl (vi vn 0)) pe_int set_list)) (pss_one (ps_ret pe_wp)))))), ?_⟩
  have fin : ∀ {H2 : Hp} {cells : List Int} {seed r : Int}, DrawAt H H2 s c cells seed → 0 ≤ r → r < m → Q (.int r) H2 := fun {H2 cells seed r} d h1 h2 => by
    obtain ⟨a1, a2, a3⟩ := d.done ne n1 n2 fh
    exact q (.int r) (.int r) F' H2 a1 a2 a3 n1 n2 (.int r) ⟨r, rfl, h1, h2⟩
  have d0 : DrawAt H H s c cells0 seed0 := ⟨e1, e2, e3, ⟨e4, e5⟩, fun b o x _ _ => x⟩
  refine ⟨.ref s, rfl, s, _, 0, .ref c, rfl, rfl, .inl (.inl e1), rfl, ?_⟩
  show tSeq _ _ _ [some (.ref s), some (.int m), some (.ref c), none, none] H
  refine ⟨fun n σ H1 => ∃ cells, n = cells.length ∧ σ = [some (.ref s), some (.int m), some (.ref c), none, none] ∧ DrawAt H H1 s c cells seed0, ⟨_, _, rfl, rfl, d0⟩, ?_⟩
  rintro n σ H1 ⟨cells, rfl, rfl, d1⟩
  have vs1 : ∀ {cells : List Int} {H1 : Hp}, DrawAt H H1 s c cells seed0 → Vas K H1 [some (.ref s), some (.int m), some (.ref c), none, none] [.va (.list [.list (cells.map .int), .int seed0]), .va (.int m), .va (.list (cells.map .int)), .no, .no] := fun d => ⟨d.data.1, .int _, d.data.2, True.intro⟩
  cases cells with
  | nil =>
    refine dt_at (dw_t (dw_and (k2 := true) (dt_gt (dd_len (by rfl) m_len (dd_varn vn 2) rfl) dd_int) fun h => absurd h (by decide))) (vs1 d1) fun H2 e2 => ?_
    have d2 := d1.mono e2
    rw [if_neg (by simp)]
    show tSeq _ _ _ [some (.ref s), some (.int m), some (.ref c), none, none] H2
    refine dt_at (dt_gt (dd_len (by rfl) m_len (dd_varn vn 2) rfl) dd_int) (vs1 d2) fun H3 e3 => ?_
    have d3 := d2.mono e3
    rw [if_neg (by simp)]
    show tSeq _ _ _ [some (.ref s), some (.int m), some (.ref c), none, none] H3
    refine ddI_at (dd_mod (dd_intI (by rfl) m_int (dd_add (dd_mul (dd_ixL (dd_varn vn 0) dd_int rfl) dd_int (mulB (by omega) (by omega))) dd_int)) dd_int (by omega)) (vs1 d3) fun H4 e4 => ?_
    have d4 := d3.mono e4
    have b1 := Int.emod_nonneg (seed0 * 48271 + 12345) (show (2147483647 : Int) ≠ 0 by omega)
    have b2 := Int.emod_lt_of_pos (seed0 * 48271 + 12345) (show (0 : Int) < 2147483647 by omega)
    generalize (seed0 * 48271 + 12345) % 2147483647 = mixed at b1 b2 ⊢
    show tSeq _ _ _ [some (.ref s), some (.int m), some (.ref c), none, some (.int mixed)] H4
    refine ddI_at (dd_varn vn 4) (ρ := [.no, .no, .no, .no, .va (.int mixed)]) ⟨.int _, True.intro⟩ fun H5 e5 => ?_
    have d5 := d4.mono e5
    refine ⟨.ref s, rfl, ?_⟩
    refine ⟨s, _, 1, 1, rfl, rfl, d5.hs, rfl, ?_⟩
    have d6 := d5.setS ne (show 0 ≤ mixed ∧ mixed < 2147483648 by omega)
    show tRet (wpE _ _) _ [some (.ref s), some (.int m), some (.ref c), none, some (.int mixed)] _
    refine ddI_at (dd_mod (dd_intI (by rfl) m_int (dd_div (dd_varn vn 4) dd_int (divB (by omega) (by omega)))) (dd_varn vn 1) (by omega)) (ρ := [.no, .va (.int m), .no, .no, .va (.int mixed)]) ⟨.int _, .int _, True.intro⟩ fun H7 e7 => ?_
    exact fin (d6.mono e7) (Int.emod_nonneg _ (by omega)) (Int.emod_lt_of_pos _ (by omega))
  | cons z zs =>
    have z0 := d1.nn z List.mem_cons_self
    refine dt_at (dw_t (dw_and (dt_gt (dd_len (by rfl) m_len (dd_varn vn 2) rfl) dd_int) fun h => dw_and1 (dt_eqI hu (dd_ixL (dd_varn vn 2) dd_int (atI_zero (PyData.int z) _)) dd_int))) (vs1 d1) fun H2 e2 => ?_
    have d2 := d1.mono e2
    by_cases h0 : z = 0
    · rw [if_pos (by simp [h0])]
      refine ⟨fun σ H1 => σ = [some (.ref s), some (.int m), some (.ref c), none, none] ∧ DrawAt H H1 s c zs seed0, fun σ' H' h => ⟨zs.length, by simp, zs, rfl, h.1, h.2⟩, ?_⟩
      refine ⟨.ref c, rfl, .inl ⟨rfl, _, .inl (.inl d2.hc)⟩, c, _, 0, 0, _, rfl, rfl, d2.hc, by decide, by decide, (by rw [List.length_map]; exact (ixN_seq ixN_zero).1), rfl, ?_⟩
      exact ⟨rfl, d2.setC ne fun y hy => d2.nn y (List.mem_cons_of_mem _ hy)⟩
    · rw [if_neg (by simp [h0])]
      show tSeq _ _ _ [some (.ref s), some (.int m), some (.ref c), none, none] H2
      refine dt_at (dt_gt (dd_len (by rfl) m_len (dd_varn vn 2) rfl) dd_int) (vs1 d2) fun H3 e3 => ?_
      have d3 := d2.mono e3
      rw [if_pos (by simp)]
      show tSeq _ _ _ [some (.ref s), some (.int m), some (.ref c), none, none] H3
      refine ddI_at (dd_ixL (dd_varn vn 2) dd_int (atI_zero (PyData.int z) _)) (vs1 d3) fun H4 e4 => ?_
      have d4 := d3.mono e4
      show tSeq _ _ _ [some (.ref s), some (.int m), some (.ref c), some (.int z), none] H4
      refine ddI_at (dd_div (dd_varn vn 3) (dd_varn vn 1) (divB (by omega) (by omega))) (ρ := [.no, .va (.int m), .no, .va (.int z), .no]) ⟨.int _, .int _, True.intro⟩ fun H5 e5 => ?_
      have d5 := d4.mono e5
      refine ⟨.ref c, rfl, ?_⟩
      refine ⟨c, _, 0, 0, rfl, rfl, d5.hc, (by rw [List.length_map]; exact ixN_zero), ?_⟩
      have d6 := d5.setC (cells' := z / m :: zs) ne fun y hy => by
        rcases List.mem_cons.mp hy with rfl | hy
        · exact Int.ediv_nonneg z0 (by omega)
        · exact d5.nn y (List.mem_cons_of_mem _ hy)
      show tRet (wpE _ _) _ [some (.ref s), some (.int m), some (.ref c), some (.int z), none] _
      refine ddI_at (dd_mod (dd_intI (by rfl) m_int (dd_varn vn 3)) (dd_varn vn 1) (by omega)) (ρ := [.no, .va (.int m), .no, .va (.int z), .no]) ⟨.int _, .int _, True.intro⟩ fun H7 e7 => ?_
      exact fin (d6.mono e7) (Int.emod_nonneg _ (by omega)) (Int.emod_lt_of_pos _ (by omega))
end
end K35
namespace K35
open PySem PySem.Spec PyProof.Rows L2 G
section
variable {Pg : Program} {w : World} {K : PySem.W.Frag} {mg : Str → Option Value} {base : Heap}
abbrev s_state : Stmt := topS 7
abbrev N_state : List Str := ["script", "seed", "cell"]
theorem sc_state : FnScope N_state ["script"] (defScope s_state) := ⟨rfl, rfl, rfl, by decide +kernel, rfl, by decide +kernel, by decide +kernel⟩
theorem vn_state : namesOk N_state (defScope s_state) 3 = true := by decide +kernel
theorem ok_state {f : Addr} {fd : FuncData} {k : Nat} (F : Fun K "_law_state" "_law_state" s_state f fd) (m_int : mg "int" = none) (m_abs : mg "abs" = none) : FnOk Pg w K mg base CX0 (k + 1) f fd ["script"] (sp_state K) := by
  have vn := vn_state
  refine F.ok sc_state (fun vs H Q E h => ?_) (fun cdv A outer s0 H vs Q E hr h => ?_)
  · obtain ⟨_, _, rfl, _⟩ := h; rfl
  obtain ⟨a, ns, rfl, hS, hl, q⟩ := h
  have hu := hu_r hr
  refine ⟨_, pss_cons (ps_set (i := 1) sc_state.nd rfl (lo vn 1) pe_int rfl (.inl rfl))
    (pss_cons (ps_for PassesOwn.never rfl (pi_list (pe_var (i := 0) rfl (vi vn 0))) (pg_name (i := 2) sc_state.nd rfl (lo vn 2)) (pss_one (ps_set (i := 1) sc_state.nd rfl (lo vn 1) pe_wp rfl (.inl rfl))))
    (pss_one (ps_ret (pe_lst (pa_cons (pe_lc rfl sc_state.nd (pi_list (pe_var (i := 0) rfl (vi vn 0))) (blkOk_by (own := [("cell", 2)]) (N := N_state) (sc := defScope s_state) (by decide +kernel)) (fun _ _ _ _ _ => pg_name (i := 2) sc_state.nd rfl (.inl rfl)) (fun s H C cl fp => pts_bw (ifs := []) (Nat.zero_le _) s H C cl fp) (fun s H C cl fp => pe_bw s H C cl fp)) (pa_cons pe_wp pa_nil)))))), ?_⟩
  show tSeq _ _ _ [some (.ref a), some (.int 7), none] H
  refine ⟨.ref a, rfl, a, rfl, ⟨_, hS⟩, fun i n σ H3 => ∃ (y3 : Option V) (seed : Int), σ = [some (.ref a), some (.int seed), y3] ∧ (0 ≤ seed ∧ seed < 1000003) ∧ i + n = ns.length ∧ Same H H3, ⟨ns.length, none, 7, rfl, by omega, by omega, Same.refl _⟩, fun i n σ H3 hW => ?_⟩
  obtain ⟨y3, seed, rfl, hs, hn, sm⟩ := hW
  have hS3 : SqL K H3 a (ns.map V.int) := sm.seq hS
  by_cases hi : i < ns.length
  · have g : (ns.map V.int)[i]? = some (.int ns[i]) := by
      rw [List.getElem?_map, List.getElem?_eq_getElem hi]; rfl
    refine .inr ⟨⟨_, _, hS3, g⟩, fun σ' H' => ∃ (y3 : Option V) (seed : Int), σ' = [some (.ref a), some (.int seed), y3] ∧ (0 ≤ seed ∧ seed < 1000003) ∧ Same H H', fun σ' H' hN => ?_, fun v H' hy => ?_⟩
    · obtain ⟨z3, sd, e1, e2, e3⟩ := hN
      exact ⟨n - 1, by omega, z3, sd, e1, e2, by omega, e3⟩
    · obtain ⟨rfl, fv⟩ := hy
      obtain rfl : v = .int ns[i] := Option.some.inj ((fv _ hS3).symm.trans g)
      refine ddI_at (dd_mod (dd_intI (by rfl) m_int (dd_add (dd_mul (dd_varn vn 1) dd_int (mulB (by omega) (by omega))) (dd_varn vn 2))) dd_int (by omega)) (ρ := [.no, .va (.int seed), .va (.int ns[i])]) ⟨.int _, .int _, True.intro⟩ fun H4 e4 => ?_
      exact ⟨_, _, rfl, ⟨Int.emod_nonneg _ (by omega), Int.emod_lt_of_pos _ (by omega)⟩, sm.trans e4⟩
  · refine .inl ⟨⟨_, hS3, by rw [List.length_map]; omega⟩, ?_⟩
    refine ⟨.ref a, rfl, a, rfl, ⟨_, hS3⟩, fun c hc => ?_⟩
    have Y : Sok (cn (cxOf CX0 Pg w K mg base N_state "_law_state" (defScope s_state) f cdv A outer s0 H E).nox) none (fun _ => none) [.no, .va (.int seed), .no] [some (.ref a), some (.int seed), y3] H3 H3 := Vas.sok (by
      cases y3 <;> exact ⟨.int _, True.intro⟩)
    refine acc_loop (K := cn (cxOf CX0 Pg w K mg base N_state "_law_state" (defScope s_state) f cdv A outer s0 H E).nox) (S := none) (O := fun _ => none) (ρ := [.no, .va (.int seed), .no]) (σ := [some (.ref a), some (.int seed), y3]) (F := H3) (H := H3) (D := c) (acc := []) (F1 := H3) (H1 := upd H3 c (.lst [])) (J := Itl K a)
      (ds := ns.map .int) (fun i acc => acc = (ns.take i).map fun z => .int (if z < 0 then -z else z)) (LSt.start Y hc) (walk_list hS3 (dq_allI ns)) rfl (fun i d acc x F2 H2 hd iv L p Nx hN => ?_) fun acc F4 H4 iv L tt => ?_
    · rw [List.getElem?_map] at hd
      cases hz : ns[i]? with
      | none => rw [hz] at hd; cases hd
      | some z =>
        rw [hz] at hd
        obtain rfl : PyData.int z = d := Option.some.inj hd
        cases p
        have hi2 : i < ns.length := (List.getElem?_eq_some_iff.mp hz).1
        refine ⟨rfl, ?_⟩
        have L4 := L.step ((L.ok.wipe [2]).setV 2 (d := .int z) (v := .int z) (.int z)) Tr.refl
        refine iteT (B := Nx H2) (elt_push (Py := fun y => y = .int (if z < 0 then -z else z)) (BE.ok fun s H C cl fp => dd_abs (by rfl) m_abs (dd_var 2)) L4 (by rw [iv, List.length_map, List.length_take]; exact Nat.lt_of_le_of_lt (Nat.min_le_right _ _) (Nat.lt_of_le_of_lt hl (by decide))) fun d F5 H5 iv5 L5 t5 => ?_)
        subst iv5
        refine hN _ F5 H5 ?_ (L.back L5 t5) t5
        rw [iv, List.take_add_one, hz, List.map_append]; rfl
    · obtain ⟨us, h1, h2⟩ := L.hD
      rw [List.length_map, List.take_length] at iv
      subst iv
      refine ddI_at (dd_add (dd_varn vn 1) dd_int) (ρ := [.no, .va (.int seed), .no]) (by cases y3 <;> exact ⟨.int _, True.intro⟩) fun H6 e6 => ?_
      refine ⟨by show (2 : Nat) ≤ sizeLine; decide, fun p hp => ?_⟩
      have hus := dqAll_ints (ms := ns.map fun z => if z < 0 then -z else z) (by rw [List.map_map]; exact h2)
      subst hus
      have s36 : Same H3 H6 := L.tr.same.trans e6
      have hc6 := e6 _ _ h1
      have npc : p ≠ c := fun e => by rw [e, hc6] at hp; cases hp
      refine q p c _ ((sm.trans s36).trans (same_new hp)) ((sm.trans s36).free hp) (sm.free hc) ⟨npc, ns.map (fun z => if z < 0 then -z else z), seed + 1, upd_same, by rw [upd_ne npc.symm]; exact hc6, fun z hz => ?_, by omega, by omega⟩
      obtain ⟨y, _, rfl⟩ := List.mem_map.mp hz
      show 0 ≤ if y < 0 then -y else y
      split <;> omega
end
end K35
namespace K35
open PySem PySem.Spec PyProof.Rows L2 G
local macro_rules | `(tactic| walk_at "shp") => `(tactic| first | rfl | decide)
section
variable {Pg : Program} {w : World} {K : PySem.W.Frag} {mg : Str → Option Value} {base : Heap}
abbrev s_pick : Stmt := topS 9
abbrev N_pick : List Str := ["state", "row"]
theorem sc_pick : FnScope N_pick ["state", "row"] (defScope s_pick) := ⟨rfl, rfl, rfl, by decide +kernel, rfl, by decide +kernel, by decide +kernel⟩
theorem vn_pick : namesOk N_pick (defScope s_pick) 2 = true := by decide +kernel
theorem ok_pick {f : Addr} {fd : FuncData} (F : Fun K "_law_pick" "_law_pick" s_pick f fd) (F_draw : Fn Pg w K mg base "_law_draw" ["state", "many"] 1 (sp_draw K)) (m_len : mg "len" = none) : FnOk Pg w K mg base CX0 2 f fd ["state", "row"] (sp_pick K) := by
  refine fn_S F sc_pick (fun _ => rfl) fun ds hp cdv A outer s H E hr => ?_
  have vn := vn_pick
  obtain ⟨h1, h2⟩ : 1 ≤ ds.length ∧ ds.length ≤ 1000000 := hp
  refine do_norm (ρ' := [.st, .va (.list ds)]) rfl ?_
  refine do_cons (do_ret (dm_ix (P1 := fun d => d = .list ds) (P2 := fun d => ∃ r : Int, d = .int r ∧ 0 ≤ r ∧ r < ds.length) ix_list (dd_varn vn 1) (dm_callS 0 F_draw (hr.mono (by decide)) (by rfl) rfl (vi vn 0) rfl (da_cons (dd_len (by rfl) m_len (dd_varn vn 1) rfl) da_nil) fun es e => ⟨(ds.length : Int), e, ⟨by omega, by omega⟩, fun d h => h⟩) fun d1 d2 e1 e2 => ?_))
  subst e1
  obtain ⟨r, rfl, r0, r1⟩ := e2
  have hk : r.toNat < ds.length := by omega
  exact rd_ixL (atI_int r0 (List.getElem?_eq_getElem hk)) (List.getElem_mem hk)
abbrev s_leq : Stmt := topS 10
abbrev N_leq : List Str := ["told", "due", "k"]
theorem sc_leq : FnScope N_leq ["told", "due"] (defScope s_leq) := ⟨rfl, rfl, rfl, by decide +kernel, rfl, by decide +kernel, by decide +kernel⟩
theorem vn_leq : namesOk N_leq (defScope s_leq) 2 = true := by decide +kernel
theorem ok_leq {f : Addr} {fd : FuncData} (n : Nat) (F : Fun K "_law_eq" "_law_eq" s_leq f fd) (F_leq : ∀ m, n = m + 1 → Fn Pg w K mg base "_law_eq" ["told", "due"] n (sp_leq K m)) (m_len : mg "len" = none) (m_range : mg "range" = none) (m_isinstance : mg "isinstance" = none) (m_list : mg "list" = none) (m_tuple : mg "tuple" = none) (m_str : mg "str" = none) (m_bool : mg "bool" = none) (m_int : mg "int" = none) : FnOk Pg w K mg base CX0 (n + 1) f fd ["told", "due"] (sp_leq K n) := by
  refine fn_V F sc_leq (fun _ => rfl) (by decide) fun d hp cdv A outer s H E hr => ?_
  have hu := hu_r hr
  have vn := vn_leq
  have hnd : noDict d = true := by
    cases d with
    | dict _ => cases n <;> exact hp.elim
    | _ => rfl
  refine do_norm (ρ' := [.va d, .va d, .no]) rfl ?_
  refine do_cons (do_ifD (dw_t (dw_or (dt_val (dd_isK .list hnd (by rfl) m_isinstance (by rfl) m_list bt_list (dd_varz vn 1))) fun _ => (dw_or1 (dt_val (dd_isK .tuple hnd (by rfl) m_isinstance (by rfl) m_tuple bt_tuple (dd_varz vn 1)))))) (fun h1 => ?_) (fun h1 => ?_))
  · -- if isinstance(told, list) != isinstance(due, list) or isinstance(told, tuple) != isinstance(due, tuple)
    refine do_cons (do_ifD (dw_t (dw_or (dt_ne hu (dd_isK .list hnd (by rfl) m_isinstance (by rfl) m_list bt_list (dd_varz vn 0)) (dd_isK .list hnd (by rfl) m_isinstance (by rfl) m_list bt_list (dd_varz vn 1)) rfl rfl) fun _ => (dw_or1 (dt_ne hu (dd_isK .tuple hnd (by rfl) m_isinstance (by rfl) m_tuple bt_tuple (dd_varz vn 0)) (dd_isK .tuple hnd (by rfl) m_isinstance (by rfl) m_tuple bt_tuple (dd_varz vn 1)) rfl rfl)))) (fun h2 => ?_) (fun h2 => ?_))
    · exact absurd h2 (by cases d <;> exact Bool.false_ne_true)
    refine do_nil ?_
    have hseq : (∃ ds, d = .list ds ∨ d = .tuple ds) := by
      cases d with
      | list ds => exact ⟨ds, .inl rfl⟩
      | tuple ds => exact ⟨ds, .inr rfl⟩
      | _ => exact absurd h1 (by exact Bool.false_ne_true)
    obtain ⟨ds, hds⟩ := hseq
    obtain ⟨m, rfl, hl, hm⟩ : ∃ m, n = m + 1 ∧ ds.length ≤ 1000000 ∧ ∀ d ∈ ds, okD m d := by
      cases n with
      | zero => rcases hds with rfl | rfl <;> exact hp.elim
      | succ m => rcases hds with rfl | rfl <;> exact ⟨m, rfl, hp⟩
    have hlen : lenD d = some ds.length := by rcases hds with rfl | rfl <;> rfl
    refine do_cons (do_ifD (dt_neI hu (dd_len (by rfl) m_len (dd_varz vn 0) hlen) (dd_len (by rfl) m_len (dd_varz vn 1) hlen)) (fun h3 => ?_) (fun h3 => ?_))
    · exact absurd h3 (by simp)
    refine do_nil ?_
    have ev : PyData.eqv (.list (((List.range ds.length).filter fun _ => false).map fun k => PyData.int (0 + (k : Nat)))) (.list []) = true := by
      rw [show ((List.range ds.length).filter fun _ => false) = [] from List.filter_eq_nil_iff.mpr fun _ _ => Bool.false_ne_true]; rfl
    refine do_cons (do_retD (dd_eq hu (Dd.ofL (lc_F (List.range ds.length) (fun k => .int (0 + (k : Nat))) (fun _ => false) _ _ _ rfl sc_leq.nd (dI_range1 (by rfl) m_range (dd_len (by rfl) m_len (dd_varz vn 1) hlen) ⟨by omega, by omega⟩) (blkOk_by (own := [("k", 2)]) (N := N_leq) (sc := defScope s_leq) (by decide +kernel)) (by rw [List.length_range]; exact hl) (fun _ _ _ _ _ => (pg_name (i := 2) sc_leq.nd rfl (.inl rfl))) (fun x hx => (dg_name 2)) (by decide) (fun x hx _ _ _ _ _ => ?tst) (fun x hx _ _ _ _ _ _ => (dd_var 2))).dl) (Dd.ofL (dl_lst da_nil)) ?sh1 rfl) rfl (congrArg PyData.bool ev))
    case tst =>
      have hx' : x < ds.length := List.mem_range.mp hx
      have hx2 : ds[x]? = some ds[x] := List.getElem?_eq_getElem hx'
      have ha : atI ds (0 + (x : Int)) = some ds[x] := by rw [Int.zero_add]; exact atI_nat hx2
      rcases hds with rfl | rfl
      · exact DTd.eq (dt_not (dt_val (k := true) (dd_call (F_leq m rfl) (hr.mono (Nat.le_refl _)) (by rfl) (da_cons (dd_ixL (dd_var 0) (dd_var 2) ha) (da_cons (dd_ixL (dd_var 1) (dd_var 2) ha) da_nil)) ds[x] rfl (hm _ (List.getElem_mem hx')) (fun _ h => h)))) rfl
      · exact DTd.eq (dt_not (dt_val (k := true) (dd_call (F_leq m rfl) (hr.mono (Nat.le_refl _)) (by rfl) (da_cons (dd_ixT (dd_var 0) (dd_var 2) ha) (da_cons (dd_ixT (dd_var 1) (dd_var 2) ha) da_nil)) ds[x] rfl (hm _ (List.getElem_mem hx')) (fun _ h => h)))) rfl
    case sh1 =>
      rw [show ((List.range ds.length).filter fun _ => false) = [] from List.filter_eq_nil_iff.mpr fun _ _ => Bool.false_ne_true]; rfl
  refine do_nil ?_
  have hns : isK d .list = false ∧ isK d .tuple = false := by
    cases d <;> first | exact ⟨rfl, rfl⟩ | exact absurd h1 (by exact Bool.false_ne_true.symm)
  refine do_cons (do_ifD (dt_isN (dd_varz vn 1)) (fun h4 => ?_) (fun h4 => ?_))
  ·
    refine do_cons (do_retD (dd_isN (dd_varz vn 0)) rfl ?_)
    cases d with
    | none => rfl
    | _ => exact absurd h4 (by exact Bool.false_ne_true)
  refine do_nil ?_
  refine do_cons (do_ifD (dt_val (dd_isK .str hnd (by rfl) m_isinstance (by rfl) m_str bt_str (dd_varz vn 1))) (fun h5 => ?_) (fun h5 => ?_))
  · have hsh : SeqAt.shaped d = true := by
      cases d with
      | str x => cases n <;> exact hp
      | _ => exact absurd h5 (by exact Bool.false_ne_true)
    refine do_cons (do_retD (dd_and (dd_isK .str hnd (by rfl) m_isinstance (by rfl) m_str bt_str (dd_varz vn 0)) fun _ => (dd_one (dd_eq hu (dd_varz vn 0) (dd_varz vn 1) hsh hsh))) rfl ?_)
    cases d <;> first | (exact absurd h5 Bool.false_ne_true.symm) | (exact absurd h5 Bool.false_ne_true) | exact congrArg PyData.bool (by simp [isK, PyData.eqv])
  refine do_nil ?_
  refine do_cons (do_ifD (dt_val (dd_isK .bool hnd (by rfl) m_isinstance (by rfl) m_bool bt_bool (dd_varz vn 1))) (fun h6 => ?_) (fun h6 => ?_))
  · have hsh : SeqAt.shaped d = true := by
      cases d <;> first | rfl | exact absurd h6 Bool.false_ne_true.symm | exact absurd h6 Bool.false_ne_true
    refine do_cons (do_retD (dd_and (dd_isK .bool hnd (by rfl) m_isinstance (by rfl) m_bool bt_bool (dd_varz vn 0)) fun _ => (dd_one (dd_eq hu (dd_varz vn 0) (dd_varz vn 1) hsh hsh))) rfl ?_)
    cases d <;> first | (exact absurd h6 Bool.false_ne_true.symm) | (exact absurd h6 Bool.false_ne_true) | exact congrArg PyData.bool (by simp [isK, PyData.eqv])
  refine do_nil ?_
  have hint : ∃ i, d = .int i := by
    cases d with
    | int i => exact ⟨i, rfl⟩
    | none => exact absurd h4 (by exact Bool.false_ne_true.symm)
    | str _ => exact absurd h5 (by exact Bool.false_ne_true.symm)
    | bool _ => exact absurd h6 (by exact Bool.false_ne_true.symm)
    | list _ => exact absurd hns.1 (by exact Bool.false_ne_true.symm)
    | tuple _ => exact absurd hns.2 (by exact Bool.false_ne_true.symm)
    | dict _ => cases hnd
  obtain ⟨i, rfl⟩ := hint
  refine do_cons (do_retD (dd_and (dd_isK .int hnd (by rfl) m_isinstance (by rfl) m_int bt_int (dd_varz vn 0)) fun _ => (dd_and (dd_notV (dd_isK .bool hnd (by rfl) m_isinstance (by rfl) m_bool bt_bool (dd_varz vn 0))) fun _ => (dd_one (dd_eqI hu (dd_varz vn 0) (dd_varz vn 1))))) rfl ?_)
  exact congrArg PyData.bool (by simp [isK])
end
end K35
namespace K35
open PySem PySem.Spec PyProof.Rows L2 G
local macro_rules | `(tactic| walk_at "mul") => `(tactic| first | exact mulB (by omega) (by omega))
local macro_rules | `(tactic| walk_at "mod") => `(tactic| omega)
local macro_rules | `(tactic| walk_at "div") => `(tactic| first | exact divB (by omega) (by omega))
local macro_rules | `(tactic| walk_at "pre") => `(tactic| first | assumption | (refine ⟨?_, ?_⟩ <;> omega))
local macro_rules | `(tactic| walk_at "shp") => `(tactic| first | rfl | decide)
local macro_rules | `(tactic| walk_at "rng") => `(tactic| omega)
section
variable {Pg : Program} {w : World} {K : PySem.W.Frag} {mg : Str → Option Value} {base : Heap}
abbrev s_law : Stmt := topS 14
abbrev N_law : List Str := ["script", "state", "turn", "n", "k", "x", "y", "z", "due", "size", "every", "left", "lots", "step", "lot", "one", "u"]
theorem sc_law : FnScope N_law ["script"] (defScope s_law) := ⟨rfl, rfl, rfl, by decide +kernel, rfl, by decide +kernel, by decide +kernel⟩
theorem vn_law : namesOk N_law (defScope s_law) 15 = true := by decide +kernel
theorem foldl_flat {α β : Type} (g : α → List β) : ∀ (l : List α) (s : List β), l.foldl (fun acc k => acc ++ g k) s = s ++ l.flatMap g
  | [], s => by simp
  | x :: l, s => by rw [List.foldl_cons, foldl_flat g l, List.flatMap_cons, List.append_assoc]
theorem run_fold {n : Int} : ∀ k, (List.range k).foldl (fun s _ => lawStep n s) (srC c2 (grp n), []) = lawRun n k
  | 0 => rfl
  | k + 1 => by rw [List.range_succ, List.foldl_append, run_fold k]; rfl
theorem run_in {n : Int} : ∀ k, (∀ x ∈ (lawRun n k).1, In2 n x) ∧ (lawRun n k).1.length ≤ 2 * (2 * n).toNat ∧ (lawRun n k).2.length ≤ k
  | 0 => ⟨fun x hx => grp_in ((srC_perm (c := c2) (grp n)).mem_iff.mp hx), by rw [show (lawRun n 0).1 = srC c2 (grp n) from rfl, (srC_perm (c := c2) (grp n)).length_eq, grp_len]; exact Nat.le_refl _, Nat.le_refl _⟩
  | k + 1 => by
    obtain ⟨h1, h2, h3⟩ := run_in (n := n) k
    show (∀ x ∈ (lawStep n (lawRun n k)).1, In2 n x) ∧ (lawStep n (lawRun n k)).1.length ≤ _ ∧ (lawStep n (lawRun n k)).2.length ≤ _
    unfold lawStep
    split
    · exact ⟨h1, h2, by omega⟩
    · refine ⟨fun x hx => h1 x (List.mem_filter.mp hx).1, Nat.le_trans (List.length_filter_le _ _) h2, ?_⟩
      rw [List.length_append, List.length_singleton]; omega
theorem any_z2 (y : Int × Int) : ∀ l : List (Int × Int), ((l.map z2).any fun z => PyData.eqv z (z2 y)) = decide (y ∈ l)
  | [] => by simp
  | x :: l => by
    rw [List.map_cons, List.any_cons, any_z2 y l, eqv_z2]
    by_cases h : x = y
    · simp [h]
    · have : ¬ y = x := fun z => h z.symm
      simp [h, this]
theorem sh_z2 (l : List (Int × Int)) : SeqAt.shaped (.list (l.map z2)) = true := shaped_list (fun _ => rfl) (fun _ => by show (1 : Nat) ≤ 60; omega) l
theorem steps_all (n : Int) (P : List (Int × Int) → Prop) (hP : ∀ x, P (lotF n x)) : ∀ (l : List (Int × Int)) (s : List (Int × Int) × List (List (Int × Int))), (∀ y ∈ s.2, P y) → ∀ y ∈ (l.foldl (lotsStep n) s).2, P y
  | [], s, h => h
  | x :: l, s, h => by
    refine steps_all n P hP l _ ?_
    unfold lotsStep
    split
    · exact h
    · intro y hy
      rcases List.mem_append.mp hy with q | q
      · exact h y q
      · rw [List.mem_singleton] at q; rw [q]; exact hP x
theorem lotsF_len {m : Int} (m1 : 1 ≤ m) (m2 : m ≤ 12) : ∀ l ∈ lotsF m, l.length ≤ 48 :=
  steps_all m (fun l => l.length ≤ 48) (fun x => by have := lotF_len m x; omega) (grp m) ([], []) (fun _ h => nomatch h)
theorem ok_law {f : Addr} {fd : FuncData} (F : Fun K "law" "law" s_law f fd) (F_state : Fn Pg w K mg base "_law_state" ["script"] 4 (sp_state K)) (F_draw : Fn Pg w K mg base "_law_draw" ["state", "many"] 1 (sp_draw K)) (F_pick : Fn Pg w K mg base "_law_pick" ["state", "row"] 2 (sp_pick K))
    (F_leq : Fn Pg w K mg base "_law_eq" ["told", "due"] 4 (sp_leq K 3)) (F_lti : Fn Pg w K mg base "_law_times" ["n", "x", "y"] 1 (sp_dtt K)) (F_lba : Fn Pg w K mg base "_law_back" ["n", "x"] 1 (sp_dtb K)) (F_lor : Fn Pg w K mg base "_law_order" ["n", "x"] 2 (sp_lor K))
    (F_dtt : Fn Pg w K mg base "double_turn_times" ["n", "x", "y"] 1 (sp_dtt K)) (F_dto : Fn Pg w K mg base "double_turn_order" ["n", "x"] 1 (sp_dto K)) (F_dtb : Fn Pg w K mg base "double_turn_back" ["n", "x"] 1 (sp_dtb K)) (F_dtl : Fn Pg w K mg base "double_turn_lots" ["n"] 2 (sp_dtl K))
    (m_range : mg "range" = none) (m_sorted : mg "sorted" = none) (m_set : mg "set" = none) (m_tuple : mg "tuple" = none) (m_len : mg "len" = none) : FnOk Pg w K mg base CX0 5 f fd ["script"] (sp_law K) := by
  refine fn_law F sc_law rfl (.inl rfl) (.inr rfl) (fun _ _ _ _ _ _ => rfl) (fun _ _ _ _ _ _ => rfl) (fun _ _ _ _ _ _ => rfl) F_state fun cdv A outer s H E hr => ?_
  have vn := vn_law
  have hu := hu_r hr
  refine do_cons (do_rep [.no, .st, .no, .no, .no, .no, .no, .no, .no, .no, .no, .no, .no, .no, .no, .no, .no] PassesOwn.never rfl (dI_range1 (by rfl) m_range dd_int (by walk_at "rng")) (pg_name (i := 2) sc_law.nd rfl (lo vn 2)) (Fits.refl _) (fun ds d _ _ => ⟨_, _, (dg_name 2), ?turn⟩) ?_ (fun _ _ a b => do_fit a b))
  case turn =>
    refine do_fit (ρ' := [.no, .st, .no, .no, .no, .no, .no, .no, .no, .no, .no, .no, .no, .no, .no, .no, .no]) ⟨.inr rfl, .inr rfl, .inl rfl, .inr rfl, .inr rfl, .inr rfl, .inr rfl, .inr rfl, .inr rfl, .inr rfl, .inr rfl, .inr rfl, .inr rfl, .inr rfl, .inr rfl, .inr rfl, .inr rfl, True.intro⟩ ?_
    refine do_cons (do_setP 3 sc_law.nd rfl (lo vn 3) (dm_addI (P1 := fun i => i = 1) (P2 := fun i => 0 ≤ i ∧ i < 1000) (P := fun i => 1 ≤ i ∧ i ≤ 1000) (dI_int rfl) (dm_draw 1 (Pm := fun m => 1 ≤ m ∧ m ≤ 1000) F_draw (hr.mono (by decide)) (by rfl) rfl (vi vn 1) rfl (dm_pick 1 F_pick (hr.mono (by decide)) (by rfl) rfl (vi vn 1) rfl (Dd.ofL (dl_lst (da_cons dd_int (da_cons dd_int (da_cons dd_int da_nil))))) (by decide) ?pk) (fun m h => ⟨h.1, by omega⟩) (fun m r h a b => ⟨a, by omega⟩)) (fun i j a b => by omega)) (fun d z => by obtain ⟨r, rfl, _⟩ := z; rfl) (fun d z => ?_))
    case pk =>
      intro d hd
      simp only [List.mem_cons, List.not_mem_nil, or_false] at hd
      rcases hd with rfl | rfl | rfl
      · exact ⟨4, rfl, by omega⟩
      · exact ⟨30, rfl, by omega⟩
      · exact ⟨1000, rfl, by omega⟩
    obtain ⟨n, rfl, p1, p2⟩ := z
    refine do_norm (ρ' := [_, _, _, _, _, _, _, _, _, _, _, _, _, _, _, _, _]) rfl ?_
    refine do_cons (do_asgX (P := fun d => ∃ x y z : Int × Int, d = .list [z2 x, z2 y, z2 z] ∧ In2 n x ∧ In2 n y ∧ In2 n z) (pg_unl rfl (pgs_cons (pg_name (i := 5) sc_law.nd rfl (lo vn 5)) (pgs_cons (pg_name (i := 6) sc_law.nd rfl (lo vn 6)) (pgs_cons (pg_name (i := 7) sc_law.nd rfl (lo vn 7)) pgs_nil)))) ?draws (fun d z => ?_))
    case draws =>
      refine De.imp (De.ofL (lc_I (Pz := fun ds => ds.length = 3 ∧ ∀ d ∈ ds, ∃ x : Int × Int, d = z2 x ∧ In2 n x) rfl sc_law.nd (dI_range1 (by rfl) m_range dd_int (by walk_at "rng")) (blkOk_by (own := [("k", 4)]) (N := N_law) (sc := defScope s_law) (by decide +kernel)) (Nat.zero_le _) (fun _ _ _ _ _ => (pg_name (i := 4) sc_law.nd rfl (.inl rfl))) (fun ds e => ?lc)).dl) ?un
      case lc =>
        subst e
        refine ⟨fun i acc => acc.length = i ∧ ∀ d ∈ acc, ∃ x : Int × Int, d = z2 x ∧ In2 n x, ⟨rfl, fun _ h => nomatch h⟩, fun i d acc hd ⟨hi, ha⟩ => ⟨?_, ⟨_, _, (dg_name 4), by decide, _, (rfl : true = true), fun _ s0 H0 C cl fp => ?_, fun h => nomatch h⟩⟩, fun acc h => h⟩
        · have hi3 : i < 3 := by
            have := (rangeD_get hd).1
            exact this
          exact Nat.lt_of_le_of_lt (show acc.length ≤ 3 by omega) (by decide)
        · refine dm_tup (Pa := fun ds => ∃ x : Int × Int, ds = [.int x.1, .int x.2] ∧ In2 n x) (da_I2 (dm_drawD 1 F_draw (hr.mono (by decide)) (by rfl) rfl (.inr (.inl rfl)) rfl (dd_mul dd_int (dd_var 3) (by walk_at "mul")) ⟨by omega, by omega⟩) (dm_drawD 1 F_draw (hr.mono (by decide)) (by rfl) rfl (.inr (.inl rfl)) rfl dd_int ⟨by omega, by omega⟩) (fun i j a b => ⟨(i, j), rfl, a.1, a.2, by show j = 0 ∨ j = 1; omega⟩)) (fun ds hds => ?_)
          obtain ⟨x, rfl, hx⟩ := hds
          refine ⟨by show (2 : Nat) ≤ sizeLine; decide, by rw [List.length_append, hi]; rfl, fun d hd => ?_⟩
          rcases List.mem_append.mp hd with h | h
          · exact ha d h
          · rw [List.mem_singleton] at h
            exact ⟨x, h, hx⟩
      case un =>
        rintro _ ⟨ds, rfl, hl, hd⟩
        match ds, hl with
        | [a, b, c], _ =>
          obtain ⟨x, rfl, hx⟩ := hd a (by simp)
          obtain ⟨y, rfl, hy⟩ := hd b (by simp)
          obtain ⟨z, rfl, hz⟩ := hd c (by simp)
          exact ⟨x, y, z, rfl, hx, hy, hz⟩
    obtain ⟨x, y, z, rfl, hx, hy, hz⟩ := z
    refine ⟨_, _, (dg_unl (dgs_cons (dg_name 5) (dgs_cons (dg_name 6) (dgs_cons (dg_name 7) dgs_nil))) rfl), ?_⟩
    refine do_norm (ρ' := [_, _, _, _, _, _, _, _, _, _, _, _, _, _, _, _, _]) rfl ?_
    refine do_cons (do_setD 8 sc_law.nd rfl (lo vn 8) (dd_call F_lti (hr.mono (by decide)) (by rfl) (da_cons (dd_varz vn 3) (da_cons (dd_varz vn 5) (da_cons (dd_varz vn 6) da_nil))) ⟨_, ⟨_, _⟩, ⟨_, _⟩⟩ rfl (by walk_at "pre") (fun _ h => h)) rfl ?_)
    refine do_norm (ρ' := [_, _, _, _, _, _, _, _, _, _, _, _, _, _, _, _, _]) rfl ?_
    refine do_cons (do_ifD (dt_not (dt_val (k := true) (dd_call F_leq (hr.mono (by decide)) (by rfl) (da_cons (Dd.ofL (dl_lst (da_cons (dd_call F_dtt (hr.mono (by decide)) (by rfl) (da_cons (dd_varz vn 3) (da_cons (dd_varz vn 5) (da_cons (dd_varz vn 6) da_nil))) ⟨_, ⟨_, _⟩, ⟨_, _⟩⟩ rfl (by walk_at "pre") (fun _ h => h)) (da_cons (dd_call F_dtb (hr.mono (by decide)) (by rfl) (da_cons (dd_varz vn 3) (da_cons (dd_varz vn 5) da_nil)) ⟨_, ⟨_, _⟩⟩ rfl (by walk_at "pre") (fun _ h => h)) (da_cons (dd_call F_dto (hr.mono (by decide)) (by rfl) (da_cons (dd_varz vn 3) (da_cons (dd_varz vn 5) da_nil)) ⟨_, ⟨_, _⟩⟩ rfl (by walk_at "pre") (fun _ h => h)) da_nil))))) (da_cons (Dd.ofL (dl_lst (da_cons (dd_varz vn 8) (da_cons (dd_call F_lba (hr.mono (by decide)) (by rfl) (da_cons (dd_varz vn 3) (da_cons (dd_varz vn 5) da_nil)) ⟨_, ⟨_, _⟩⟩ rfl (by walk_at "pre") (fun _ h => h)) (da_cons (dd_call F_lor (hr.mono (by decide)) (by rfl) (da_cons (dd_varz vn 3) (da_cons (dd_varz vn 5) da_nil)) ⟨_, ⟨_, _⟩⟩ rfl (by walk_at "pre") (fun _ h => h)) da_nil))))) da_nil)) (.list [z2 (dtt n x y), z2 (dtb n x), .int (dto n x)]) ?ar1 ?ok1 (fun _ h => h)))) (fun h1 => ?_) (fun h1 => ?_))
    case ar1 => rw [ord_ok p1 hx]
    case ok1 => simp [okD]
    · exact absurd h1 (by decide)
    refine do_nil ?_
    refine do_cons (do_ifD (dw_t (dw_or (dt_ne hu (dd_call F_dtt (hr.mono (by decide)) (by rfl) (da_cons (dd_varz vn 3) (da_cons (dd_varz vn 8) (da_cons (dd_varz vn 7) da_nil))) ⟨_, ⟨_, _⟩, ⟨_, _⟩⟩ rfl (by walk_at "pre") (fun _ h => h)) (dd_call F_lti (hr.mono (by decide)) (by rfl) (da_cons (dd_varz vn 3) (da_cons (dd_varz vn 5) (da_cons (dd_call F_lti (hr.mono (by decide)) (by rfl) (da_cons (dd_varz vn 3) (da_cons (dd_varz vn 6) (da_cons (dd_varz vn 7) da_nil))) ⟨_, ⟨_, _⟩, ⟨_, _⟩⟩ rfl (by walk_at "pre") (fun _ h => h)) da_nil))) ⟨_, ⟨_, _⟩, ⟨_, _⟩⟩ rfl (by walk_at "pre") (fun _ h => h)) (by walk_at "shp") (by walk_at "shp")) fun _ => (dw_or1 (dt_ne hu (dd_call F_dtt (hr.mono (by decide)) (by rfl) (da_cons (dd_varz vn 3) (da_cons (dd_varz vn 5) (da_cons (dd_call F_lba (hr.mono (by decide)) (by rfl) (da_cons (dd_varz vn 3) (da_cons (dd_varz vn 5) da_nil)) ⟨_, ⟨_, _⟩⟩ rfl (by walk_at "pre") (fun _ h => h)) da_nil))) ⟨_, ⟨_, _⟩, ⟨_, _⟩⟩ rfl (by walk_at "pre") (fun _ h => h)) (dd_tup (da_cons dd_int (da_cons dd_int da_nil))) (by walk_at "shp") (by walk_at "shp"))))) (fun h2 => ?_) (fun h2 => ?_))
    · have e1 : PyData.eqv (z2 (dtt n (dtt n x y) z)) (z2 (dtt n x (dtt n y z))) = true := by rw [eqv_z2, assoc p1 hx hy hz]; simp
      have e2 : PyData.eqv (z2 (dtt n x (dtb n x))) (z2 (0, 0)) = true := by rw [eqv_z2, back_ok p1 hx]; simp
      have h3 : (!PyData.eqv (z2 (dtt n (dtt n x y) z)) (z2 (dtt n x (dtt n y z))) || !PyData.eqv (z2 (dtt n x (dtb n x))) (z2 (0, 0))) = true := h2
      rw [e1, e2] at h3
      exact absurd h3 (by decide)
    refine do_nil ?_
    refine do_cons (do_setP 9 sc_law.nd rfl (lo vn 9) (dm_addI (P1 := fun i => i = 1) (P2 := fun i => 0 ≤ i ∧ i < 12) (P := fun i => 1 ≤ i ∧ i ≤ 12) (dI_int rfl) (dm_drawD 1 F_draw (hr.mono (by decide)) (by rfl) rfl (vi vn 1) rfl dd_int ⟨by omega, by omega⟩) (fun i j a b => by omega)) (fun d z => by obtain ⟨r, rfl, _⟩ := z; rfl) (fun d z => ?_))
    obtain ⟨m, rfl, m1, m2⟩ := z
    refine do_fit (ρ' := [.no, .st, .no, .no, .no, .no, .no, .no, .no, .va (.int m), .no, .no, .no, .no, .no, .no, .no]) ⟨.inr rfl, .inr rfl, .inl rfl, .inl rfl, .inl rfl, .inl rfl, .inl rfl, .inl rfl, .inl rfl, .inr rfl, .inr rfl, .inr rfl, .inr rfl, .inr rfl, .inr rfl, .inr rfl, .inr rfl, True.intro⟩ ?_
    refine do_cons (do_setLD 10 sc_law.nd rfl (lo vn 10) (dl_lst da_nil) rfl ?_)
    refine do_norm (ρ' := [_, _, _, _, _, _, _, _, _, _, _, _, _, _, _, _, _]) rfl ?_
    refine do_cons (do_fold (List.range (2 * m).toNat) (fun k => .int (0 + (k : Nat))) [] (fun acc (k : Nat) => acc ++ [((k : Int), (0 : Int)), ((k : Int), (1 : Int))]) (fun acc => [.no, .st, .no, .no, .no, .no, .no, .no, .no, .va (.int m), .ow (.lst (acc.map z2)), .no, .no, .no, .no, .no, .no]) PassesOwn.never rfl (dI_range1 (by rfl) m_range (dd_mul dd_int (dd_varn vn 9) (by walk_at "mul")) (by walk_at "rng")) (pg_name (i := 4) sc_law.nd rfl (lo vn 4)) (Fits.refl _) (fun i k acc hk ha => ⟨_, _, (dg_name 4), ?turn2⟩) ?_ (fun _ _ a b => do_fit a b))
    case turn2 =>
      refine do_norm (ρ' := [_, _, _, _, _, _, _, _, _, _, _, _, _, _, _, _, _]) rfl ?_
      have la : acc.length ≤ 48 := by
        rw [ha, foldl_flat, List.nil_append]
        have := flat_len (f := fun (k : Nat) => [((k : Int), (0 : Int)), ((k : Int), (1 : Int))]) (m := 2) ((List.range (2 * m).toNat).take i) (fun _ _ => Nat.le_refl _)
        rw [List.length_take, List.length_range] at this
        omega
      refine do_cons (do_setLD 10 sc_law.nd rfl (lo vn 10) (dl_cat (dd_varz vn 10) (Dd.ofL (dl_lst (da_cons (dd_tup (da_cons (dd_varz vn 4) (da_cons dd_int da_nil))) (da_cons (dd_tup (da_cons (dd_varz vn 4) (da_cons dd_int da_nil))) da_nil)))) (by rw [List.length_map]; show acc.length + 2 ≤ _; omega)) ?pu2 ?_)
      case pu2 =>
        show purAll (acc.map z2 ++ [z2 (0 + (k : Int), 0), z2 (0 + (k : Int), 1)]) = true
        rw [show acc.map z2 ++ [z2 (0 + (k : Int), 0), z2 (0 + (k : Int), 1)] = (acc ++ [(0 + (k : Int), 0), (0 + (k : Int), 1)]).map z2 from by rw [List.map_append]; rfl]
        exact purAll_map (fun _ => rfl) _
      refine do_nil ?_
      refine ⟨.inr rfl, .inr rfl, .inl rfl, .inl rfl, .inl rfl, .inl rfl, .inl rfl, .inl rfl, .inl rfl, .inr rfl, .inr ?_, .inl rfl, .inl rfl, .inl rfl, .inl rfl, .inl rfl, .inl rfl, True.intro⟩
      rw [List.map_append, Int.zero_add]; rfl
    have eg : (List.range (2 * m).toNat).foldl (fun acc (k : Nat) => acc ++ [((k : Int), (0 : Int)), ((k : Int), (1 : Int))]) [] = grp m := by rw [foldl_flat, List.nil_append]; rfl
    rw [eg]
    refine do_cons (do_parULL (i := 11) (j := 12) ⟨rfl, sc_law.nd, rfl, rfl, by decide, lo vn 11, lo vn 12, rfl, rfl, rfl, rfl, rfl, rfl, pgs_cons (pg_name (i := 11) sc_law.nd rfl (lo vn 11)) (pgs_cons (pg_name (i := 12) sc_law.nd rfl (lo vn 12)) pgs_nil), rfl⟩ (dl_sort (d := 2) (xs := grp m) 64 i2 c2 (by decide) (by rfl) m_sorted (dd_varz vn 10) rfl (by rw [grp_len]; omega) (fun x hx => ⟨rfl, bd2 m2 (grp_in hx)⟩) (fun x _ => code2 x) (fun a ha b hb => inj2 m2 (grp_in ha) (grp_in hb))) (dl_lst da_nil) (fun d z => by rw [z]; exact purAll_map (fun _ => rfl) _) (fun d z => by rw [z]; rfl) (fun d1 d2 z1 z2 => ?_))
    subst z1 z2
    refine do_norm (ρ' := [.no, .st, .no, .no, .no, .no, .no, .no, .no, .va (.int m), .ow (.lst ((grp m).map z2)), .ow (.lst ((srC c2 (grp m)).map z2)), .ow (.lst []), .no, .no, .no, .no]) rfl ?_
    refine do_cons (do_fold (List.range (m + 4).toNat) (fun k => .int (0 + (k : Nat))) (srC c2 (grp m), []) (fun s _ => lawStep m s) (fun s => [.no, .st, .no, .no, .no, .no, .no, .no, .no, .va (.int m), .ow (.lst ((grp m).map z2)), .ow (.lst (s.1.map z2)), .ow (.lst (s.2.map fun l => .tuple (l.map z2))), .no, .no, .no, .no]) PassesOwn.never rfl (dI_range1 (by rfl) m_range (dd_add (dd_varn vn 9) dd_int) (by walk_at "rng")) (pg_name (i := 13) sc_law.nd rfl (lo vn 13)) (Fits.refl _) (fun i k s hk hs => ⟨_, _, (dg_name 13), ?turn3⟩) ?_ (fun _ _ a b => do_fit a b))
    case turn3 =>
      refine do_norm (ρ' := [_, _, _, _, _, _, _, _, _, _, _, _, _, _, _, _, _]) rfl ?_
      have hi : i < (m + 4).toNat := by
        have := (List.getElem?_eq_some_iff.mp hk).1
        rwa [List.length_range] at this
      have es : s = lawRun m i := by
        rw [hs, List.take_range, Nat.min_eq_left (Nat.le_of_lt hi), run_fold]
      obtain ⟨in1, in2, in3⟩ := run_in (n := m) i
      rw [← es] at in1 in2 in3
      refine do_cons (do_ifD (dt_ne hu (dd_varz vn 11) (Dd.ofL (dl_lst da_nil)) (sh_z2 _) (by walk_at "shp")) (fun h3 => ?_) (fun h3 => ?_))
      · rw [eqv_nil] at h3
        obtain ⟨left, lots⟩ := s
        cases left with
        | nil => exact absurd h3 (by exact Bool.false_ne_true)
        | cons x rest =>
          have hx := in1 x List.mem_cons_self
          refine do_cons (do_setV 14 sc_law.nd rfl (lo vn 14) (dl_sset (d := 2) (xs := (grp m).map (cnj m x)) 64 i2 c2 rfl hu (by decide) (by rfl) m_sorted (by rfl) m_set (Dd.ofL (lc_M (grp m) z2 (fun u => z2 (cnj m x u)) _ _ rfl sc_law.nd (dI_list (dd_varz vn 10)) (blkOk_by (own := [("u", 16)]) (N := N_law) (sc := defScope s_law) (by decide +kernel)) (by rw [grp_len]; omega) (fun _ _ _ _ _ => (pg_name (i := 16) sc_law.nd rfl (.inl rfl))) (fun x hx => (dg_name 16)) (by decide) (fun u hu _ _ _ _ _ => (dd_call F_lti (hr.mono (by decide)) (by rfl) (da_cons (dd_var 9) (da_cons (dd_call F_lti (hr.mono (by decide)) (by rfl) (da_cons (dd_var 9) (da_cons (dd_var 16) (da_cons (dd_ixL (dd_var 11) dd_int (atI_zero (z2 x) _)) da_nil))) ⟨_, ⟨_, _⟩, ⟨_, _⟩⟩ rfl (by walk_at "pre") (fun _ h => h)) (da_cons (dd_call F_lba (hr.mono (by decide)) (by rfl) (da_cons (dd_var 9) (da_cons (dd_var 16) da_nil)) ⟨_, ⟨_, _⟩⟩ rfl (by walk_at "pre") (fun _ h => h)) da_nil))) ⟨_, ⟨_, _⟩, ⟨_, _⟩⟩ rfl (by walk_at "pre") (fun _ h => h)))).dl) ?xs3 ?h64 ?hB (fun y _ => code2 y) ?inj) (purAll_map (fun _ => rfl) _) ?_)
          case xs3 => rw [List.map_map]; rfl
          case h64 => rw [List.length_map, grp_len]; omega
          case hB =>
            intro y hy
            obtain ⟨u, hu, rfl⟩ := List.mem_map.mp hy
            exact ⟨rfl, bd2 m2 (in_dtt m1 (in_dtb m1))⟩
          case inj =>
            intro a ha b hb
            obtain ⟨u, hu, rfl⟩ := List.mem_map.mp ha
            obtain ⟨v, hv, rfl⟩ := List.mem_map.mp hb
            exact inj2 m2 (in_dtt m1 (in_dtb m1)) (in_dtt m1 (in_dtb m1))
          refine do_norm (ρ' := [.no, .st, .no, .no, .no, .no, .no, .no, .no, .va (.int m), .ow (.lst ((grp m).map z2)), .ow (.lst ((x :: rest).map z2)), .ow (.lst (lots.map fun l => .tuple (l.map z2))), .va (.int (0 + (k : Nat))), .va (.list ((lotF m x).map z2)), .no, .no]) rfl ?_
          refine do_cons (do_appendD 12 rfl (vi vn 12) rfl (dd_tuple (by rfl) m_tuple (dd_varz vn 14) (.inl rfl)) (purAll_map (fun _ => rfl) _) (by rw [List.length_map]; show lots.length ≤ _; have : lots.length ≤ i := in3; omega) ?_)
          refine do_norm (ρ' := [_, _, _, _, _, _, _, _, _, _, _, _, _, _, _, _, _]) rfl ?_
          refine do_cons (do_setLD 11 sc_law.nd rfl (lo vn 11) (lc_F (x :: rest) z2 (fun y => !decide (y ∈ lotF m x)) z2 _ _ rfl sc_law.nd (dI_list (dd_varz vn 11)) (blkOk_by (own := [("one", 15)]) (N := N_law) (sc := defScope s_law) (by decide +kernel)) (by show (x :: rest).length ≤ _; have : (x :: rest).length ≤ 2 * (2 * m).toNat := in2; omega) (fun _ _ _ _ _ => (pg_name (i := 15) sc_law.nd rfl (.inl rfl))) (fun x hx => (dg_name 15)) (by decide) (fun y hy _ _ _ _ _ => DTd.eq (dt_notIn hu (dd_var 15) (dd_var 14) (by walk_at "shp") (sh_z2 _)) (by rw [any_z2])) (fun y hy _ _ _ _ _ _ => (dd_var 15))).dl (purAll_map (fun _ => rfl) _) ?_)
          refine do_nil ?_
          refine do_nil ?_
          refine ⟨.inr rfl, .inr rfl, .inl rfl, .inl rfl, .inl rfl, .inl rfl, .inl rfl, .inl rfl, .inl rfl, .inr rfl, .inr rfl, .inr rfl, .inr ?_, .inl rfl, .inl rfl, .inl rfl, .inl rfl, True.intro⟩
          show Sl.ow (.lst ((lots ++ [lotF m x]).map fun l => PyData.tuple (l.map z2))) = _
          rw [List.map_append]; rfl
      · rw [eqv_nil] at h3
        obtain ⟨left, lots⟩ := s
        cases left with
        | cons x rest => exact absurd h3 (by exact Bool.false_ne_true.symm)
        | nil =>
          refine do_nil ?_
          refine do_nil ?_
          exact ⟨.inr rfl, .inr rfl, .inl rfl, .inl rfl, .inl rfl, .inl rfl, .inl rfl, .inl rfl, .inl rfl, .inr rfl, .inr rfl, .inr rfl, .inr rfl, .inl rfl, .inl rfl, .inl rfl, .inl rfl, True.intro⟩
    obtain ⟨q1, q2, q3⟩ := lots_ok m1 m2
    rw [run_fold, q1, q2]
    have q4 : (lotsF m).length ≤ 15 := by rw [q3]; omega
    refine do_norm (ρ' := [.no, .st, .no, .no, .no, .no, .no, .no, .no, .va (.int m), .ow (.lst ((grp m).map z2)), .ow (.lst []), .ow (.lst ((lotsF m).map fun l => .tuple (l.map z2))), .no, .no, .no, .no]) rfl ?_
    refine do_cons (do_ifD (dw_t (dw_or (dt_ne hu (dd_varz vn 11) (Dd.ofL (dl_lst da_nil)) (by walk_at "shp") (by walk_at "shp")) fun _ => (dw_or (dt_neI hu (dd_len (by rfl) m_len (dd_varz vn 12) rfl) (dd_add (dd_varz vn 9) dd_int)) fun _ => (dw_or1 (dt_not (dt_val (k := true) (dd_call F_leq (hr.mono (by decide)) (by rfl) (da_cons (Dd.ofL (lc_M (lotsF m) (fun l => .tuple (l.map z2)) (fun l => .tuple (l.map z2)) _ _ rfl sc_law.nd (dI_list (Dd.ofL (dl_call F_dtl (hr.mono (by decide)) (by rfl) (da_cons (dd_varz vn 9) da_nil) m rfl (by walk_at "pre") (fun _ h => h)))) (blkOk_by (own := [("lot", 14)]) (N := N_law) (sc := defScope s_law) (by decide +kernel)) (by omega) (fun _ _ _ _ _ => (pg_name (i := 14) sc_law.nd rfl (.inl rfl))) (fun x hx => (dg_name 14)) (by decide) (fun x hx _ _ _ _ _ => (dd_tuple (by rfl) m_tuple (dd_var 14) (.inr rfl)))).dl) (da_cons (dd_varz vn 12) da_nil)) (.list ((lotsF m).map fun l => .tuple (l.map z2))) rfl ?okl (fun _ h => h)))))))) (fun h4 => ?_) (fun h4 => ?_))
    case okl =>
      refine ⟨by rw [List.length_map]; omega, fun d hd => ?_⟩
      obtain ⟨l, hl, rfl⟩ := List.mem_map.mp hd
      refine ⟨by rw [List.length_map]; have := lotsF_len m1 m2 l hl; omega, fun d hd => ?_⟩
      obtain ⟨y, hy, rfl⟩ := List.mem_map.mp hd
      refine ⟨by show (2 : Nat) ≤ _; omega, fun d hd => ?_⟩
      simp only [List.mem_cons, List.not_mem_nil, or_false] at hd
      rcases hd with rfl | rfl <;> exact True.intro
    · have e1 : (((lotsF m).map fun l => PyData.tuple (l.map z2)).length : Int) = m + 3 := by rw [List.length_map, q3]; omega
      rw [e1] at h4
      exact absurd h4 (by simp [eqv_nil])
    refine do_nil ?_
    refine do_nil ?_
    exact ⟨.inr rfl, .inr rfl, .inl rfl, .inl rfl, .inl rfl, .inl rfl, .inl rfl, .inl rfl, .inl rfl, .inl rfl, .inl rfl, .inl rfl, .inl rfl, .inl rfl, .inl rfl, .inl rfl, .inl rfl, True.intro⟩
  refine do_cons (do_retD (dd_call F_leq (hr.mono (by decide)) (by rfl) (da_cons (Dd.ofL (dl_lst (da_cons (dd_call F_dtt (hr.mono (by decide)) (by rfl) (da_cons dd_int (da_cons (dd_tup (da_cons dd_int (da_cons dd_int da_nil))) (da_cons (dd_tup (da_cons dd_int (da_cons dd_int da_nil))) da_nil))) ⟨2, ⟨1, 1⟩, ⟨1, 1⟩⟩ rfl (by decide) (fun _ h => h)) (da_cons (dd_call F_dto (hr.mono (by decide)) (by rfl) (da_cons dd_int (da_cons (dd_tup (da_cons dd_int (da_cons dd_int da_nil))) da_nil)) ⟨5, ⟨4, 0⟩⟩ rfl (by decide) (fun _ h => h)) (da_cons (dd_call F_dto (hr.mono (by decide)) (by rfl) (da_cons dd_int (da_cons (dd_tup (da_cons dd_int (da_cons dd_int da_nil))) da_nil)) ⟨3, ⟨2, 1⟩⟩ rfl (by decide) (fun _ h => h)) (da_cons (dd_call F_dtb (hr.mono (by decide)) (by rfl) (da_cons dd_int (da_cons (dd_tup (da_cons dd_int (da_cons dd_int da_nil))) da_nil)) ⟨1, ⟨0, 1⟩⟩ rfl (by decide) (fun _ h => h)) da_nil)))))) (da_cons (Dd.ofL (dl_lst (da_cons (dd_tup (da_cons dd_int (da_cons dd_int da_nil))) (da_cons dd_int (da_cons dd_int (da_cons (dd_tup (da_cons dd_int (da_cons dd_int da_nil))) da_nil)))))) da_nil)) (.list [z2 (2, 0), .int 5, .int 4, z2 (1, 1)]) ?are (by simp [okD]) (fun _ h => h)) rfl rfl)
  case are =>
    have e1 : dtt 2 (1, 1) (1, 1) = (2, 0) := by decide
    have e2 : dto 5 (4, 0) = 5 := by decide
    have e3 : dto 3 (2, 1) = 4 := by decide
    have e4 : dtb 1 (0, 1) = (1, 1) := by decide
    rw [e1, e2, e3, e4]
end
end K35
namespace K35
open PySem PySem.Spec PyProof.Rows L2 G
theorem all_mk {l : PySem.W.OpenLaw} {w : World} {K : PySem.W.Frag} {h : Heap} {mg : Str → Option Value} {fa : Addr} (X : K.In h) (G0 : h.Ns mainGlobals mg) (hfa : mg "law" = some (.ref fa))
    {f0 : Addr} {od0 an0 : Option Addr} {sl0 : Array (Option Value)} {oc0 kV0 dc0 pm0 cd0 ct0 : Value}
    {f1 : Addr} {od1 an1 : Option Addr} {sl1 : Array (Option Value)} {oc1 kV1 dc1 pm1 cd1 ct1 : Value}
    {f2 : Addr} {od2 an2 : Option Addr} {sl2 : Array (Option Value)} {oc2 kV2 dc2 pm2 cd2 ct2 : Value}
    {f3 : Addr} {od3 an3 : Option Addr} {sl3 : Array (Option Value)} {oc3 kV3 dc3 pm3 cd3 ct3 : Value}
    {f4 : Addr} {od4 an4 : Option Addr} {sl4 : Array (Option Value)} {oc4 kV4 dc4 pm4 cd4 ct4 : Value}
    {f5 : Addr} {od5 an5 : Option Addr} {sl5 : Array (Option Value)} {oc5 kV5 dc5 pm5 cd5 ct5 : Value}
    {f6 : Addr} {od6 an6 : Option Addr} {sl6 : Array (Option Value)} {oc6 kV6 dc6 pm6 cd6 ct6 : Value}
    {f7 : Addr} {od7 an7 : Option Addr} {sl7 : Array (Option Value)} {oc7 kV7 dc7 pm7 cd7 ct7 : Value}
    {f8 : Addr} {od8 an8 : Option Addr} {sl8 : Array (Option Value)} {oc8 kV8 dc8 pm8 cd8 ct8 : Value}
    {f9 : Addr} {od9 an9 : Option Addr} {sl9 : Array (Option Value)} {oc9 kV9 dc9 pm9 cd9 ct9 : Value}
    {f10 : Addr} {od10 an10 : Option Addr} {sl10 : Array (Option Value)} {oc10 kV10 dc10 pm10 cd10 ct10 : Value}
    {f11 : Addr} {od11 an11 : Option Addr} {sl11 : Array (Option Value)} {oc11 kV11 dc11 pm11 cd11 ct11 : Value}
    (a0 : PySem.W.nsIn K mainGlobals "double_turn_times" = some (some (.ref f0))) (l0 : K.lookup f0 = some ⟨oc0, od0, .func (PySem.W.fnOf "double_turn_times" "double_turn_times" (defArgs s_dtt) (defBody s_dtt) (defScope s_dtt) .none kV0 dc0 pm0 an0 cd0 ct0), sl0⟩) (c0 : PySem.W.codeIn K cd0 "double_turn_times" = true) (k0 : PySem.W.keepIn K (.ref f0) = true)
    (a1 : PySem.W.nsIn K mainGlobals "double_turn_order" = some (some (.ref f1))) (l1 : K.lookup f1 = some ⟨oc1, od1, .func (PySem.W.fnOf "double_turn_order" "double_turn_order" (defArgs s_dto) (defBody s_dto) (defScope s_dto) .none kV1 dc1 pm1 an1 cd1 ct1), sl1⟩) (c1 : PySem.W.codeIn K cd1 "double_turn_order" = true) (k1 : PySem.W.keepIn K (.ref f1) = true)
    (a2 : PySem.W.nsIn K mainGlobals "double_turn_back" = some (some (.ref f2))) (l2 : K.lookup f2 = some ⟨oc2, od2, .func (PySem.W.fnOf "double_turn_back" "double_turn_back" (defArgs s_dtb) (defBody s_dtb) (defScope s_dtb) .none kV2 dc2 pm2 an2 cd2 ct2), sl2⟩) (c2 : PySem.W.codeIn K cd2 "double_turn_back" = true) (k2 : PySem.W.keepIn K (.ref f2) = true)
    (a3 : PySem.W.nsIn K mainGlobals "double_turn_lots" = some (some (.ref f3))) (l3 : K.lookup f3 = some ⟨oc3, od3, .func (PySem.W.fnOf "double_turn_lots" "double_turn_lots" (defArgs s_dtl) (defBody s_dtl) (defScope s_dtl) .none kV3 dc3 pm3 an3 cd3 ct3), sl3⟩) (c3 : PySem.W.codeIn K cd3 "double_turn_lots" = true) (k3 : PySem.W.keepIn K (.ref f3) = true)
    (a4 : PySem.W.nsIn K mainGlobals "_law_state" = some (some (.ref f4))) (l4 : K.lookup f4 = some ⟨oc4, od4, .func (PySem.W.fnOf "_law_state" "_law_state" (defArgs s_state) (defBody s_state) (defScope s_state) .none kV4 dc4 pm4 an4 cd4 ct4), sl4⟩) (c4 : PySem.W.codeIn K cd4 "_law_state" = true) (k4 : PySem.W.keepIn K (.ref f4) = true)
    (a5 : PySem.W.nsIn K mainGlobals "_law_draw" = some (some (.ref f5))) (l5 : K.lookup f5 = some ⟨oc5, od5, .func (PySem.W.fnOf "_law_draw" "_law_draw" (defArgs s_draw) (defBody s_draw) (defScope s_draw) .none kV5 dc5 pm5 an5 cd5 ct5), sl5⟩) (c5 : PySem.W.codeIn K cd5 "_law_draw" = true) (k5 : PySem.W.keepIn K (.ref f5) = true)
    (a6 : PySem.W.nsIn K mainGlobals "_law_pick" = some (some (.ref f6))) (l6 : K.lookup f6 = some ⟨oc6, od6, .func (PySem.W.fnOf "_law_pick" "_law_pick" (defArgs s_pick) (defBody s_pick) (defScope s_pick) .none kV6 dc6 pm6 an6 cd6 ct6), sl6⟩) (c6 : PySem.W.codeIn K cd6 "_law_pick" = true) (k6 : PySem.W.keepIn K (.ref f6) = true)
    (a7 : PySem.W.nsIn K mainGlobals "_law_eq" = some (some (.ref f7))) (l7 : K.lookup f7 = some ⟨oc7, od7, .func (PySem.W.fnOf "_law_eq" "_law_eq" (defArgs s_leq) (defBody s_leq) (defScope s_leq) .none kV7 dc7 pm7 an7 cd7 ct7), sl7⟩) (c7 : PySem.W.codeIn K cd7 "_law_eq" = true) (k7 : PySem.W.keepIn K (.ref f7) = true)
    (a8 : PySem.W.nsIn K mainGlobals "_law_times" = some (some (.ref f8))) (l8 : K.lookup f8 = some ⟨oc8, od8, .func (PySem.W.fnOf "_law_times" "_law_times" (defArgs s_lti) (defBody s_lti) (defScope s_lti) .none kV8 dc8 pm8 an8 cd8 ct8), sl8⟩) (c8 : PySem.W.codeIn K cd8 "_law_times" = true) (k8 : PySem.W.keepIn K (.ref f8) = true)
    (a9 : PySem.W.nsIn K mainGlobals "_law_back" = some (some (.ref f9))) (l9 : K.lookup f9 = some ⟨oc9, od9, .func (PySem.W.fnOf "_law_back" "_law_back" (defArgs s_lba) (defBody s_lba) (defScope s_lba) .none kV9 dc9 pm9 an9 cd9 ct9), sl9⟩) (c9 : PySem.W.codeIn K cd9 "_law_back" = true) (k9 : PySem.W.keepIn K (.ref f9) = true)
    (a10 : PySem.W.nsIn K mainGlobals "_law_order" = some (some (.ref f10))) (l10 : K.lookup f10 = some ⟨oc10, od10, .func (PySem.W.fnOf "_law_order" "_law_order" (defArgs s_lor) (defBody s_lor) (defScope s_lor) .none kV10 dc10 pm10 an10 cd10 ct10), sl10⟩) (c10 : PySem.W.codeIn K cd10 "_law_order" = true) (k10 : PySem.W.keepIn K (.ref f10) = true)
    (a11 : PySem.W.nsIn K mainGlobals "law" = some (some (.ref f11))) (l11 : K.lookup f11 = some ⟨oc11, od11, .func (PySem.W.fnOf "law" "law" (defArgs s_law) (defBody s_law) (defScope s_law) .none kV11 dc11 pm11 an11 cd11 ct11), sl11⟩) (c11 : PySem.W.codeIn K cd11 "law" = true) (k11 : PySem.W.keepIn K (.ref f11) = true)
    (z_len : PySem.W.nsIn K mainGlobals "len" = some none)
    (z_int : PySem.W.nsIn K mainGlobals "int" = some none)
    (z_abs : PySem.W.nsIn K mainGlobals "abs" = some none)
    (z_range : PySem.W.nsIn K mainGlobals "range" = some none)
    (z_sorted : PySem.W.nsIn K mainGlobals "sorted" = some none)
    (z_set : PySem.W.nsIn K mainGlobals "set" = some none)
    (z_tuple : PySem.W.nsIn K mainGlobals "tuple" = some none)
    (z_list : PySem.W.nsIn K mainGlobals "list" = some none)
    (z_str : PySem.W.nsIn K mainGlobals "str" = some none)
    (z_bool : PySem.W.nsIn K mainGlobals "bool" = some none)
    (z_isinstance : PySem.W.nsIn K mainGlobals "isinstance" = some none)
    (z_gcd : PySem.W.nsIn K mainGlobals "gcd" = some (some (.builtin "math.gcd"))) :
    ∃ fd : FuncData, (∀ (s : Shared) (v : Value), BindsTo s fd ⟨[v], []⟩ [("script", v)]) ∧ ∀ base : Heap, K.In base → base.Ns mainGlobals mg → FnOk l.prog w K mg base CX0 5 fa fd ["script"] (sp_law K) := by
  have e := hfa.symm.trans (PySem.W.mg_of X G0 a11)
  cases e
  have D_dtt := fun_mk (st := s_dtt) l0 c0 k0
  have B_dtt := D_dtt.binds (ps := ["n", "x", "y"]) fun _ _ _ _ _ _ us hl => match us, hl with | [_, _, _], _ => rfl
  have M_dtt := PySem.W.mg_of X G0 a0
  have D_dto := fun_mk (st := s_dto) l1 c1 k1
  have B_dto := D_dto.binds (ps := ["n", "x"]) fun _ _ _ _ _ _ us hl => match us, hl with | [_, _], _ => rfl
  have M_dto := PySem.W.mg_of X G0 a1
  have D_dtb := fun_mk (st := s_dtb) l2 c2 k2
  have B_dtb := D_dtb.binds (ps := ["n", "x"]) fun _ _ _ _ _ _ us hl => match us, hl with | [_, _], _ => rfl
  have M_dtb := PySem.W.mg_of X G0 a2
  have D_dtl := fun_mk (st := s_dtl) l3 c3 k3
  have B_dtl := D_dtl.binds (ps := ["n"]) fun _ _ _ _ _ _ us hl => match us, hl with | [_], _ => rfl
  have M_dtl := PySem.W.mg_of X G0 a3
  have D_state := fun_mk (st := s_state) l4 c4 k4
  have B_state := D_state.binds (ps := ["script"]) fun _ _ _ _ _ _ us hl => match us, hl with | [_], _ => rfl
  have M_state := PySem.W.mg_of X G0 a4
  have D_draw := fun_mk (st := s_draw) l5 c5 k5
  have B_draw := D_draw.binds (ps := ["state", "many"]) fun _ _ _ _ _ _ us hl => match us, hl with | [_, _], _ => rfl
  have M_draw := PySem.W.mg_of X G0 a5
  have D_pick := fun_mk (st := s_pick) l6 c6 k6
  have B_pick := D_pick.binds (ps := ["state", "row"]) fun _ _ _ _ _ _ us hl => match us, hl with | [_, _], _ => rfl
  have M_pick := PySem.W.mg_of X G0 a6
  have D_leq := fun_mk (st := s_leq) l7 c7 k7
  have B_leq := D_leq.binds (ps := ["told", "due"]) fun _ _ _ _ _ _ us hl => match us, hl with | [_, _], _ => rfl
  have M_leq := PySem.W.mg_of X G0 a7
  have D_lti := fun_mk (st := s_lti) l8 c8 k8
  have B_lti := D_lti.binds (ps := ["n", "x", "y"]) fun _ _ _ _ _ _ us hl => match us, hl with | [_, _, _], _ => rfl
  have M_lti := PySem.W.mg_of X G0 a8
  have D_lba := fun_mk (st := s_lba) l9 c9 k9
  have B_lba := D_lba.binds (ps := ["n", "x"]) fun _ _ _ _ _ _ us hl => match us, hl with | [_, _], _ => rfl
  have M_lba := PySem.W.mg_of X G0 a9
  have D_lor := fun_mk (st := s_lor) l10 c10 k10
  have B_lor := D_lor.binds (ps := ["n", "x"]) fun _ _ _ _ _ _ us hl => match us, hl with | [_, _], _ => rfl
  have M_lor := PySem.W.mg_of X G0 a10
  have D_law := fun_mk (st := s_law) l11 c11 k11
  have m_len := PySem.W.mg_none_of X G0 z_len
  have m_int := PySem.W.mg_none_of X G0 z_int
  have m_abs := PySem.W.mg_none_of X G0 z_abs
  have m_range := PySem.W.mg_none_of X G0 z_range
  have m_sorted := PySem.W.mg_none_of X G0 z_sorted
  have m_set := PySem.W.mg_none_of X G0 z_set
  have m_tuple := PySem.W.mg_none_of X G0 z_tuple
  have m_list := PySem.W.mg_none_of X G0 z_list
  have m_str := PySem.W.mg_none_of X G0 z_str
  have m_bool := PySem.W.mg_none_of X G0 z_bool
  have m_isinstance := PySem.W.mg_none_of X G0 z_isinstance
  have m_gcd := PySem.W.mg_of X G0 z_gcd
  refine ⟨PySem.W.fnOf "law" "law" (defArgs s_law) (defBody s_law) (defScope s_law) .none kV11 dc11 pm11 an11 cd11 ct11, fun s v => .of_eq rfl, fun base _ _ => ?_⟩
  have F_state : Fn l.prog w K mg base _ _ _ _ := ⟨_, _, ok_state (k := 3) D_state m_int m_abs, M_state, D_state.kp, B_state⟩
  have F_draw : Fn l.prog w K mg base _ _ _ _ := ⟨_, _, ok_draw (k := 0) D_draw m_len m_int, M_draw, D_draw.kp, B_draw⟩
  have F_pick : Fn l.prog w K mg base _ _ _ _ := ⟨_, _, ok_pick D_pick F_draw m_len, M_pick, D_pick.kp, B_pick⟩
  have F_leq0 : Fn l.prog w K mg base _ _ _ _ := ⟨_, _, ok_leq 0 D_leq (fun m h => by cases h) m_len m_range m_isinstance m_list m_tuple m_str m_bool m_int, M_leq, D_leq.kp, B_leq⟩
  have F_leq1 : Fn l.prog w K mg base _ _ _ _ := ⟨_, _, ok_leq 1 D_leq (fun m h => by cases h; exact F_leq0) m_len m_range m_isinstance m_list m_tuple m_str m_bool m_int, M_leq, D_leq.kp, B_leq⟩
  have F_leq2 : Fn l.prog w K mg base _ _ _ _ := ⟨_, _, ok_leq 2 D_leq (fun m h => by cases h; exact F_leq1) m_len m_range m_isinstance m_list m_tuple m_str m_bool m_int, M_leq, D_leq.kp, B_leq⟩
  have F_leq3 : Fn l.prog w K mg base _ _ _ _ := ⟨_, _, ok_leq 3 D_leq (fun m h => by cases h; exact F_leq2) m_len m_range m_isinstance m_list m_tuple m_str m_bool m_int, M_leq, D_leq.kp, B_leq⟩
  have F_dtt : Fn l.prog w K mg base _ _ _ _ := ⟨_, _, ok_dtt (k := 0) D_dtt, M_dtt, D_dtt.kp, B_dtt⟩
  have F_dto : Fn l.prog w K mg base _ _ _ _ := ⟨_, _, ok_dto (k := 0) D_dto m_gcd, M_dto, D_dto.kp, B_dto⟩
  have F_dtb : Fn l.prog w K mg base _ _ _ _ := ⟨_, _, ok_dtb (k := 0) D_dtb, M_dtb, D_dtb.kp, B_dtb⟩
  have F_dtl : Fn l.prog w K mg base _ _ _ _ := ⟨_, _, ok_dtl D_dtl F_dtt F_dtb m_range m_sorted m_set m_tuple, M_dtl, D_dtl.kp, B_dtl⟩
  have F_lti : Fn l.prog w K mg base _ _ _ _ := ⟨_, _, ok_lti (k := 0) D_lti, M_lti, D_lti.kp, B_lti⟩
  have F_lba : Fn l.prog w K mg base _ _ _ _ := ⟨_, _, ok_lba (k := 0) D_lba, M_lba, D_lba.kp, B_lba⟩
  have F_lor : Fn l.prog w K mg base _ _ _ _ := ⟨_, _, ok_lor D_lor F_lti, M_lor, D_lor.kp, B_lor⟩
  exact ok_law D_law F_state F_draw F_pick F_leq3 F_lti F_lba F_lor F_dtt F_dto F_dtb F_dtl m_range m_sorted m_set m_tuple m_len
end K35
open PySem PySem.W PyProof.Rows
set_option maxHeartbeats 0 in
theorem PySem.Challenge.cw_fourfolds_k35_whole_double_turns_holds : PySem.Challenge.rw_fourfolds_k35_whole_double_turns.Holds := by
  w_on; o_law; k_head; (case hw => w_witness2)
  k_fill
  refine L2.walk_of (l := PySem.Challenge.rw_fourfolds_k35_whole_double_turns) (n := 63) (k := 5) (x := "script") (CX := fun _ => L2.CX0) (sp := fun w => G.sp_law _) rfl (by decide) rfl ⟨rfl, by decide, by decide⟩ (fun w h Y => PySem.W.kIn_of Y) ?F (fun _ _ a ns hl _ hS => ⟨a, ns, rfl, hS, hl, fun _ => rfl⟩) (fun _ _ _ _ _ h => h)
  case F =>
    intro w mg fa h KX G0 hmg
    refine' K35.all_mk KX G0 hmg ?a0 ?l0 ?c0 ?k0 ?a1 ?l1 ?c1 ?k1 ?a2 ?l2 ?c2 ?k2 ?a3 ?l3 ?c3 ?k3 ?a4 ?l4 ?c4 ?k4 ?a5 ?l5 ?c5 ?k5 ?a6 ?l6 ?c6 ?k6 ?a7 ?l7 ?c7 ?k7 ?a8 ?l8 ?c8 ?k8 ?a9 ?l9 ?c9 ?k9 ?a10 ?l10 ?c10 ?k10 ?a11 ?l11 ?c11 ?k11 ?z_len ?z_int ?z_abs ?z_range ?z_sorted ?z_set ?z_tuple ?z_list ?z_str ?z_bool ?z_isinstance ?z_gcd
    (case a0 => k_is)
    (case l0 => k_is)
    (case c0 => k_is)
    (case k0 => k_is)
    (case a1 => k_is)
    (case l1 => k_is)
    (case c1 => k_is)
    (case k1 => k_is)
    (case a2 => k_is)
    (case l2 => k_is)
    (case c2 => k_is)
    (case k2 => k_is)
    (case a3 => k_is)
    (case l3 => k_is)
    (case c3 => k_is)
    (case k3 => k_is)
    (case a4 => k_is)
    (case l4 => k_is)
    (case c4 => k_is)
    (case k4 => k_is)
    (case a5 => k_is)
    (case l5 => k_is)
    (case c5 => k_is)
    (case k5 => k_is)
    (case a6 => k_is)
    (case l6 => k_is)
    (case c6 => k_is)
    (case k6 => k_is)
    (case a7 => k_is)
    (case l7 => k_is)
    (case c7 => k_is)
    (case k7 => k_is)
    (case a8 => k_is)
    (case l8 => k_is)
    (case c8 => k_is)
    (case k8 => k_is)
    (case a9 => k_is)
    (case l9 => k_is)
    (case c9 => k_is)
    (case k9 => k_is)
    (case a10 => k_is)
    (case l10 => k_is)
    (case c10 => k_is)
    (case k10 => k_is)
    (case a11 => k_is)
    (case l11 => k_is)
    (case c11 => k_is)
    (case k11 => k_is)
    (case z_len => k_is)
    (case z_int => k_is)
    (case z_abs => k_is)
    (case z_range => k_is)
    (case z_sorted => k_is)
    (case z_set => k_is)
    (case z_tuple => k_is)
    (case z_list => k_is)
    (case z_str => k_is)
    (case z_bool => k_is)
    (case z_isinstance => k_is)
    (case z_gcd => k_is)
