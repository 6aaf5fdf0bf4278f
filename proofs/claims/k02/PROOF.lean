import PyProof.Rows.All
import Wide.All
import OpenK.AllK
import Wide.FinOn
import HandS.ForMost
import HandS.ForExc
import HandS.Deep
import HandS.IsInst
import HandS.TupAny
import PyProof.ReprRoads
import HandS.SortInts
import HandS.Words
import HandS.WordsExc
import HandS.Lambda
import HandS.HeadHook2
import HandS.Head0
import HandS.Head1
import HandS.Head2
import PySem.Challenge.RW_sparebits_k02_whole_reckoning
set_option Elab.async false
set_option linter.all false
set_option maxRecDepth 100000
/-! The state of a run as plain data: values, a store of the things that change, and how the layer's abstract heap bears them. -/
namespace SB
open PySem PySem.Spec PyProof.Rows L2

/-- a value: data that never changes, or the i-th thing of the store -/
inductive PV where
  | d (x : PyData)
  | ref (i : Nat)
/-- a thing that changes -/
inductive SO where
  | lst (xs : List PV)
  | dic (kvs : List (L2.Key × PV))
  | ins (c : Nat) (fs : List (Str × PV))
abbrev Sto := List SO
structure Ex where
  cls : Nat
  fs : List (Str × PV) := []
inductive Res (α : Type) where
  | ok (a : α) (st : Sto)
  | exc (e : Ex) (st : Sto)
  | bad
abbrev M (α : Type) := Sto → Res α
abbrev En := List (Option PV)
def Res.bind {α β : Type} : Res α → (α → M β) → Res β
  | .ok a st, f => f a st
  | .exc e st, _ => .exc e st
  | .bad, _ => .bad
def kD : L2.Key → PyData
  | .inl i => .int i
  | .inr x => .str x

/-! ### data borne by the abstract heap; B: what may be written -/
def SqF (K : PySem.W.Frag) (B : Addr → Prop) (H : Hp) (a : Addr) (xs : List V) : Prop :=
  (Rd H a (.lst xs) ∧ ¬ B a) ∨
    ∃ (o : Obj) (its : Array Value) (n : Nat), K.lookup a = some o ∧ o.cls = .type "list" ∧ o.dict = none ∧ o.data = .seq its n ∧ its.size ≤ sizeLine ∧ Vals xs its.toList
theorem SqF.seq {K : PySem.W.Frag} {B : Addr → Prop} {H : Hp} {a : Addr} {xs : List V} (h : SqF K B H a xs) : SqL K H a xs := by
  rcases h with ⟨h, _⟩ | h
  · exact .inl h
  · exact .inr h
mutual
inductive DR (K : PySem.W.Frag) (B : Addr → Prop) (H : Hp) : V → PyData → Prop
  | non : DR K B H .non .none
  | bl (b : Bool) : DR K B H (.bl b) (.bool b)
  | int (i : Int) : DR K B H (.int i) (.int i)
  | str (x : Str) : DR K B H (.str x) (.str x)
  | lst {a : Addr} {xs : List V} {ds : List PyData} : SqF K B H a xs → DRs K B H xs ds → DR K B H (.ref a) (.list ds)
  | tup {a : Addr} {xs : List V} {ds : List PyData} : SqT K H a xs → DRs K B H xs ds → DR K B H (.ref a) (.tuple ds)
  | dct {a : Addr} {kvs : List (L2.Key × V)} {ds : List (PyData × PyData)} : H a = some (.dK kvs) → ¬ B a → (kvs.map (·.1)).Nodup → DRk K B H kvs ds → DR K B H (.ref a) (.dict ds)
inductive DRs (K : PySem.W.Frag) (B : Addr → Prop) (H : Hp) : List V → List PyData → Prop
  | nil : DRs K B H [] []
  | cons {v : V} {vs : List V} {d : PyData} {ds : List PyData} : DR K B H v d → DRs K B H vs ds → DRs K B H (v :: vs) (d :: ds)
inductive DRk (K : PySem.W.Frag) (B : Addr → Prop) (H : Hp) : List (L2.Key × V) → List (PyData × PyData) → Prop
  | nil : DRk K B H [] []
  | cons {k : L2.Key} {v : V} {vs : List (L2.Key × V)} {d : PyData} {ds : List (PyData × PyData)} : DR K B H v d → DRk K B H vs ds → DRk K B H ((k, v) :: vs) ((kD k, d) :: ds)
end
/-- what may be moved: tuples and lists that are read stay -/
structure Stay (K : PySem.W.Frag) (B B' : Addr → Prop) (H H' : Hp) : Prop where
  keep : ∀ a o, H a = some o → ¬ B a → H' a = some o ∧ ¬ B' a
  wr : ∀ a, B a → Mut (H a)
theorem Stay.tup {K : PySem.W.Frag} {B B' : Addr → Prop} {H H' : Hp} (s : Stay K B B' H H') {a : Addr} {xs : List V} (h : SqT K H a xs) : SqT K H' a xs := by
  have nb : ∀ o, H a = some o → ¬ Mut (some o) → ¬ B a := fun o e n q => n (by rw [← e]; exact s.wr a q)
  rcases h with (h | ⟨o, h⟩) | h
  · exact .inl (.inl (s.keep _ _ h (nb _ h fun z => z)).1)
  · exact .inl (.inr ⟨o, (s.keep _ _ h (nb _ h fun z => z)).1⟩)
  · exact .inr h
theorem Stay.lst {K : PySem.W.Frag} {B B' : Addr → Prop} {H H' : Hp} (s : Stay K B B' H H') {a : Addr} {xs : List V} (h : SqF K B H a xs) : SqF K B' H' a xs := by
  rcases h with ⟨h | ⟨o, h⟩, nb⟩ | h
  · exact .inl ⟨.inl (s.keep _ _ h nb).1, (s.keep _ _ h nb).2⟩
  · exact .inl ⟨.inr ⟨o, (s.keep _ _ h nb).1⟩, (s.keep _ _ h nb).2⟩
  · exact .inr h
section
variable {K : PySem.W.Frag} {B B' : Addr → Prop} {H H' : Hp}
mutual
theorem DR.stay (s : Stay K B B' H H') : ∀ (x : PyData) (v : V), DR K B H v x → DR K B' H' v x
  | .none, _, h => by cases h; exact .non
  | .bool _, _, h => by cases h; exact .bl _
  | .int _, _, h => by cases h; exact .int _
  | .str _, _, h => by cases h; exact .str _
  | .list ds, _, h => by
    cases h with
    | lst h1 h2 => exact .lst (s.lst h1) (DRs.stay s ds _ h2)
  | .tuple ds, _, h => by
    cases h with
    | tup h1 h2 => exact .tup (s.tup h1) (DRs.stay s ds _ h2)
  | .dict ds, _, h => by
    cases h with
    | dct h1 h2 h3 h4 => exact .dct (s.keep _ _ h1 h2).1 (s.keep _ _ h1 h2).2 h3 (DRk.stay s ds _ h4)
theorem DRs.stay (s : Stay K B B' H H') : ∀ (xs : List PyData) (vs : List V), DRs K B H vs xs → DRs K B' H' vs xs
  | [], _, h => by cases h; exact .nil
  | x :: xs, _, h => by
    cases h with
    | cons h1 h2 => exact .cons (DR.stay s x _ h1) (DRs.stay s xs _ h2)
theorem DRk.stay (s : Stay K B B' H H') : ∀ (xs : List (PyData × PyData)) (vs : List (L2.Key × V)), DRk K B H vs xs → DRk K B' H' vs xs
  | [], _, h => by cases h; exact .nil
  | (k, x) :: xs, _, h => by
    cases h with
    | cons h1 h2 => exact .cons (DR.stay s x _ h1) (DRk.stay s xs _ h2)
end
theorem DRs.length : ∀ {vs : List V} {xs : List PyData}, DRs K B H vs xs → vs.length = xs.length
  | _, [], h => by cases h; rfl
  | _, x :: xs, h => by
    cases h with
    | cons h1 h2 => simp [DRs.length h2]
theorem DRs.get : ∀ {vs : List V} {xs : List PyData} {i : Nat} {x : PyData}, DRs K B H vs xs → xs[i]? = some x → ∃ v, vs[i]? = some v ∧ DR K B H v x
  | _, [], i, x, h, e => by simp at e
  | _, y :: xs, 0, x, h, e => by
    cases h with
    | cons h1 h2 =>
      simp at e
      subst e
      exact ⟨_, by simp, h1⟩
  | _, y :: xs, i + 1, x, h, e => by
    cases h with
    | cons h1 h2 =>
      obtain ⟨v, e1, e2⟩ := DRs.get (i := i) h2 (by simpa using e)
      exact ⟨v, by simpa using e1, e2⟩
theorem DRs.paired : ∀ {vs : List V} {xs : List PyData}, DRs K B H vs xs → Paired (fun x v => DR K B H v x) xs vs
  | _, [], h => by cases h; exact .nil
  | _, x :: xs, h => by
    cases h with
    | cons h1 h2 => exact .cons h1 (DRs.paired h2)
theorem DRs.ofp : ∀ {vs : List V} {xs : List PyData}, Paired (fun x v => DR K B H v x) xs vs → DRs K B H vs xs
  | _, [], h => by cases h; exact .nil
  | _, x :: xs, h => by
    cases h with
    | cons h1 h2 => exact .cons h1 (DRs.ofp h2)
theorem DRs.append : ∀ {vs ws : List V} {xs ys : List PyData}, DRs K B H vs xs → DRs K B H ws ys → DRs K B H (vs ++ ws) (xs ++ ys)
  | _, _, [], _, h, g => by cases h; exact g
  | _, _, x :: xs, _, h, g => by
    cases h with
    | cons h1 h2 => exact .cons h1 (DRs.append h2 g)
end

/-! ### the store -/
/-- the store's addresses -/
def Bd (ρ : Nat → Addr) (n : Nat) (a : Addr) : Prop := ∃ i, i < n ∧ ρ i = a
/-- what the run leans on: the written part, the classes' addresses -/
structure G0 where
  K : PySem.W.Frag
  cl : Nat → Addr
def RV (g : G0) (ρ : Nat → Addr) (n : Nat) (H : Hp) : PV → V → Prop
  | .d x, v => DR g.K (Bd ρ n) H v x
  | .ref i, v => i < n ∧ v = .ref (ρ i)
abbrev RVs (g : G0) (ρ : Nat → Addr) (n : Nat) (H : Hp) : List PV → List V → Prop := Paired (RV g ρ n H)
def RO (g : G0) (ρ : Nat → Addr) (n : Nat) (H : Hp) (a : Addr) : SO → Prop
  | .lst xs => ∃ vs, H a = some (.lst vs) ∧ RVs g ρ n H xs vs
  | .dic kvs => ∃ ws, H a = some (.dK ws) ∧ Paired (fun (p : L2.Key × PV) (q : L2.Key × V) => p.1 = q.1 ∧ RV g ρ n H p.2 q.2) kvs ws
  | .ins c fs => ∃ dx ws, H a = some (.ins (g.cl c) dx ws) ∧ Paired (fun (p : Str × PV) (q : Str × V) => p.1 = q.1 ∧ RV g ρ n H p.2 q.2) fs ws
structure RS (g : G0) (ρ : Nat → Addr) (st : Sto) (H : Hp) : Prop where
  inj : ∀ i j, i < st.length → j < st.length → ρ i = ρ j → i = j
  obj : ∀ i o, st[i]? = some o → RO g ρ st.length H (ρ i) o
/-- how the heap may have moved -/
structure Ext (ρ : Nat → Addr) (n : Nat) (H : Hp) (ρ' : Nat → Addr) (n' : Nat) (H' : Hp) : Prop where
  le : n ≤ n'
  same : ∀ i, i < n → ρ' i = ρ i
  new : ∀ i, n ≤ i → i < n' → H (ρ' i) = none
  keep : ∀ a o, H a = some o → ¬ Bd ρ n a → H' a = some o
  dom : ∀ a o, H a = some o → ∃ o', H' a = some o'
section
variable {g : G0} {ρ ρ' ρ'' : Nat → Addr} {n n' n'' : Nat} {H H' H'' : Hp} {st st' : Sto}
theorem Ext.refl : Ext ρ n H ρ n H := ⟨Nat.le_refl _, fun _ _ => rfl, fun i h1 h2 => absurd h1 (Nat.not_le_of_lt h2), fun _ _ h _ => h, fun _ o h => ⟨o, h⟩⟩
theorem Ext.trans (a : Ext ρ n H ρ' n' H') (b : Ext ρ' n' H' ρ'' n'' H'') : Ext ρ n H ρ'' n'' H'' := by
  refine ⟨Nat.le_trans a.le b.le, fun i hi => (b.same i (Nat.lt_of_lt_of_le hi a.le)).trans (a.same i hi), fun i h1 h2 => ?_, fun c o h nb => ?_, fun c o h => ?_⟩
  · by_cases h : i < n'
    · rw [b.same i h]
      exact a.new i h1 h
    · have q := b.new i (Nat.le_of_not_lt h) h2
      cases e : H (ρ'' i) with
      | none => rfl
      | some o =>
        obtain ⟨o', e'⟩ := a.dom _ _ e
        rw [q] at e'
        cases e'
  · refine b.keep c o (a.keep c o h nb) fun ⟨i, h1, h2⟩ => ?_
    by_cases hi : i < n
    · exact nb ⟨i, hi, (a.same i hi).symm.trans h2⟩
    · have q := a.new i (Nat.le_of_not_lt hi) h1
      rw [h2, h] at q
      cases q
  · obtain ⟨o', e'⟩ := a.dom c o h
    exact b.dom c o' e'
theorem RS.wr (r : RS g ρ st H) : ∀ a, Bd ρ st.length a → Mut (H a) := fun a ⟨i, hi, e⟩ => by
  subst e
  have q := r.obj i st[i] (by simp [hi])
  cases h : st[i] with
  | lst xs => rw [h] at q; obtain ⟨vs, e, _⟩ := q; rw [e]; exact trivial
  | dic xs => rw [h] at q; obtain ⟨vs, e, _⟩ := q; rw [e]; exact trivial
  | ins c fs => rw [h] at q; obtain ⟨dx, vs, e, _⟩ := q; rw [e]; exact trivial
theorem Ext.stay (e : Ext ρ st.length H ρ' n' H') (r : RS g ρ st H) : Stay g.K (Bd ρ st.length) (Bd ρ' n') H H' := by
  refine ⟨fun a o h nb => ⟨e.keep a o h nb, fun ⟨i, h1, h2⟩ => ?_⟩, r.wr⟩
  by_cases hi : i < st.length
  · exact nb ⟨i, hi, (e.same i hi).symm.trans h2⟩
  · have q := e.new i (Nat.le_of_not_lt hi) h1
    rw [h2, h] at q
    cases q
theorem RV.ext (e : Ext ρ st.length H ρ' n' H') (r : RS g ρ st H) {p : PV} {v : V} (h : RV g ρ st.length H p v) : RV g ρ' n' H' p v := by
  cases p with
  | d x => exact DR.stay (e.stay r) x v h
  | ref i => exact ⟨Nat.lt_of_lt_of_le h.1 e.le, by rw [e.same i h.1]; exact h.2⟩
theorem RVs.ext (e : Ext ρ st.length H ρ' n' H') (r : RS g ρ st H) {p : List PV} {v : List V} (h : RVs g ρ st.length H p v) : RVs g ρ' n' H' p v :=
  h.mono fun _ _ => RV.ext e r
/-- the frame's slots -/
structure REn (g : G0) (ρ : Nat → Addr) (n : Nat) (H : Hp) (en : En) (σ : L2.St) : Prop where
  len : en.length = σ.length
  at_ : ∀ (i : Nat) (a : PV), en[i]? = some (some a) → ∃ v, σ[i]? = some (some v) ∧ RV g ρ n H a v
theorem REn.ext (e : Ext ρ st.length H ρ' n' H') (r : RS g ρ st H) {en : En} {σ : L2.St} (h : REn g ρ st.length H en σ) : REn g ρ' n' H' en σ :=
  ⟨h.len, fun i a q => let ⟨v, e1, e2⟩ := h.at_ i a q; ⟨v, e1, RV.ext e r e2⟩⟩
theorem REn.set {en : En} {σ : L2.St} (h : REn g ρ n H en σ) {i : Nat} {a : PV} {v : V} (r : RV g ρ n H a v) : REn g ρ n H (en.set i (some a)) (σ.set i (some v)) := by
  refine ⟨by simpa using h.len, fun j b e => ?_⟩
  by_cases hj : i = j
  · subst hj
    by_cases hl : i < en.length
    · rw [List.getElem?_set_self hl] at e
      cases e
      exact ⟨v, List.getElem?_set_self (by rw [← h.len]; exact hl), r⟩
    · rw [List.getElem?_eq_none_iff.mpr (by simpa using hl)] at e
      cases e
  · rw [List.getElem?_set_ne hj] at e
    obtain ⟨w, e1, e2⟩ := h.at_ j b e
    exact ⟨w, by rw [List.getElem?_set_ne hj]; exact e1, e2⟩
/-- an exception's own dict -/
def RX (g : G0) (ρ : Nat → Addr) (n : Nat) (H : Hp) (e : Ex) (d : Option Addr) : Prop :=
  (e.fs = [] ∧ d = none) ∨ ∃ dx ws, d = some dx ∧ H dx = some (.xd ws) ∧ Paired (fun (p : Str × PV) (q : Str × V) => p.1 = q.1 ∧ RV g ρ n H p.2 q.2) e.fs ws

/-! ### what a run hands on -/
def Wp {α : Type} (g : G0) (ρ : Nat → Addr) (st : Sto) (H : Hp) (r : Res α) (Q : α → (Nat → Addr) → Sto → Hp → Prop) (W : Ex → (Nat → Addr) → Sto → Hp → Prop) : Prop :=
  match r with
  | .ok a st' => ∀ ρ' H', Ext ρ st.length H ρ' st'.length H' → RS g ρ' st' H' → Q a ρ' st' H'
  | .exc e st' => ∀ ρ' H', Ext ρ st.length H ρ' st'.length H' → RS g ρ' st' H' → W e ρ' st' H'
  | .bad => False
theorem Wp.bind {α β : Type} {r : Res α} {f : α → M β} {Q : β → (Nat → Addr) → Sto → Hp → Prop} {W : Ex → (Nat → Addr) → Sto → Hp → Prop} (h : Wp g ρ st H (r.bind f) Q W) :
    Wp g ρ st H r (fun a ρ1 st1 H1 => Wp g ρ1 st1 H1 (f a st1) Q W) W := by
  cases r with
  | bad => exact h
  | exc e st' => exact h
  | ok a st' =>
    intro ρ1 H1 e1 r1
    have h' : Wp g ρ st H (f a st') Q W := h
    cases q : f a st' with
    | bad => rw [q] at h'; exact h'.elim
    | ok b st2 =>
      rw [q] at h'
      intro ρ2 H2 e2 r2
      exact h' ρ2 H2 (e1.trans e2) r2
    | exc b st2 =>
      rw [q] at h'
      intro ρ2 H2 e2 r2
      exact h' ρ2 H2 (e1.trans e2) r2
theorem Wp.mono {α : Type} {r : Res α} {Q Q' : α → (Nat → Addr) → Sto → Hp → Prop} {W W' : Ex → (Nat → Addr) → Sto → Hp → Prop} (h : Wp g ρ st H r Q W)
    (hQ : ∀ a ρ' st' H', Ext ρ st.length H ρ' st'.length H' → RS g ρ' st' H' → Q a ρ' st' H' → Q' a ρ' st' H') (hW : ∀ e ρ' st' H', Ext ρ st.length H ρ' st'.length H' → RS g ρ' st' H' → W e ρ' st' H' → W' e ρ' st' H') : Wp g ρ st H r Q' W' := by
  cases r with
  | bad => exact h
  | ok a st' => exact fun ρ' H' e r => hQ _ _ _ _ e r (h ρ' H' e r)
  | exc a st' => exact fun ρ' H' e r => hW _ _ _ _ e r (h ρ' H' e r)
/-- here and now -/
theorem Wp.ok {α : Type} {a : α} {Q : α → (Nat → Addr) → Sto → Hp → Prop} {W : Ex → (Nat → Addr) → Sto → Hp → Prop} (r : RS g ρ st H) (h : Wp g ρ st H (.ok a st) Q W) : Q a ρ st H := h ρ H .refl r
end
end SB

/-! The judgements over plain states: an expression, a test, arguments, a statement of the text go as a plain function says. -/
namespace SB
open PySem PySem.Spec PyProof.Rows L2

abbrev Em := En → M PV
abbrev Tm := En → M Bool
abbrev Am := En → M (List PV)
inductive SR where
  | nx (en : En) (st : Sto)
  | rt (a : PV) (st : Sto)
  | bk (en : En) (st : Sto)
  | ct (en : En) (st : Sto)
  | ex (e : Ex) (en : En) (st : Sto)
  | bad
abbrev Sm := En → Sto → SR

def Wx (g : G0) (W : WX) (σ : L2.St) : Ex → (Nat → Addr) → Sto → Hp → Prop := fun e ρ st H => ∀ d, RX g ρ st.length H e d → W (.ref (g.cl e.cls)) d σ H
def Qv (g : G0) (Q : VK) : PV → (Nat → Addr) → Sto → Hp → Prop := fun a ρ st H => ∀ v, RV g ρ st.length H a v → Q v H
def Qvs (g : G0) (Q : List V → Hp → Prop) : List PV → (Nat → Addr) → Sto → Hp → Prop := fun a ρ st H => ∀ v, RVs g ρ st.length H a v → Q v H
def Qb (Q : Bool → Hp → Prop) : Bool → (Nat → Addr) → Sto → Hp → Prop := fun b _ _ H => Q b H
def TEm (g : G0) (W : WX) (m : Em) : TE := fun σ H Q => ∃ ρ st en, RS g ρ st H ∧ REn g ρ st.length H en σ ∧ Wp g ρ st H (m en st) (Qv g Q) (Wx g W σ)
def TTm (g : G0) (W : WX) (m : Tm) : TT := fun σ H Q => ∃ ρ st en, RS g ρ st H ∧ REn g ρ st.length H en σ ∧ Wp g ρ st H (m en st) (Qb Q) (Wx g W σ)
def TAm (g : G0) (W : WX) (m : Am) : TA := fun σ H Q => ∃ ρ st en, RS g ρ st H ∧ REn g ρ st.length H en σ ∧ Wp g ρ st H (m en st) (Qvs g Q) (Wx g W σ)

theorem _root_.L2.PE.imp {X : Cx} {e : Expr} {t t' : TE} (h : PE X e t) (i : ∀ σ H Q, t' σ H Q → t σ H Q) : PE X e t' := ⟨fun pins s σ H Q I q => h.run pins s σ H Q I (i σ H Q q)⟩
theorem _root_.L2.PT.imp {X : Cx} {e : Expr} {t t' : TT} (h : PT X e t) (i : ∀ σ H Q, t' σ H Q → t σ H Q) : PT X e t' := ⟨fun pins s σ H Q I q => h.run pins s σ H Q I (i σ H Q q)⟩
theorem _root_.L2.PW.imp {X : Cx} {e : Expr} {t t' : TT} (h : PW X e t) (i : ∀ σ H Q, t' σ H Q → t σ H Q) : PW X e t' := ⟨fun w pins s σ H Q I q => h.run w pins s σ H Q I (i σ H Q q)⟩
theorem _root_.L2.PA.imp {X : Cx} {e : List Expr} {t t' : TA} (h : PA X e t) (i : ∀ σ H Q, t' σ H Q → t σ H Q) : PA X e t' := ⟨fun p pins s σ H Q I q => h.run p pins s σ H Q I (i σ H Q q)⟩
theorem _root_.L2.PS.imp {X : Cx} {e : Stmt} {t t' : TS} (h : PS X e t) (i : ∀ D σ H, t' D σ H → t D σ H) : PS X e t' := ⟨fun pins s σ H D I q => h.run pins s σ H D I (i D σ H q)⟩
theorem _root_.L2.PSs.imp {X : Cx} {e : List Stmt} {t t' : TS} (h : PSs X e t) (i : ∀ D σ H, t' D σ H → t D σ H) : PSs X e t' := ⟨fun pins s σ H D I q => h.run pins s σ H D I (i D σ H q)⟩

section
variable {g : G0} {W : WX} {σ : L2.St} {H : Hp} {ρ : Nat → Addr} {st : Sto} {en : En}
theorem TEm.mono {m : Em} {Q Q' : VK} (h : TEm g W m σ H Q) (i : ∀ v H', Q v H' → Q' v H') : TEm g W m σ H Q' := by
  obtain ⟨ρ, st, en, r, e, w⟩ := h
  exact ⟨ρ, st, en, r, e, w.mono (fun a ρ' st' H' _ _ q v rv => i _ _ (q v rv)) fun _ _ _ _ _ _ q => q⟩
theorem TTm.mono {m : Tm} {Q Q' : Bool → Hp → Prop} (h : TTm g W m σ H Q) (i : ∀ v H', Q v H' → Q' v H') : TTm g W m σ H Q' := by
  obtain ⟨ρ, st, en, r, e, w⟩ := h
  exact ⟨ρ, st, en, r, e, w.mono (fun a ρ' st' H' _ _ q => i _ _ q) fun _ _ _ _ _ _ q => q⟩
theorem TAm.mono {m : Am} {Q Q' : List V → Hp → Prop} (h : TAm g W m σ H Q) (i : ∀ v H', Q v H' → Q' v H') : TAm g W m σ H Q' := by
  obtain ⟨ρ, st, en, r, e, w⟩ := h
  exact ⟨ρ, st, en, r, e, w.mono (fun a ρ' st' H' _ _ q v rv => i _ _ (q v rv)) fun _ _ _ _ _ _ q => q⟩
/-- one after another -/
theorem seqE {β : Type} {m : Em} {f : PV → M β} {Q : β → (Nat → Addr) → Sto → Hp → Prop} {Wf : Ex → (Nat → Addr) → Sto → Hp → Prop} (hW : ∀ e ρ' st' H', Wf e ρ' st' H' → Wx g W σ e ρ' st' H') (r : RS g ρ st H) (e : REn g ρ st.length H en σ) (h : Wp g ρ st H ((m en st).bind f) Q Wf) :
    TEm g W m σ H fun v H1 => ∃ a ρ1 st1, RS g ρ1 st1 H1 ∧ REn g ρ1 st1.length H1 en σ ∧ RV g ρ1 st1.length H1 a v ∧ Ext ρ st.length H ρ1 st1.length H1 ∧ Wp g ρ1 st1 H1 (f a st1) Q Wf :=
  ⟨ρ, st, en, r, e, (Wp.bind h).mono (fun a ρ1 st1 H1 x1 r1 q v rv => ⟨a, ρ1, st1, r1, e.ext x1 r, rv, x1, q⟩) fun _ _ _ _ _ _ q => hW _ _ _ _ q⟩
theorem seqT {β : Type} {m : Tm} {f : Bool → M β} {Q : β → (Nat → Addr) → Sto → Hp → Prop} {Wf : Ex → (Nat → Addr) → Sto → Hp → Prop} (hW : ∀ e ρ' st' H', Wf e ρ' st' H' → Wx g W σ e ρ' st' H') (r : RS g ρ st H) (e : REn g ρ st.length H en σ) (h : Wp g ρ st H ((m en st).bind f) Q Wf) :
    TTm g W m σ H fun a H1 => ∃ ρ1 st1, RS g ρ1 st1 H1 ∧ REn g ρ1 st1.length H1 en σ ∧ Ext ρ st.length H ρ1 st1.length H1 ∧ Wp g ρ1 st1 H1 (f a st1) Q Wf :=
  ⟨ρ, st, en, r, e, (Wp.bind h).mono (fun a ρ1 st1 H1 x1 r1 q => ⟨ρ1, st1, r1, e.ext x1 r, x1, q⟩) fun _ _ _ _ _ _ q => hW _ _ _ _ q⟩
theorem seqA {β : Type} {m : Am} {f : List PV → M β} {Q : β → (Nat → Addr) → Sto → Hp → Prop} {Wf : Ex → (Nat → Addr) → Sto → Hp → Prop} (hW : ∀ e ρ' st' H', Wf e ρ' st' H' → Wx g W σ e ρ' st' H') (r : RS g ρ st H) (e : REn g ρ st.length H en σ) (h : Wp g ρ st H ((m en st).bind f) Q Wf) :
    TAm g W m σ H fun v H1 => ∃ a ρ1 st1, RS g ρ1 st1 H1 ∧ REn g ρ1 st1.length H1 en σ ∧ RVs g ρ1 st1.length H1 a v ∧ Ext ρ st.length H ρ1 st1.length H1 ∧ Wp g ρ1 st1 H1 (f a st1) Q Wf :=
  ⟨ρ, st, en, r, e, (Wp.bind h).mono (fun a ρ1 st1 H1 x1 r1 q v rv => ⟨a, ρ1, st1, r1, e.ext x1 r, rv, x1, q⟩) fun _ _ _ _ _ _ q => hW _ _ _ _ q⟩
end
theorem wid {g : G0} {W : WX} {σ : L2.St} : ∀ e ρ' st' H', Wx g W σ e ρ' st' H' → Wx g W σ e ρ' st' H' := fun _ _ _ _ q => q

/-! ### names, constants -/
def mV (i : Nat) : Em := fun en st => match en[i]? with
  | some (some a) => .ok a st
  | _ => .bad
def mK (x : PyData) : Em := fun _ st => .ok (.d x) st
section
variable {X : Cx} {g : G0} {W : WX} {pos : Pos}
theorem e_var {i : Nat} {x : Str} (hN : X.N[i]? = some x := by rfl) (hv : Vis X.env.scope x := by first | exact Or.inl rfl | exact Or.inr (Or.inl rfl) | exact Or.inr (Or.inr rfl)) (hd : (x == ("__debug__" : Str)) = false := by decide) (hcd : (x == ("__classdict__" : Str)) = false := by decide) : PE X (.Name x pos) (TEm g W (mV i)) := by
  refine (pe_var hN hv hd hcd).imp fun σ H Q ⟨ρ, st, en, r, e, w⟩ => ?_
  unfold mV at w
  cases q : en[i]? with
  | none => rw [q] at w; exact w.elim
  | some o =>
    cases o with
    | none => rw [q] at w; exact w.elim
    | some a =>
      rw [q] at w
      obtain ⟨v, e1, e2⟩ := e.at_ i a q
      exact ⟨v, e1, w.ok r v e2⟩
theorem e_int {i : Int} {j} : PE X (.Constant (.int i) j pos) (TEm g W (mK (.int i))) := pe_int.imp fun σ H Q ⟨ρ, st, en, r, e, w⟩ => Wp.ok r w _ (.int i)
theorem e_bool {i : Bool} {j} : PE X (.Constant (.bool i) j pos) (TEm g W (mK (.bool i))) := pe_bl.imp fun σ H Q ⟨ρ, st, en, r, e, w⟩ => Wp.ok r w _ (.bl i)
theorem e_str {i : Str} {j} : PE X (.Constant (.str i) j pos) (TEm g W (mK (.str i))) := pe_str.imp fun σ H Q ⟨ρ, st, en, r, e, w⟩ => Wp.ok r w _ (.str i)
theorem e_none {j} : PE X (.Constant .none j pos) (TEm g W (mK .none)) := pe_non.imp fun σ H Q ⟨ρ, st, en, r, e, w⟩ => Wp.ok r w _ .non
/-- a module's constant -/
theorem e_glob {x : Str} {d : PyData} {u : Value} {v : V} (hg : Gl X x) (hm : X.mg x = some u) (hr : RelV v u) (hd : ∀ B H, DR g.K B H v d) (hdb : (x == ("__debug__" : Str)) = false := by decide) : PE X (.Name x pos) (TEm g W (mK d)) :=
  (pe_glob hg hm hr hdb).imp fun σ H Q ⟨ρ, st, en, r, e, w⟩ => Wp.ok r w _ (hd _ _)

/-! ### operators -/
/-- an operation of two values -/
abbrev Op2 := PV → PV → M PV
def OpV (g : G0) (r : R2) (op : Op2) : Prop := ∀ (ρ : Nat → Addr) (st : Sto) (H : Hp) (a b : PV) (x y : V) (Q : VK) (Wf : Ex → (Nat → Addr) → Sto → Hp → Prop), RS g ρ st H → RV g ρ st.length H a x → RV g ρ st.length H b y → Wp g ρ st H (op a b st) (Qv g Q) Wf → r x y H Q
def mBin (op : Op2) (ma mb : Em) : Em := fun en st => (ma en st).bind fun a st1 => (mb en st1).bind fun b st2 => op a b st2
theorem bin_run {r : R2} {op : Op2} {ma mb : Em} (hv : OpV g r op) : ∀ σ H Q, TEm g W (mBin op ma mb) σ H Q → tOp r (TEm g W ma) (TEm g W mb) σ H Q := by
  intro σ H Q ⟨ρ, st, en, r, e, w⟩
  refine (seqE wid r e w).mono fun x H1 ⟨a, ρ1, st1, r1, e1, ra, x1, w1⟩ => ?_
  refine (seqE wid r1 e1 w1).mono fun y H2 ⟨b, ρ2, st2, r2, e2, rb, x2, w2⟩ => ?_
  exact hv _ _ _ _ _ _ _ _ _ r2 (ra.ext x2 r1) rb w2
variable {a b c : Expr} {ma mb mc : Em}
theorem e_bin {op : Operator} {r : R2} {f : Op2} (hv : OpV g r f) (ho : OpR X (binaryOp op) r) (ha : PE X a (TEm g W ma)) (hb : PE X b (TEm g W mb)) : PE X (.BinOp a op b pos) (TEm g W (mBin f ma mb)) :=
  (pe_op ho ha hb).imp (bin_run hv)
theorem e_cmp {op : CmpOp} {r : R2} {f : Op2} (hv : OpV g r f) (ho : OpR X (compareOp op) r) (ha : PE X a (TEm g W ma)) (hb : PE X b (TEm g W mb)) (hm : behindInMarks op b = false) : PE X (.Compare a [op] [b] pos) (TEm g W (mBin f ma mb)) :=
  (pe_cmpR ho ha hb hm).imp (bin_run hv)
/-- the bool of a value that is one -/
def asB : PV → M Bool
  | .d (.bool k), st => .ok k st
  | _, _ => .bad
def mB (m : Em) : Tm := fun en st => (m en st).bind asB
theorem b_run {m : Em} {t : TE} {σ : L2.St} (h : ∀ H Q, TEm g W m σ H Q → t σ H Q) : ∀ H Q, TTm g W (mB m) σ H Q → tTest t σ H Q := by
  intro H Q ⟨ρ, st, en, r, e, w⟩
  refine h H _ ((seqE wid r e w).mono fun x H1 ⟨a, ρ1, st1, r1, e1, ra, x1, w1⟩ => ?_)
  cases a with
  | ref i => exact w1.elim
  | d y =>
    cases y with
    | bool k =>
      cases (show DR g.K _ H1 x (.bool k) from ra)
      exact ⟨k, rfl, Wp.ok r1 w1⟩
    | _ => exact w1.elim
theorem t_cmp {op : CmpOp} {r : R2} {f : Op2} (hv : OpV g r f) (ho : OpR X (compareOp op) r) (ha : PE X a (TEm g W ma)) (hb : PE X b (TEm g W mb)) (hm : behindInMarks op b = false) : PT X (.Compare a [op] [b] pos) (TTm g W (mB (mBin f ma mb))) :=
  (pt_cmpR ho ha hb hm).imp fun σ H Q h => b_run (fun H Q => bin_run hv σ H Q) H Q h
def mChain (f f' : Op2) (ma mb mc : Em) : Em := fun en st => (ma en st).bind fun a st1 => (mb en st1).bind fun b st2 => (f a b st2).bind fun k st3 => (asB k st3).bind fun k st4 =>
  match k with
  | true => (mc en st4).bind fun c st5 => f' b c st5
  | false => .ok (.d (.bool false)) st4
theorem chain_run {r r' : R2} {f f' : Op2} (hv : OpV g r f) (hv' : OpV g r' f') : ∀ σ H Q, TEm g W (mChain f f' ma mb mc) σ H Q → tChain r r' (TEm g W ma) (TEm g W mb) (TEm g W mc) σ H Q := by
  intro σ H Q ⟨ρ, st, en, r, e, w⟩
  refine (seqE wid r e w).mono fun x H1 ⟨a, ρ1, st1, r1, e1, ra, x1, w1⟩ => ?_
  refine (seqE wid r1 e1 w1).mono fun y H2 ⟨b, ρ2, st2, r2, e2, rb, x2, w2⟩ => ?_
  refine hv _ _ _ _ _ _ _ _ _ r2 (ra.ext x2 r1) rb ((Wp.bind w2).mono (fun k ρ3 st3 H3 x3 r3 w3 z rz => ?_) fun _ _ _ _ _ _ q => q)
  cases k with
  | ref i => exact w3.elim
  | d u =>
    cases u with
    | bool k =>
      cases (show DR g.K _ H3 z (.bool k) from rz)
      refine ⟨k, rfl, ?_⟩
      cases k with
      | false =>
        rw [if_neg Bool.false_ne_true]
        exact Wp.ok r3 w3 _ (.bl false)
      | true =>
        rw [if_pos rfl]
        refine (seqE wid r3 (e2.ext x3 r2) w3).mono fun c H4 ⟨d, ρ4, st4, r4, e4, rd, x4, w4⟩ => ?_
        exact hv' _ _ _ _ _ _ _ _ _ r4 ((rb.ext x3 r2).ext x4 r3) rd w4
    | _ => exact w3.elim
theorem e_chain {op op' : CmpOp} {r r' : R2} {f f' : Op2} (hv : OpV g r f) (hv' : OpV g r' f') (ho : OpR X (compareOp op) r) (ho' : OpR X (compareOp op') r') (ha : PE X a (TEm g W ma)) (hb : PE X b (TEm g W mb)) (hc : PE X c (TEm g W mc))
    (hm : lastMarks [op, op'] [b, c] = false := by with_unfolding_all rfl) : PE X (.Compare a [op, op'] [b, c] pos) (TEm g W (mChain f f' ma mb mc)) := (pe_chain ho ho' ha hb hc hm).imp (chain_run hv hv')
theorem t_chain {op op' : CmpOp} {r r' : R2} {f f' : Op2} (hv : OpV g r f) (hv' : OpV g r' f') (ho : OpR X (compareOp op) r) (ho' : OpR X (compareOp op') r') (ha : PE X a (TEm g W ma)) (hb : PE X b (TEm g W mb)) (hc : PE X c (TEm g W mc))
    (hm : lastMarks [op, op'] [b, c] = false := by with_unfolding_all rfl) : PT X (.Compare a [op, op'] [b, c] pos) (TTm g W (mB (mChain f f' ma mb mc))) :=
  (pt_chain ho ho' ha hb hc hm).imp fun σ H Q h => b_run (fun H Q => chain_run hv hv' σ H Q) H Q h

/-! ### and, or, not, if -/
def mAndV (ma mb : Em) : Em := fun en st => (ma en st).bind fun a st1 => (asB a st1).bind fun k st2 => match k with
  | true => mb en st2
  | false => .ok (.d (.bool false)) st2
def mOrV (ma mb : Em) : Em := fun en st => (ma en st).bind fun a st1 => (asB a st1).bind fun k st2 => match k with
  | true => .ok (.d (.bool true)) st2
  | false => mb en st2
def mNotV (ma : Em) : Em := fun en st => (ma en st).bind fun a st1 => (asB a st1).bind fun k st2 => .ok (.d (.bool (!k))) st2
def mAnd (ma mb : Tm) : Tm := fun en st => (ma en st).bind fun k st2 => match k with
  | true => mb en st2
  | false => .ok false st2
def mOr (ma mb : Tm) : Tm := fun en st => (ma en st).bind fun k st2 => match k with
  | true => .ok true st2
  | false => mb en st2
def mNot (ma : Tm) : Tm := fun en st => (ma en st).bind fun k st2 => .ok (!k) st2
def mIf (t : Tm) (ma mb : Em) : Em := fun en st => (t en st).bind fun k st2 => match k with
  | true => ma en st2
  | false => mb en st2
variable {rest : List Expr} {ta tb : Tm}
theorem e_one {op} (h : PE X a (TEm g W ma)) : PE X (.BoolOp op [a] pos) (TEm g W ma) := pe_one h
theorem e_and (ha : PE X a (TEm g W ma)) (hb : PE X (.BoolOp .And (b :: rest) pos) (TEm g W mb)) : PE X (.BoolOp .And (a :: b :: rest) pos) (TEm g W (mAndV ma mb)) := by
  refine (pe_and ha hb).imp fun σ H Q ⟨ρ, st, en, r, e, w⟩ => ?_
  refine (seqE wid r e w).mono fun x H1 ⟨a, ρ1, st1, r1, e1, ra, x1, w1⟩ => ?_
  cases a with
  | ref i => exact w1.elim
  | d y =>
    cases y with
    | bool k =>
      cases (show DR g.K _ H1 x (.bool k) from ra)
      refine ⟨k, rfl, ?_⟩
      cases k with
      | true => rw [if_pos rfl]; exact ⟨_, _, _, r1, e1, w1⟩
      | false => rw [if_neg Bool.false_ne_true]; exact Wp.ok r1 w1 _ (.bl false)
    | _ => exact w1.elim
theorem e_or (ha : PE X a (TEm g W ma)) (hb : PE X (.BoolOp .Or (b :: rest) pos) (TEm g W mb)) : PE X (.BoolOp .Or (a :: b :: rest) pos) (TEm g W (mOrV ma mb)) := by
  refine (pe_or ha hb).imp fun σ H Q ⟨ρ, st, en, r, e, w⟩ => ?_
  refine (seqE wid r e w).mono fun x H1 ⟨a, ρ1, st1, r1, e1, ra, x1, w1⟩ => ?_
  cases a with
  | ref i => exact w1.elim
  | d y =>
    cases y with
    | bool k =>
      cases (show DR g.K _ H1 x (.bool k) from ra)
      refine ⟨k, rfl, ?_⟩
      cases k with
      | false => rw [if_neg Bool.false_ne_true]; exact ⟨_, _, _, r1, e1, w1⟩
      | true => rw [if_pos rfl]; exact Wp.ok r1 w1 _ (.bl true)
    | _ => exact w1.elim
theorem e_not (ha : PE X a (TEm g W ma)) : PE X (.UnaryOp .Not a pos) (TEm g W (mNotV ma)) := by
  refine (pe_not ha).imp fun σ H Q ⟨ρ, st, en, r, e, w⟩ => ?_
  refine (seqE wid r e w).mono fun x H1 ⟨a, ρ1, st1, r1, e1, ra, x1, w1⟩ => ?_
  cases a with
  | ref i => exact w1.elim
  | d y =>
    cases y with
    | bool k =>
      cases (show DR g.K _ H1 x (.bool k) from ra)
      exact ⟨k, rfl, Wp.ok r1 w1 _ (.bl _)⟩
    | _ => exact w1.elim
theorem t_one_and (h : PT X a (TTm g W ta)) : PW X (.BoolOp .And [a] pos) (TTm g W ta) := pw_and1 h
theorem t_one_or (h : PT X a (TTm g W ta)) : PW X (.BoolOp .Or [a] pos) (TTm g W ta) := pw_or1 h
theorem t_and (ha : PT X a (TTm g W ta)) (hb : PW X (.BoolOp .And (b :: rest) pos) (TTm g W tb)) : PW X (.BoolOp .And (a :: b :: rest) pos) (TTm g W (mAnd ta tb)) := by
  refine (pw_and ha hb).imp fun σ H Q ⟨ρ, st, en, r, e, w⟩ => ?_
  refine (seqT wid r e w).mono fun k H1 ⟨ρ1, st1, r1, e1, x1, w1⟩ => ?_
  cases k with
  | true => rw [if_pos rfl]; exact ⟨_, _, _, r1, e1, w1⟩
  | false => rw [if_neg Bool.false_ne_true]; exact Wp.ok r1 w1
theorem t_or (ha : PT X a (TTm g W ta)) (hb : PW X (.BoolOp .Or (b :: rest) pos) (TTm g W tb)) : PW X (.BoolOp .Or (a :: b :: rest) pos) (TTm g W (mOr ta tb)) := by
  refine (pw_or ha hb).imp fun σ H Q ⟨ρ, st, en, r, e, w⟩ => ?_
  refine (seqT wid r e w).mono fun k H1 ⟨ρ1, st1, r1, e1, x1, w1⟩ => ?_
  cases k with
  | false => rw [if_neg Bool.false_ne_true]; exact ⟨_, _, _, r1, e1, w1⟩
  | true => rw [if_pos rfl]; exact Wp.ok r1 w1
theorem t_w {e : Expr} (h : PW X e (TTm g W ta)) : PT X e (TTm g W ta) := h.pt
theorem t_not (ha : PT X a (TTm g W ta)) : PT X (.UnaryOp .Not a pos) (TTm g W (mNot ta)) := by
  refine (pt_not ha).imp fun σ H Q ⟨ρ, st, en, r, e, w⟩ => ?_
  refine (seqT wid r e w).mono fun k H1 ⟨ρ1, st1, r1, e1, x1, w1⟩ => ?_
  exact Wp.ok r1 w1
theorem e_ifx (hc : PT X c (TTm g W ta)) (ha : PE X a (TEm g W ma)) (hb : PE X b (TEm g W mb)) : PE X (.IfExp c a b pos) (TEm g W (mIf ta ma mb)) := by
  refine (pe_ifExp hc ha hb).imp fun σ H Q ⟨ρ, st, en, r, e, w⟩ => ?_
  refine (seqT wid r e w).mono fun k H1 ⟨ρ1, st1, r1, e1, x1, w1⟩ => ?_
  cases k with
  | true => rw [if_pos rfl]; exact ⟨_, _, _, r1, e1, w1⟩
  | false => rw [if_neg Bool.false_ne_true]; exact ⟨_, _, _, r1, e1, w1⟩
/-- a value that is a bool, as a test -/
theorem t_val (h : PE X a (TEm g W ma)) (he : ∀ whole, isTrue a X.env whole = (do let v ← whole; standAt a.pos; holding [v] (truthy v)) := by intro _; rfl) : PT X a (TTm g W (mB ma)) :=
  (pt_val h he).imp fun σ H Q q => b_run (t := TEm g W ma) (fun _ _ q => q) H Q q

/-! ### arguments -/
def mNil : Am := fun _ st => .ok [] st
def mCons (m : Em) (t : Am) : Am := fun en st => (m en st).bind fun a st1 => (t en st1).bind fun as st2 => .ok (a :: as) st2
variable {e : Expr} {es : List Expr} {m : Em} {t : Am}
theorem a_nil : PA X [] (TAm g W mNil) := pa_nil.imp fun σ H Q ⟨ρ, st, en, r, e, w⟩ => Wp.ok r w _ .nil
theorem a_cons (ha : PE X e (TEm g W m)) (hr : PA X es (TAm g W t)) (hs : starEach (e :: es) X.env = (false, eval e X.env) :: starEach es X.env := by rfl) : PA X (e :: es) (TAm g W (mCons m t)) := by
  refine (pa_cons ha hr hs).imp fun σ H Q ⟨ρ, st, en, r, e, w⟩ => ?_
  refine (seqE wid r e w).mono fun x H1 ⟨a, ρ1, st1, r1, e1, ra, x1, w1⟩ => ?_
  refine (seqA wid r1 e1 w1).mono fun y H2 ⟨b, ρ2, st2, r2, e2, rb, x2, w2⟩ => ?_
  exact Wp.ok r2 w2 _ (.cons (ra.ext x2 r1) rb)
/-- a tuple of data; a list of data that nobody changes; a list of the store -/
def datas : List PV → Option (List PyData)
  | [] => some []
  | .d x :: r => (datas r).map (x :: ·)
  | .ref _ :: _ => none
theorem datas_map : ∀ {ps : List PV} {ds : List PyData}, datas ps = some ds → ps = ds.map .d
  | [], ds, h => by cases h; rfl
  | .d x :: r, ds, h => by
    unfold datas at h
    cases q : datas r with
    | none => rw [q] at h; cases h
    | some l => rw [q] at h; cases h; rw [datas_map q]; rfl
  | .ref _ :: _, ds, h => by cases h
theorem DRs.ofV {ρ : Nat → Addr} {n : Nat} {H : Hp} : ∀ {ds : List PyData} {vs : List V}, RVs g ρ n H (ds.map .d) vs → DRs g.K (Bd ρ n) H vs ds
  | [], _, h => by cases h; exact .nil
  | x :: xs, _, h => by
    cases h with
    | cons h1 h2 => exact .cons h1 (DRs.ofV h2)
theorem DRs.toV {ρ : Nat → Addr} {n : Nat} {H : Hp} : ∀ {ds : List PyData} {vs : List V}, DRs g.K (Bd ρ n) H vs ds → RVs g ρ n H (ds.map .d) vs
  | [], _, h => by cases h; exact .nil
  | x :: xs, _, h => by
    cases h with
    | cons h1 h2 => exact .cons h1 (DRs.toV h2)
def tupM (as : List PV) : M PV := fun st => match datas as with
  | some ds => if ds.length ≤ sizeLine then .ok (.d (.tuple ds)) st else .bad
  | none => .bad
def lstM (as : List PV) : M PV := fun st => match datas as with
  | some ds => if ds.length ≤ sizeLine then .ok (.d (.list ds)) st else .bad
  | none => .bad
def newM (as : List PV) : M PV := fun st => if as.length ≤ sizeLine then .ok (.ref st.length) (st ++ [.lst as]) else .bad
/-- a new thing in the heap: the store as it was -/
theorem Ext.laid {ρ : Nat → Addr} {st : Sto} {H : Hp} {p : Addr} {o : HO} (r : RS g ρ st H) (hp : H p = none) : Ext ρ st.length H ρ st.length (upd H p o) := by
  refine ⟨Nat.le_refl _, fun _ _ => rfl, fun i h1 h2 => absurd h1 (Nat.not_le_of_lt h2), fun c u h _ => ?_, fun c u h => ?_⟩
  · rw [upd_ne (ne_of_none h hp)]; exact h
  · exact ⟨u, by rw [upd_ne (ne_of_none h hp)]; exact h⟩
theorem nbd {ρ : Nat → Addr} {st : Sto} {H : Hp} {p : Addr} (r : RS g ρ st H) (hp : H p = none) : ¬ Bd ρ st.length p := fun hb => by
  have q := r.wr p hb
  rw [hp] at q
  exact q
theorem RO.ext {ρ ρ' : Nat → Addr} {st : Sto} {n' : Nat} {H H' : Hp} (x : Ext ρ st.length H ρ' n' H') (r : RS g ρ st H) {a : Addr} {o : SO} (e : H' a = H a) (h : RO g ρ st.length H a o) : RO g ρ' n' H' a o := by
  cases o with
  | lst xs => obtain ⟨vs, e1, e2⟩ := h; exact ⟨vs, e.trans e1, RVs.ext x r e2⟩
  | dic xs => obtain ⟨vs, e1, e2⟩ := h; exact ⟨vs, e.trans e1, e2.mono fun _ _ ⟨q1, q2⟩ => ⟨q1, q2.ext x r⟩⟩
  | ins c xs => obtain ⟨dx, vs, e1, e2⟩ := h; exact ⟨dx, vs, e.trans e1, e2.mono fun _ _ ⟨q1, q2⟩ => ⟨q1, q2.ext x r⟩⟩
theorem RS.laid {ρ : Nat → Addr} {st : Sto} {H : Hp} {p : Addr} {o : HO} (r : RS g ρ st H) (hp : H p = none) : RS g ρ st (upd H p o) := by
  refine ⟨r.inj, fun i u e => RO.ext (Ext.laid r hp) r (upd_ne fun z => ?_) (r.obj i u e)⟩
  exact nbd r hp ⟨i, (List.getElem?_eq_some_iff.mp e).1, z⟩
/-- a new thing of the store -/
def ext1 (ρ : Nat → Addr) (n : Nat) (p : Addr) : Nat → Addr := fun i => if i = n then p else ρ i
theorem Ext.newS {ρ : Nat → Addr} {st : Sto} {H : Hp} {p : Addr} {o : HO} (r : RS g ρ st H) (hp : H p = none) : Ext ρ st.length H (ext1 ρ st.length p) (st.length + 1) (upd H p o) := by
  refine ⟨Nat.le_succ _, fun i hi => if_neg (Nat.ne_of_lt hi), fun i h1 h2 => ?_, (Ext.laid r hp).keep, (Ext.laid r hp).dom⟩
  have e : i = st.length := Nat.le_antisymm (Nat.le_of_lt_succ h2) h1
  unfold ext1
  rw [if_pos e]
  exact hp
theorem RS.newS {ρ : Nat → Addr} {st : Sto} {H : Hp} {p : Addr} {o : HO} {s : SO} (r : RS g ρ st H) (hp : H p = none) (h : RO g (ext1 ρ st.length p) (st.length + 1) (upd H p o) p s) : RS g (ext1 ρ st.length p) (st ++ [s]) (upd H p o) := by
  have nb := nbd r hp
  refine ⟨fun i j hi hj e => ?_, fun i u e => ?_⟩
  · rw [List.length_append, List.length_singleton] at hi hj
    unfold ext1 at e
    split at e
    · split at e
      · omega
      · exact absurd ⟨j, by omega, e.symm⟩ nb
    · split at e
      · exact absurd ⟨i, by omega, e⟩ nb
      · exact r.inj i j (by omega) (by omega) e
  · rw [List.length_append, List.length_singleton]
    by_cases hi : i < st.length
    · rw [List.getElem?_append_left hi] at e
      have z : ext1 ρ st.length p i = ρ i := if_neg (Nat.ne_of_lt hi)
      rw [z]
      exact RO.ext (Ext.newS r hp) r (upd_ne fun z => nb ⟨i, hi, z⟩) (r.obj i u e)
    · rw [List.getElem?_append_right (Nat.le_of_not_lt hi)] at e
      have hi2 : i - st.length = 0 := by
        cases q : i - st.length with
        | zero => rfl
        | succ k => rw [q] at e; simp at e
      have hi3 : i = st.length := by omega
      subst hi3
      rw [hi2] at e
      cases e
      have z : ext1 ρ st.length p st.length = p := if_pos rfl
      rw [z]
      exact h
theorem e_tup {x1} (h : PA X es (TAm g W t)) : PE X (.Tuple es x1 pos) (TEm g W fun en st => (t en st).bind fun as st1 => tupM as st1) := by
  refine (pe_tup h).imp fun σ H Q ⟨ρ, st, en, r, e, w⟩ => ?_
  refine (seqA wid r e w).mono fun x H1 ⟨as, ρ1, st1, r1, e1, ra, x1, w1⟩ => ?_
  unfold tupM at w1
  cases q : datas as with
  | none => rw [q] at w1; exact w1.elim
  | some ds =>
    rw [q] at w1
    have w2 : Wp g ρ1 st1 H1 (if ds.length ≤ sizeLine then .ok (.d (.tuple ds)) st1 else .bad) (Qv g Q) (Wx g W σ) := w1
    have em := datas_map q
    subst em
    have rd := DRs.ofV ra
    by_cases hz : ds.length ≤ sizeLine
    · rw [if_pos hz] at w2
      refine ⟨by rw [rd.length]; exact hz, fun p hp => ?_⟩
      refine w2 ρ1 _ (Ext.laid r1 hp) (r1.laid hp) _ (.tup (.of upd_same) ?_)
      exact DRs.stay ((Ext.laid r1 hp).stay r1) _ _ rd
    · rw [if_neg hz] at w2
      exact w2.elim
theorem e_lst (h : PA X es (TAm g W t)) : PE X (.List es pos) (TEm g W fun en st => (t en st).bind fun as st1 => lstM as st1) := by
  refine (pe_lst h).imp fun σ H Q ⟨ρ, st, en, r, e, w⟩ => ?_
  refine (seqA wid r e w).mono fun x H1 ⟨as, ρ1, st1, r1, e1, ra, x1, w1⟩ => ?_
  unfold lstM at w1
  cases q : datas as with
  | none => rw [q] at w1; exact w1.elim
  | some ds =>
    rw [q] at w1
    have w2 : Wp g ρ1 st1 H1 (if ds.length ≤ sizeLine then .ok (.d (.list ds)) st1 else .bad) (Qv g Q) (Wx g W σ) := w1
    have em := datas_map q
    subst em
    have rd := DRs.ofV ra
    by_cases hz : ds.length ≤ sizeLine
    · rw [if_pos hz] at w2
      refine ⟨by rw [rd.length]; exact hz, fun p hp => ?_⟩
      refine w2 ρ1 _ (Ext.laid r1 hp) (r1.laid hp) _ (.lst (.inl ⟨.of upd_same, nbd r1 hp⟩) ?_)
      exact DRs.stay ((Ext.laid r1 hp).stay r1) _ _ rd
    · rw [if_neg hz] at w2
      exact w2.elim
theorem e_new (h : PA X es (TAm g W t)) : PE X (.List es pos) (TEm g W fun en st => (t en st).bind fun as st1 => newM as st1) := by
  refine (pe_lst h).imp fun σ H Q ⟨ρ, st, en, r, e, w⟩ => ?_
  refine (seqA wid r e w).mono fun x H1 ⟨as, ρ1, st1, r1, e1, ra, x1, w1⟩ => ?_
  unfold newM at w1
  by_cases hz : as.length ≤ sizeLine
  · rw [if_pos hz] at w1
    refine ⟨by rw [← ra.length]; exact hz, fun p hp => ?_⟩
    have X1 := Ext.newS (o := .lst x) r1 hp
    have z : ext1 ρ1 st1.length p st1.length = p := if_pos rfl
    have w2 := w1 (ext1 ρ1 st1.length p) (upd H1 p (.lst x)) (by rw [List.length_append, List.length_singleton]; exact X1) (RS.newS r1 hp ⟨x, upd_same, RVs.ext X1 r1 ra⟩)
    exact w2 _ ⟨by simp, by rw [z]⟩
  · rw [if_neg hz] at w1
    exact w1.elim
end
end SB

/-! Operations by values. -/
namespace SB
open PySem PySem.Spec PyProof.Rows L2

section
variable {X : Cx} {g : G0}
/-! ### ints -/
def i2 (f : Int → Int → M PV) : Op2
  | .d (.int i), .d (.int j), st => f i j st
  | _, _, _ => .bad
theorem i2_run {f : Int → Int → M PV} {r : R2} (h : ∀ (ρ : Nat → Addr) (st : Sto) (H : Hp) (i j : Int) (Q : VK) (Wf : Ex → (Nat → Addr) → Sto → Hp → Prop), RS g ρ st H → Wp g ρ st H (f i j st) (Qv g Q) Wf → r (.int i) (.int j) H Q) : OpV g r (i2 f) := by
  intro ρ st H a b x y Q Wf rs ra rb w
  unfold i2 at w
  split at w
  · cases (show DR g.K _ H x (.int _) from ra)
    cases (show DR g.K _ H y (.int _) from rb)
    exact h ρ st H _ _ Q Wf rs w
  · exact w.elim
/-- int by int, always -/
theorem v_i0 {f : Int → Int → Int} : OpV g (rI0 fun i j => .int (f i j)) (i2 fun i j st => .ok (.d (.int (f i j))) st) :=
  i2_run fun ρ st H i j Q Wf rs w => ⟨i, j, rfl, rfl, w.ok rs _ (.int _)⟩
theorem v_b0 {f : Int → Int → Bool} : OpV g (rI0 fun i j => .bl (f i j)) (i2 fun i j st => .ok (.d (.bool (f i j))) st) :=
  i2_run fun ρ st H i j Q Wf rs w => ⟨i, j, rfl, rfl, w.ok rs _ (.bl _)⟩
theorem v_ic {C : Int → Int → Prop} [∀ i j, Decidable (C i j)] {f : Int → Int → Int} : OpV g (rI C fun i j => .int (f i j)) (i2 fun i j st => if C i j then .ok (.d (.int (f i j))) st else .bad) :=
  i2_run fun ρ st H i j Q Wf rs w => by
    by_cases h : C i j
    · rw [if_pos h] at w
      exact ⟨i, j, rfl, rfl, h, w.ok rs _ (.int _)⟩
    · rw [if_neg h] at w
      exact w.elim
def subM : Op2 := i2 fun i j st => .ok (.d (.int (i - j))) st
def mulM : Op2 := i2 fun i j st => if (-(2 ^ 64) < i ∧ i < 2 ^ 64) ∨ (-(2 ^ 64) < j ∧ j < 2 ^ 64) then .ok (.d (.int (i * j))) st else .bad
def fdivM : Op2 := i2 fun i j st => if 0 < j ∧ j < 1073741824 then .ok (.d (.int (i / j))) st else .bad
def modM : Op2 := i2 fun i j st => if 0 < j then .ok (.d (.int (i % j))) st else .bad
def powM : Op2 := i2 fun i j st => if 0 ≤ j ∧ j ≤ 1000000 ∧ i.natAbs < 2 ^ 64 then .ok (.d (.int (i ^ j.toNat))) st else .bad
def shlM : Op2 := i2 fun i j st => if 0 ≤ j ∧ j ≤ 1000000 ∧ i.natAbs < 2 ^ 64 then .ok (.d (.int (i * 2 ^ j.toNat))) st else .bad
def andM : Op2 := i2 fun i j st => .ok (.d (.int (Builtin.bitAnd i j))) st
def orM : Op2 := i2 fun i j st => .ok (.d (.int (Builtin.bitOr i j))) st
def xorM : Op2 := i2 fun i j st => .ok (.d (.int (Builtin.bitXor i j))) st
def ltM : Op2 := i2 fun i j st => .ok (.d (.bool (decide (i < j)))) st
def leM : Op2 := i2 fun i j st => .ok (.d (.bool (decide (i ≤ j)))) st
def gtM : Op2 := i2 fun i j st => .ok (.d (.bool (decide (j < i)))) st
def geM : Op2 := i2 fun i j st => .ok (.d (.bool (decide (j ≤ i)))) st
theorem v_sub : OpV g (rI0 fun i j => .int (i - j)) subM := v_i0
theorem v_mul : OpV g (rI CMul fun i j => .int (i * j)) mulM := v_ic (C := fun i j => (-(2 ^ 64) < i ∧ i < 2 ^ 64) ∨ (-(2 ^ 64) < j ∧ j < 2 ^ 64))
theorem v_fdiv : OpV g (rI CDiv fun i j => .int (i / j)) fdivM := v_ic (C := fun _ j => 0 < j ∧ j < 1073741824)
theorem v_mod : OpV g (rI (fun _ j => 0 < j) fun i j => .int (i % j)) modM := v_ic (C := fun _ j => 0 < j)
theorem v_pow : OpV g (rI CPow fun i j => .int (i ^ j.toNat)) powM := v_ic (C := fun i j => 0 ≤ j ∧ j ≤ 1000000 ∧ i.natAbs < 2 ^ 64)
theorem v_shl : OpV g (rI CPow fun i j => .int (i * 2 ^ j.toNat)) shlM := v_ic (C := fun i j => 0 ≤ j ∧ j ≤ 1000000 ∧ i.natAbs < 2 ^ 64)
theorem v_and : OpV g (rI0 fun i j => .int (Builtin.bitAnd i j)) andM := v_i0
theorem v_or : OpV g (rI0 fun i j => .int (Builtin.bitOr i j)) orM := v_i0
theorem v_xor : OpV g (rI0 fun i j => .int (Builtin.bitXor i j)) xorM := v_i0
theorem v_lt : OpV g (rI0 fun i j => .bl (decide (i < j))) ltM := v_b0
theorem v_le : OpV g (rI0 fun i j => .bl (decide (i ≤ j))) leM := v_b0
theorem v_gt : OpV g (rI0 fun i j => .bl (decide (j < i))) gtM := v_b0
theorem v_ge : OpV g (rI0 fun i j => .bl (decide (j ≤ i))) geM := v_b0

/-! ### what is seen as a list, a tuple -/
def lstOf (st : Sto) : PV → Option (List PV)
  | .d (.list xs) => some (xs.map .d)
  | .ref i => match st[i]? with
    | some (.lst xs) => some xs
    | _ => none
  | _ => none
theorem lstOf_run {ρ : Nat → Addr} {st : Sto} {H : Hp} {p : PV} {v : V} {xs : List PV} (r : RS g ρ st H) (h : lstOf st p = some xs) (rp : RV g ρ st.length H p v) : ∃ a vs, v = .ref a ∧ SqL g.K H a vs ∧ RVs g ρ st.length H xs vs := by
  cases p with
  | d x =>
    cases x with
    | list ds =>
      cases h
      cases (show DR g.K _ H v (.list ds) from rp) with
      | lst h1 h2 => exact ⟨_, _, rfl, h1.seq, DRs.toV h2⟩
    | _ => cases h
  | ref i =>
    have h' : (match st[i]? with
      | some (.lst xs) => some xs
      | _ => none) = some xs := h
    cases q : st[i]? with
    | none => rw [q] at h'; cases h'
    | some o =>
      rw [q] at h'
      cases o with
      | lst ys =>
        cases h'
        obtain ⟨vs, h1, h2⟩ := r.obj _ _ q
        exact ⟨_, vs, rp.2, SqL.of h1, h2⟩
      | dic _ => cases h'
      | ins _ _ => cases h'
/-! ### + -/
def rCatL (K : PySem.W.Frag) : R2 := fun x y H Q => ∃ a b xs ys, x = .ref a ∧ y = .ref b ∧ SqL K H a xs ∧ SqL K H b ys ∧ xs.length + ys.length ≤ sizeLine ∧ ∀ p, H p = none → Q (.ref p) (upd H p (.lst (xs ++ ys)))
theorem op_catL : OpR X (binaryOp .Add) (rCatL X.K) := by
  intro pins s σ H x y v u Q I rx ry h
  obtain ⟨l, b, xs, zs, rfl, rfl, hH, hB, hz, q⟩ := h
  cases rx
  cases ry
  obtain ⟨its, r1, p1, _⟩ := I.list hH
  obtain ⟨its2, r2, p2, _⟩ := I.list hB
  have l1 := r1.length
  have l2 := r2.length
  obtain ⟨⟨cls, dd, data, sl⟩, ho, hc, n, hd⟩ := id p1.isList
  obtain ⟨⟨cls2, dd2, data2, sl2⟩, ho2, hc2, n2, hd2⟩ := id p2.isList
  simp only at hc hd hc2 hd2
  subst hc hd hc2 hd2
  have ea : its.toArray ++ its2.toArray = (its ++ its2).toArray := by simp
  refine concat_meets ⟨_, ho, rfl⟩ ⟨_, ho2, rfl⟩ noFill_list_add seq_list_add PySem.F.slot_list_add PySem.F.entry_list_add (PySem.F.args_list_add_2 _ _)
    (list_addW l b its.toArray its2.toArray n n2 dd dd2 sl sl2 (by simp only [List.size_toArray]; omega)) ⟨ho, ho2, ?_⟩
  rw [ea]
  exact ⟨.ref _, _, I.lnew (t' := s.toks) (r1.append r2) (by rw [List.length_append]; omega), rfl, q _ I.fresh⟩
def rCatS : R2 := fun x y H Q => ∃ i j, x = .str i ∧ y = .str j ∧ i.length + j.length ≤ sizeLine ∧ Q (.str (i ++ j)) H
def rAdd (K : PySem.W.Frag) : R2 := fun x y H Q => rI0 (fun i j => .int (i + j)) x y H Q ∨ rCatS x y H Q ∨ rCatL K x y H Q ∨ rCatA K x y H Q
theorem op_addA : OpR X (binaryOp .Add) (rAdd X.K) := op_add.or (op_add_str.or (op_catL.or op_catA))
/-- the new list that + makes is data, or of the store -/
def addM : Op2
  | .d (.int i), .d (.int j), st => .ok (.d (.int (i + j))) st
  | .d (.str x), .d (.str y), st => if x.length + y.length ≤ sizeLine then .ok (.d (.str (x ++ y))) st else .bad
  | .d (.tuple xs), .d (.tuple ys), st => if xs.length + ys.length ≤ sizeLine then .ok (.d (.tuple (xs ++ ys))) st else .bad
  | a, b, st => match lstOf st a, lstOf st b with
    | some xs, some ys => (match datas (xs ++ ys) with
      | some ds => if xs.length + ys.length ≤ sizeLine then .ok (.d (.list ds)) st else .bad
      | none => .bad)
    | _, _ => .bad
def addN : Op2 := fun a b st => match lstOf st a, lstOf st b with
  | some xs, some ys => if xs.length + ys.length ≤ sizeLine then .ok (.ref st.length) (st ++ [.lst (xs ++ ys)]) else .bad
  | _, _ => .bad
theorem Paired.app {α β : Type} {F : α → β → Prop} : ∀ {l₁ m₁ : List α} {l₂ m₂ : List β}, Paired F l₁ l₂ → Paired F m₁ m₂ → Paired F (l₁ ++ m₁) (l₂ ++ m₂)
  | _, _, _, _, .nil, h => h
  | _, _, _, _, .cons a t, h => .cons a (Paired.app t h)
theorem newL {ρ : Nat → Addr} {st : Sto} {H : Hp} {xs : List PV} {vs : List V} {ds : List PyData} {Q : VK} {Wf : Ex → (Nat → Addr) → Sto → Hp → Prop} (r : RS g ρ st H) (rv : RVs g ρ st.length H xs vs) (e : datas xs = some ds) (w : Wp g ρ st H (.ok (.d (.list ds)) st) (Qv g Q) Wf) :
    ∀ p, H p = none → Q (.ref p) (upd H p (.lst vs)) := fun p hp => by
  have em := datas_map e
  subst em
  refine w ρ _ (Ext.laid r hp) (r.laid hp) _ (.lst (.inl ⟨.of upd_same, nbd r hp⟩) ?_)
  exact DRs.stay ((Ext.laid r hp).stay r) _ _ (DRs.ofV rv)
theorem newT {ρ : Nat → Addr} {st : Sto} {H : Hp} {vs : List V} {ds : List PyData} {Q : VK} {Wf : Ex → (Nat → Addr) → Sto → Hp → Prop} (r : RS g ρ st H) (rv : DRs g.K (Bd ρ st.length) H vs ds) (w : Wp g ρ st H (.ok (.d (.tuple ds)) st) (Qv g Q) Wf) :
    ∀ p, H p = none → Q (.ref p) (upd H p (.tup vs)) := fun p hp =>
  w ρ _ (Ext.laid r hp) (r.laid hp) _ (.tup (.of upd_same) (DRs.stay ((Ext.laid r hp).stay r) _ _ rv))
theorem newN {ρ : Nat → Addr} {st : Sto} {H : Hp} {xs : List PV} {vs : List V} {Q : VK} {Wf : Ex → (Nat → Addr) → Sto → Hp → Prop} (r : RS g ρ st H) (rv : RVs g ρ st.length H xs vs) (w : Wp g ρ st H (.ok (.ref st.length) (st ++ [.lst xs])) (Qv g Q) Wf) :
    ∀ p, H p = none → Q (.ref p) (upd H p (.lst vs)) := fun p hp => by
  have X1 := Ext.newS (o := .lst vs) r hp
  have z : ext1 ρ st.length p st.length = p := if_pos rfl
  refine w (ext1 ρ st.length p) (upd H p (.lst vs)) (by rw [List.length_append, List.length_singleton]; exact X1) (RS.newS r hp ⟨vs, upd_same, RVs.ext X1 r rv⟩) _ ⟨by simp, by rw [z]⟩
theorem v_add : OpV g (rAdd g.K) addM := by
  intro ρ st H a b x y Q Wf rs ra rb w
  unfold addM at w
  split at w
  · cases (show DR g.K _ H x (.int _) from ra)
    cases (show DR g.K _ H y (.int _) from rb)
    exact .inl ⟨_, _, rfl, rfl, w.ok rs _ (.int _)⟩
  · cases (show DR g.K _ H x (.str _) from ra)
    cases (show DR g.K _ H y (.str _) from rb)
    split at w
    · rename_i hz
      exact .inr (.inl ⟨_, _, rfl, rfl, hz, w.ok rs _ (.str _)⟩)
    · exact w.elim
  · rename_i xs ys
    split at w
    · rename_i hz
      cases (show DR g.K _ H x (.tuple xs) from ra) with
      | tup h1 h2 =>
        cases (show DR g.K _ H y (.tuple ys) from rb) with
        | tup h3 h4 =>
          refine .inr (.inr (.inr ⟨_, _, _, _, rfl, rfl, h1, h3, by rw [h2.length, h4.length]; exact hz, fun e => ?_, fun _ e => ?_, fun _ _ => newT rs (h2.append h4) w⟩))
          · subst e
            cases xs with
            | nil => exact w.ok rs _ (.tup h3 h4)
            | cons z zs => cases h2
          · subst e
            cases ys with
            | nil =>
              rw [List.append_nil] at w
              exact w.ok rs _ (.tup h1 h2)
            | cons z zs => cases h4
    · exact w.elim
  · split at w
    · rename_i xs ys e1 e2
      split at w
      · rename_i ds e3
        split at w
        · rename_i hz
          obtain ⟨a1, vs, rfl, s1, r1⟩ := lstOf_run rs e1 ra
          obtain ⟨b1, ws, rfl, s2, r2⟩ := lstOf_run rs e2 rb
          exact .inr (.inr (.inl ⟨_, _, _, _, rfl, rfl, s1, s2, by rw [← r1.length, ← r2.length]; exact hz, newL rs (Paired.app r1 r2) e3 w⟩))
        · exact w.elim
      · exact w.elim
    · exact w.elim
theorem v_addN : OpV g (rAdd g.K) addN := by
  intro ρ st H a b x y Q Wf rs ra rb w
  unfold addN at w
  split at w
  · rename_i xs ys e1 e2
    split at w
    · rename_i hz
      obtain ⟨a1, vs, rfl, s1, r1⟩ := lstOf_run rs e1 ra
      obtain ⟨b1, ws, rfl, s2, r2⟩ := lstOf_run rs e2 rb
      exact .inr (.inr (.inl ⟨_, _, _, _, rfl, rfl, s1, s2, by rw [← r1.length, ← r2.length]; exact hz, newN rs (Paired.app r1 r2) w⟩))
    · exact w.elim
  · exact w.elim
/-! ### data read -/
/-- the module table is a dict: so no list stands there -/
def SysD (K : PySem.W.Frag) : Prop := ∃ o, K.lookup sysModules = some o ∧ o.cls = .type "dict"
variable {pins : List (Addr × Obj)} {σ : L2.St} {H : Hp} {s : Shared} {B : Addr → Prop}
theorem notSys (I : Inv X pins σ H s) (hs : SysD X.K) {a : Addr} {o : Obj} (e : s.heap.get? a = some o) (c : o.cls = .type "list") : a ≠ sysModules := fun z => by
  obtain ⟨u, h1, h2⟩ := hs
  have q := I.kIn _ _ h1
  rw [z, q] at e
  cases e
  rw [h2] at c
  exact absurd c (by decide +kernel)
theorem keyReads {P : Program} {w : World} {h : Heap} {k : L2.Key} {v : Value} (e : (L2.mixKind P w).is k v = true) : Reads h v (kD k) [] := by
  rcases L2.keyIs_shape e with ⟨i, t, rfl, rfl⟩ | ⟨x, t, rfl, rfl⟩
  · exact .int i t
  · exact .str x t
mutual
theorem DR.reads (I : Inv X pins σ H s) (hs : SysD X.K) : ∀ (d : PyData) (v : V) (u : Value), DR X.K B H v d → RelV v u → ∃ as, Reads s.heap u d as ∧ sysModules ∉ as
  | .none, _, _, h, r => by
    cases h
    cases r
    exact ⟨_, Reads.none, by simp⟩
  | .bool b, _, _, h, r => by
    cases h
    cases r
    exact ⟨_, Reads.bool b, by simp⟩
  | .int i, _, _, h, r => by
    cases h
    obtain ⟨t, rfl⟩ := r
    exact ⟨_, Reads.int i t, by simp⟩
  | .str x, _, _, h, r => by
    cases h
    obtain ⟨t, rfl⟩ := r
    exact ⟨_, Reads.str x t, by simp⟩
  | .list ds, _, _, h, r => by
    cases h with
    | lst h1 h2 =>
      cases r
      obtain ⟨its, rv, ⟨o, n, ho, hc, _, hd⟩, _⟩ := I.list h1.seq
      obtain ⟨as, hr, ns⟩ := DRs.reads I hs ds _ its h2 rv
      exact ⟨_, Reads.list ho hc hd hr, by
        intro z
        rcases List.mem_cons.mp z with z | z
        · exact notSys I hs ho hc z.symm
        · exact ns z⟩
  | .tuple ds, _, _, h, r => by
    cases h with
    | tup h1 h2 =>
      cases r
      obtain ⟨its, rv, ⟨o, ho, hc, n, hd⟩, _⟩ := I.tuple h1
      obtain ⟨as, hr, ns⟩ := DRs.reads I hs ds _ its h2 rv
      exact ⟨_, Reads.tuple ho hc hd hr, ns⟩
  | .dict ds, _, _, h, r => by
    cases h with
    | dct h1 h2 h3 h4 =>
      cases r
      obtain ⟨_, nsys, vs, rk, o, es, ep, ho, hx, hd, _, hp, _⟩ := I.hok _ _ h1
      obtain ⟨as, r1, r2, ns⟩ := DRk.reads I hs ds _ vs es.toList h4 rk hp
      exact ⟨_, Reads.dict ho hx.1 hd r1 r2, by
        intro z
        rcases List.mem_cons.mp (show sysModules ∈ _ :: ([] ++ as) from z) with z | z
        · rw [← z] at nsys
          exact absurd nsys (by decide)
        · exact ns z⟩
theorem DRs.reads (I : Inv X pins σ H s) (hs : SysD X.K) : ∀ (ds : List PyData) (vs : List V) (us : List Value), DRs X.K B H vs ds → Vals vs us → ∃ as, ReadsAll s.heap us ds as ∧ sysModules ∉ as
  | [], _, _, h, r => by
    cases h
    cases r
    exact ⟨_, ReadsAll.nil, by simp⟩
  | d :: ds, _, _, h, r => by
    cases h with
    | cons h1 h2 =>
      cases r with
      | cons r1 r2 =>
        obtain ⟨as, q1, n1⟩ := DR.reads I hs d _ _ h1 r1
        obtain ⟨bs, q2, n2⟩ := DRs.reads I hs ds _ _ h2 r2
        exact ⟨_, ReadsAll.cons q1 q2, fun z => (List.mem_append.mp z).elim n1 n2⟩
theorem DRk.reads (I : Inv X pins σ H s) (hs : SysD X.K) : ∀ (ds : List (PyData × PyData)) (ws : List (L2.Key × V)) (vs : List (L2.Key × Value)) (es : List DictEntry), DRk X.K B H ws ds → KV ws vs → Pairs (L2.mixKind X.prog X.w) es vs →
    ∃ as, ReadsAll s.heap (es.map (·.key)) (ds.map (·.1)) [] ∧ ReadsAll s.heap (es.map (·.val)) (ds.map (·.2)) as ∧ sysModules ∉ as
  | [], _, _, _, h, r, p => by
    cases h
    cases r
    cases p
    exact ⟨_, ReadsAll.nil, ReadsAll.nil, by simp⟩
  | (k, d) :: ds, _, _, _, h, r, p => by
    cases h with
    | cons h1 h2 =>
      cases r with
      | cons r1 r2 =>
        cases p with
        | cons p1 p2 p3 =>
          obtain ⟨e1, e2⟩ := r1
          obtain ⟨as, q1, n1⟩ := DR.reads I hs d _ _ h1 e2
          obtain ⟨bs, k2, q2, n2⟩ := DRk.reads I hs ds _ _ _ h2 r2 p3
          have kr := keyReads (h := s.heap) p1
          rw [← e1] at kr
          refine ⟨_, ReadsAll.cons (as := []) (bs := []) kr k2, ReadsAll.cons (by rw [← p2] at q1; exact q1) q2, fun z => (List.mem_append.mp z).elim n1 n2⟩
end
mutual
/-- nothing is barred -/
theorem unbar1 {K : PySem.W.Frag} {B : Addr → Prop} {H : Hp} : ∀ (x : PyData) (v : V), DR K B H v x → DR K (fun _ => False) H v x
  | .none, _, h => by cases h; exact .non
  | .bool _, _, h => by cases h; exact .bl _
  | .int _, _, h => by cases h; exact .int _
  | .str _, _, h => by cases h; exact .str _
  | .list ds, _, h => by
    cases h with
    | lst h1 h2 =>
      refine .lst ?_ (unbar ds _ h2)
      rcases h1 with ⟨h1, _⟩ | h1
      · exact .inl ⟨h1, fun z => z⟩
      · exact .inr h1
  | .tuple ds, _, h => by
    cases h with
    | tup h1 h2 => exact .tup h1 (unbar ds _ h2)
  | .dict ds, _, h => by
    cases h with
    | dct h1 h2 h3 h4 => exact .dct h1 (fun z => z) h3 (unbark ds _ h4)
theorem unbar {K : PySem.W.Frag} {B : Addr → Prop} {H : Hp} : ∀ (xs : List PyData) (vs : List V), DRs K B H vs xs → DRs K (fun _ => False) H vs xs
  | [], _, h => by cases h; exact .nil
  | x :: xs, _, h => by
    cases h with
    | cons h1 h2 => exact .cons (unbar1 x _ h1) (unbar xs _ h2)
theorem unbark {K : PySem.W.Frag} {B : Addr → Prop} {H : Hp} : ∀ (xs : List (PyData × PyData)) (vs : List (L2.Key × V)), DRk K B H vs xs → DRk K (fun _ => False) H vs xs
  | [], _, h => by cases h; exact .nil
  | (k, x) :: xs, _, h => by
    cases h with
    | cons h1 h2 => exact .cons (unbar1 x _ h1) (unbark xs _ h2)
end
/-! ### == , in, is -/
def dataOf (st : Sto) : PV → Option PyData
  | .d x => some x
  | .ref i => match st[i]? with
    | some (.lst xs) => (datas xs).map .list
    | _ => none
/-- data as it stands now (a list of the store may change later) -/
def DN (g : G0) (H : Hp) (v : V) (d : PyData) : Prop := ∃ B, DR g.K B H v d
theorem dataOf_run {ρ : Nat → Addr} {st : Sto} {H : Hp} {p : PV} {v : V} {d : PyData} (r : RS g ρ st H) (h : dataOf st p = some d) (rp : RV g ρ st.length H p v) : DN g H v d := by
  cases p with
  | d x =>
    cases h
    exact ⟨_, rp⟩
  | ref i =>
    have h' : (match st[i]? with
      | some (.lst xs) => (datas xs).map .list
      | _ => none) = some d := h
    cases q : st[i]? with
    | none => rw [q] at h'; cases h'
    | some o =>
      rw [q] at h'
      cases o with
      | lst ys =>
        have h2 : (datas ys).map PyData.list = some d := h'
        cases q2 : datas ys with
        | none => rw [q2] at h2; cases h2
        | some ds =>
          rw [q2] at h2
          cases h2
          obtain ⟨vs, h1, h3⟩ := r.obj _ _ q
          have em := datas_map q2
          subst em
          obtain ⟨_, e⟩ := rp
          subst e
          -- read as it is now: nothing is barred
          have rd := DRs.ofV h3
          refine ⟨fun _ => False, .lst (.inl ⟨.of h1, fun z => z⟩) ?_⟩
          exact unbar _ _ rd
      | dic _ => cases h'
      | ins _ _ => cases h'
end
end SB

/-! Comparisons, subscripts, slices, built-ins, methods. -/
namespace SB
open PySem PySem.Spec PyProof.Rows L2

section
variable {X : Cx} {g : G0}
/-! ### ==, != -/
def eqOk (x y : PyData) : Bool := x.canLay0 && y.canLay0 && decide (min x.depth y.depth ≤ 150)
def tupE (x y : PyData) : Option Bool := match x, y with
  | .tuple xs, .tuple [] => some xs.isEmpty
  | .tuple [], .tuple ys => some ys.isEmpty
  | _, _ => none
def eqD (x y : PyData) : Option Bool := if eqOk x y then some (PyData.eqv x y) else tupE x y
def rEqQ (g : G0) (f : Bool → Bool) : R2 := fun x y H Q => ∃ d e k, DN g H x d ∧ DN g H y e ∧ eqD d e = some k ∧ Q (.bl (f k)) H
theorem room150 {A : Around} {x y : PyData} (hu : A.units + 200 < cLine) (h : eqOk x y = true) : A.units + min x.depth y.depth < cLine := by
  have h2 := of_decide_eq_true (Bool.and_eq_true_iff.mp h).2
  omega
theorem tupIs {σ : L2.St} {H : Hp} {s : Shared} {pins : List (Addr × Obj)} {d e : PyData} {k : Bool} (I : Inv X pins σ H s) (hg : g.K = X.K) {x y : V} {v u : Value} (hd : DN g H x d) (he : DN g H y e) (hk : tupE d e = some k) (rx : RelV x v) (ry : RelV y u) :
    ∃ (a b : Addr) (p q : Array Value), v = .ref a ∧ u = .ref b ∧ IsTup s.heap a p ∧ IsTup s.heap b q ∧ min p.size q.size = 0 ∧ (p.size == q.size) = k := by
  obtain ⟨B, hd⟩ := hd
  obtain ⟨B', he⟩ := he
  have go : ∀ (xs ys : List PyData), d = .tuple xs → e = .tuple ys → min xs.length ys.length = 0 → (xs.length == ys.length) = k →
      ∃ (a b : Addr) (p q : Array Value), v = .ref a ∧ u = .ref b ∧ IsTup s.heap a p ∧ IsTup s.heap b q ∧ min p.size q.size = 0 ∧ (p.size == q.size) = k := by
    intro xs ys e1 e2 h1 h2
    subst e1 e2
    cases hd with
    | tup a1 a2 =>
      cases he with
      | tup b1 b2 =>
        cases rx
        cases ry
        rw [hg] at a1 b1
        obtain ⟨its, r1, p1, _⟩ := I.tuple a1
        obtain ⟨its2, r2, p2, _⟩ := I.tuple b1
        have l1 : its.toArray.size = xs.length := by rw [List.size_toArray, ← r1.length, a2.length]
        have l2 : its2.toArray.size = ys.length := by rw [List.size_toArray, ← r2.length, b2.length]
        exact ⟨_, _, _, _, rfl, rfl, p1, p2, by rw [l1, l2]; exact h1, by rw [l1, l2]; exact h2⟩
  unfold tupE at hk
  split at hk
  · rename_i xs
    cases hk
    exact go xs [] rfl rfl (by simp) (by cases xs <;> simp)
  · rename_i ys _
    cases hk
    exact go [] ys rfl rfl (by simp) (by cases ys <;> simp)
  · cases hk
theorem all_none {n : Nat} {f : Nat → Bool} {k : Bool} (h : n = 0) : ((List.range n).all f && k) = k := by
  subst h
  simp
theorem op_eqQ (hs : SysD X.K) (hg : g.K = X.K) (hu : X.A.units + 200 < cLine) : OpR X (compareOp .Eq) (rEqQ g id) := by
  intro pins s σ H x y v u Q I rx ry h
  obtain ⟨d, e, k, hd, he, hk, q⟩ := h
  unfold eqD at hk
  split at hk
  · rename_i hok
    cases hk
    obtain ⟨B, hd⟩ := hd
    obtain ⟨B', he⟩ := he
    rw [hg] at hd he
    obtain ⟨as, r1, _⟩ := DR.reads I hs d x v hd rx
    obtain ⟨bs, r2, _⟩ := DR.reads I hs e y u he ry
    obtain ⟨h1, h2⟩ := Bool.and_eq_true_iff.mp (Bool.and_eq_true_iff.mp hok).1
    exact SeqAt.compareEq_reads r1 r2 h1 h2 (room150 hu hok) ⟨.bl _, H, I, rfl, q⟩
  · obtain ⟨a, b, p, t, rfl, rfl, p1, p2, h1, h2⟩ := tupIs I hg hd he hk rx ry
    have z := SeqAt.RcAt.tuples (A := X.A) (e := fun _ => true) p1 p2 (by omega) (fun j h3 h4 => absurd h1 (by omega))
    rw [all_none h1, h2] at z
    exact z _ _ _ _ ⟨.bl _, H, I, rfl, q⟩
theorem op_neQ (hs : SysD X.K) (hg : g.K = X.K) (hu : X.A.units + 200 < cLine) : OpR X (compareOp .NotEq) (rEqQ g not) := by
  intro pins s σ H x y v u Q I rx ry h
  obtain ⟨d, e, k, hd, he, hk, q⟩ := h
  unfold eqD at hk
  split at hk
  · rename_i hok
    cases hk
    obtain ⟨B, hd⟩ := hd
    obtain ⟨B', he⟩ := he
    rw [hg] at hd he
    obtain ⟨as, r1, _⟩ := DR.reads I hs d x v hd rx
    obtain ⟨bs, r2, _⟩ := DR.reads I hs e y u he ry
    obtain ⟨h1, h2⟩ := Bool.and_eq_true_iff.mp (Bool.and_eq_true_iff.mp hok).1
    exact SeqAt.compareNe_reads r1 r2 h1 h2 (room150 hu hok) ⟨.bl _, H, I, rfl, q⟩
  · obtain ⟨a, b, p, t, rfl, rfl, p1, p2, h1, h2⟩ := tupIs I hg hd he hk rx ry
    have z := SeqAt.RcNeAt.tuples (A := X.A) (e := fun _ => true) p1 p2 (by omega) (fun j h3 h4 => absurd h1 (by omega))
    rw [all_none h1, h2] at z
    exact z _ _ _ _ ⟨.bl _, H, I, rfl, q⟩
def eqM : Op2 := fun a b st => match dataOf st a, dataOf st b with
  | some x, some y => (match eqD x y with
    | some k => .ok (.d (.bool k)) st
    | none => .bad)
  | _, _ => .bad
def neM : Op2 := fun a b st => match dataOf st a, dataOf st b with
  | some x, some y => (match eqD x y with
    | some k => .ok (.d (.bool (!k))) st
    | none => .bad)
  | _, _ => .bad
theorem v_eq : OpV g (rEqQ g id) eqM := by
  intro ρ st H a b x y Q Wf rs ra rb w
  unfold eqM at w
  split at w
  · rename_i d e e1 e2
    split at w
    · rename_i k e3
      exact ⟨d, e, k, dataOf_run rs e1 ra, dataOf_run rs e2 rb, e3, w.ok rs _ (.bl _)⟩
    · exact w.elim
  · exact w.elim
theorem v_ne : OpV g (rEqQ g not) neM := by
  intro ρ st H a b x y Q Wf rs ra rb w
  unfold neM at w
  split at w
  · rename_i d e e1 e2
    split at w
    · rename_i k e3
      exact ⟨d, e, k, dataOf_run rs e1 ra, dataOf_run rs e2 rb, e3, w.ok rs _ (.bl _)⟩
    · exact w.elim
  · exact w.elim

/-! ### in, not in -/
/-- among the items of a list or a tuple: data that can be laid; a text in a text; a key of a dict -/
def inSeq (x : PyData) (ys : List PyData) : Option Bool := if (x.canLay0 && PyData.canLayAll0 ys && decide (min (PyData.depthAll ys) x.depth ≤ 100)) = true then some (ys.any fun z => PyData.eqv z x) else none
def keyOf? : PyData → Option L2.Key
  | .int i => some (.inl i)
  | .str x => some (.inr x)
  | _ => none
def inD (x : PyData) : PyData → Option Bool
  | .list ys => inSeq x ys
  | .tuple ys => inSeq x ys
  | .str y => (match x with
    | .str z => some (!(Builtin.Str.occurrences y z 0 y.length 1).isEmpty)
    | _ => none)
  | _ => none
def rInQ (g : G0) (f : Bool → Bool) : R2 := fun x y H Q => ∃ d e k, DN g H x d ∧ DN g H y e ∧ inD d e = some k ∧ Q (.bl (f k)) H
theorem inSeq_ok {x : PyData} {ys : List PyData} {k : Bool} (h : inSeq x ys = some k) : k = (ys.any fun z => PyData.eqv z x) ∧ x.canLay0 = true ∧ PyData.canLayAll0 ys = true ∧ min (PyData.depthAll ys) x.depth ≤ 100 := by
  unfold inSeq at h
  split at h
  · rename_i q
    cases h
    obtain ⟨q1, q3⟩ := Bool.and_eq_true_iff.mp q
    obtain ⟨q1, q2⟩ := Bool.and_eq_true_iff.mp q1
    exact ⟨rfl, q1, q2, of_decide_eq_true q3⟩
  · cases h
theorem op_inQ (hs : SysD X.K) (hg : g.K = X.K) (hu : X.A.units + 200 < cLine) : OpR X (compareOp .In) (rInQ g id) := by
  intro pins s σ H x y v u Q I rx ry h
  obtain ⟨d, e, k, hd, he, hk, q⟩ := h
  obtain ⟨B, hd⟩ := hd
  obtain ⟨B', he⟩ := he
  rw [hg] at hd he
  unfold inD at hk
  split at hk
  · obtain ⟨as, r1, _⟩ := DR.reads I hs _ x v hd rx
    obtain ⟨bs, r2, _⟩ := DR.reads I hs _ y u he ry
    obtain ⟨e0, e1, e2, e3⟩ := inSeq_ok hk
    exact SeqAt.in_list_reads r2 r1 e2 e1 (by omega) (by rw [← e0]; exact ⟨.bl _, H, I, rfl, q⟩)
  · obtain ⟨as, r1, _⟩ := DR.reads I hs _ x v hd rx
    obtain ⟨bs, r2, _⟩ := DR.reads I hs _ y u he ry
    obtain ⟨e0, e1, e2, e3⟩ := inSeq_ok hk
    exact SeqAt.in_tuple_reads r2 r1 e2 e1 (by omega) (by rw [← e0]; exact ⟨.bl _, H, I, rfl, q⟩)
  · split at hk
    · cases hk
      cases hd
      cases he
      exact op_in_str pins s σ H _ _ v u Q I rx ry ⟨_, _, rfl, rfl, q⟩
    · cases hk
  · cases hk
theorem op_ninQ (hs : SysD X.K) (hg : g.K = X.K) (hu : X.A.units + 200 < cLine) : OpR X (compareOp .NotIn) (rInQ g not) := by
  intro pins s σ H x y v u Q I rx ry h
  obtain ⟨d, e, k, hd, he, hk, q⟩ := h
  obtain ⟨B, hd⟩ := hd
  obtain ⟨B', he⟩ := he
  rw [hg] at hd he
  unfold inD at hk
  split at hk
  · obtain ⟨as, r1, _⟩ := DR.reads I hs _ x v hd rx
    obtain ⟨bs, r2, _⟩ := DR.reads I hs _ y u he ry
    obtain ⟨e0, e1, e2, e3⟩ := inSeq_ok hk
    exact SeqAt.notIn_list_reads r2 r1 e2 e1 (by omega) (by rw [← e0]; exact ⟨.bl _, H, I, rfl, q⟩)
  · obtain ⟨as, r1, _⟩ := DR.reads I hs _ x v hd rx
    obtain ⟨bs, r2, _⟩ := DR.reads I hs _ y u he ry
    obtain ⟨e0, e1, e2, e3⟩ := inSeq_ok hk
    exact SeqAt.notIn_tuple_reads r2 r1 e2 e1 (by omega) (by rw [← e0]; exact ⟨.bl _, H, I, rfl, q⟩)
  · split at hk
    · cases hk
      cases hd
      cases he
      exact op_notin_str pins s σ H _ _ v u Q I rx ry ⟨_, _, rfl, rfl, q⟩
    · cases hk
  · cases hk
def inM : Op2 := fun a b st => match dataOf st a, dataOf st b with
  | some x, some y => (match inD x y with
    | some k => .ok (.d (.bool k)) st
    | none => .bad)
  | _, _ => .bad
def ninM : Op2 := fun a b st => match dataOf st a, dataOf st b with
  | some x, some y => (match inD x y with
    | some k => .ok (.d (.bool (!k))) st
    | none => .bad)
  | _, _ => .bad
theorem v_in : OpV g (rInQ g id) inM := by
  intro ρ st H a b x y Q Wf rs ra rb w
  unfold inM at w
  split at w
  · rename_i d e e1 e2
    split at w
    · rename_i k e3
      exact ⟨d, e, k, dataOf_run rs e1 ra, dataOf_run rs e2 rb, e3, w.ok rs _ (.bl _)⟩
    · exact w.elim
  · exact w.elim
theorem v_nin : OpV g (rInQ g not) ninM := by
  intro ρ st H a b x y Q Wf rs ra rb w
  unfold ninM at w
  split at w
  · rename_i d e e1 e2
    split at w
    · rename_i k e3
      exact ⟨d, e, k, dataOf_run rs e1 ra, dataOf_run rs e2 rb, e3, w.ok rs _ (.bl _)⟩
    · exact w.elim
  · exact w.elim
/-! ### is None, is not None -/
def isNone : PV → Bool
  | .d .none => true
  | _ => false
theorem isNone_run {ρ : Nat → Addr} {n : Nat} {H : Hp} {p : PV} {v : V} (r : RV g ρ n H p v) : decide (v = .non) = isNone p := by
  cases p with
  | ref i =>
    obtain ⟨_, e⟩ := r
    subst e
    rfl
  | d x =>
    have r' : DR g.K _ H v x := r
    cases r' <;> rfl
def isM : Op2
  | a, .d .none, st => .ok (.d (.bool (isNone a))) st
  | _, _, _ => .bad
def isntM : Op2
  | a, .d .none, st => .ok (.d (.bool (!isNone a))) st
  | _, _, _ => .bad
theorem v_is : OpV g (fun x y H Q => y = .non ∧ Q (.bl (decide (x = .non))) H) isM := by
  intro ρ st H a b x y Q Wf rs ra rb w
  unfold isM at w
  split at w
  · cases (show DR g.K _ H y .none from rb)
    exact ⟨rfl, by rw [isNone_run ra]; exact w.ok rs _ (.bl _)⟩
  · exact w.elim
theorem v_isnt : OpV g (fun x y H Q => y = .non ∧ Q (.bl (!decide (x = .non))) H) isntM := by
  intro ρ st H a b x y Q Wf rs ra rb w
  unfold isntM at w
  split at w
  · cases (show DR g.K _ H y .none from rb)
    exact ⟨rfl, by rw [isNone_run ra]; exact w.ok rs _ (.bl _)⟩
  · exact w.elim

/-! ### subscripts -/
def strAt (z : Str) (i : Int) : Option PyData := (atI z.cps.toList i).map fun c => .str ⟨#[c]⟩
def tupOf : PV → Option (List PyData)
  | .d (.tuple xs) => some xs
  | _ => none
/-- x[i] -/
def ixM : Op2
  | .d (.tuple xs), .d (.int i), st => (match atI xs i with
    | some v => .ok (.d v) st
    | none => .bad)
  | .d (.str z), .d (.int i), st => if z.length ≤ sizeLine then (match strAt z i with
    | some v => .ok (.d v) st
    | none => .bad) else .bad
  | a, .d (.int i), st => (match lstOf st a with
    | some xs => (match atI xs i with
      | some v => .ok v st
      | none => .bad)
    | none => .bad)
  | _, _, _ => .bad
theorem atI_rel {α β : Type} {F : α → β → Prop} {xs : List α} {ys : List β} {i : Int} {x : α} (h : Paired F xs ys) (e : atI xs i = some x) : ∃ y, atI ys i = some y ∧ F x y := by
  unfold atI at e ⊢
  rw [← h.length]
  cases q : ixN xs.length i with
  | none => rw [q] at e; cases e
  | some j =>
    rw [q] at e
    have e2 : xs[j]? = some x := e
    show ∃ y, ys[j]? = some y ∧ F x y
    clear q e
    induction h generalizing j with
    | nil => simp at e2
    | cons a t ih =>
      cases j with
      | zero => simp at e2; subst e2; exact ⟨_, by simp, a⟩
      | succ j => exact ih j (by simpa using e2)
theorem v_ix : OpV g (rIx g.K) ixM := by
  intro ρ st H a b x y Q Wf rs ra rb w
  unfold ixM at w
  split at w
  · rename_i xs i
    cases (show DR g.K _ H y (.int i) from rb)
    split at w
    · rename_i v e
      cases (show DR g.K _ H x (.tuple xs) from ra) with
      | tup h1 h2 =>
        obtain ⟨u, e1, e2⟩ := atI_rel (DRs.paired h2) e
        exact .inr (.inl ⟨_, _, i, u, rfl, rfl, h1, e1, w.ok rs _ e2⟩)
    · exact w.elim
  · rename_i z i
    cases (show DR g.K _ H y (.int i) from rb)
    cases (show DR g.K _ H x (.str z) from ra)
    split at w
    · rename_i hz
      split at w
      · rename_i v e
        unfold strAt at e
        cases q : atI z.cps.toList i with
        | none => rw [q] at e; cases e
        | some c =>
          rw [q] at e
          cases e
          exact .inr (.inr ⟨z, i, c, rfl, rfl, hz, q, w.ok rs _ (.str _)⟩)
      · exact w.elim
    · exact w.elim
  · rename_i i _ _
    cases (show DR g.K _ H y (.int i) from rb)
    split at w
    · rename_i xs e
      split at w
      · rename_i v e2
        obtain ⟨a1, vs, rfl, s1, r1⟩ := lstOf_run rs e ra
        obtain ⟨u, e3, e4⟩ := atI_rel r1 e2
        exact .inl ⟨a1, vs, i, u, rfl, rfl, s1, e3, w.ok rs _ e4⟩
      · exact w.elim
    · exact w.elim
  · exact w.elim
theorem e_ix {W : WX} {pos : Pos} {a b : Expr} {ma mb : Em} (hg : g.K = X.K) (ha : PE X a (TEm g W ma)) (hb : PE X b (TEm g W mb)) (hs : PlainIx b := by intro _ _; rfl) : PE X (.Subscript a b pos) (TEm g W (mBin ixM ma mb)) :=
  (pe_ix ix_seq ha hb hs).imp (by rw [← hg]; exact bin_run v_ix)
end
end SB

/-! Statements. -/
namespace SB
open PySem PySem.Spec PyProof.Rows L2

def WS (g : G0) (W : WX) (ρ : Nat → Addr) (st : Sto) (H : Hp) (r : SR) (D : Ends) : Prop :=
  match r with
  | .nx en' st' => ∀ ρ' H' σ', Ext ρ st.length H ρ' st'.length H' → RS g ρ' st' H' → REn g ρ' st'.length H' en' σ' → D.nx σ' H'
  | .bk en' st' => ∀ ρ' H' σ', Ext ρ st.length H ρ' st'.length H' → RS g ρ' st' H' → REn g ρ' st'.length H' en' σ' → D.bk σ' H'
  | .ct en' st' => ∀ ρ' H' σ', Ext ρ st.length H ρ' st'.length H' → RS g ρ' st' H' → REn g ρ' st'.length H' en' σ' → D.ct σ' H'
  | .rt a st' => ∀ ρ' H' v, Ext ρ st.length H ρ' st'.length H' → RS g ρ' st' H' → RV g ρ' st'.length H' a v → D.rt v H'
  | .ex e en' st' => ∀ ρ' H' σ' d, Ext ρ st.length H ρ' st'.length H' → RS g ρ' st' H' → REn g ρ' st'.length H' en' σ' → RX g ρ' st'.length H' e d → W (.ref (g.cl e.cls)) d σ' H'
  | .bad => False
def TSm (g : G0) (W : WX) (B : Sm) : TS := fun D σ H => ∃ ρ st en, RS g ρ st H ∧ REn g ρ st.length H en σ ∧ WS g W ρ st H (B en st) D
def bindS {α : Type} (r : Res α) (en : En) (k : α → Sto → SR) : SR := match r with
  | .ok a st => k a st
  | .exc e st => .ex e en st
  | .bad => .bad
section
variable {g : G0} {W : WX} {σ : L2.St} {H H1 : Hp} {ρ ρ1 : Nat → Addr} {st st1 : Sto} {en : En} {D : Ends}
theorem WS.ext {r : SR} (h : WS g W ρ st H r D) (x : Ext ρ st.length H ρ1 st1.length H1) : WS g W ρ1 st1 H1 r D := by
  cases r with
  | nx en' st' => exact fun ρ' H' σ' e r n => h ρ' H' σ' (x.trans e) r n
  | bk en' st' => exact fun ρ' H' σ' e r n => h ρ' H' σ' (x.trans e) r n
  | ct en' st' => exact fun ρ' H' σ' e r n => h ρ' H' σ' (x.trans e) r n
  | rt a st' => exact fun ρ' H' σ' e r n => h ρ' H' σ' (x.trans e) r n
  | ex e en' st' => exact fun ρ' H' σ' d e r n => h ρ' H' σ' d (x.trans e) r n
  | bad => exact h
theorem bindS_wp {α : Type} {r : Res α} {k : α → Sto → SR} (h : WS g W ρ st H (bindS r en k) D) (rs : RS g ρ st H) (e : REn g ρ st.length H en σ) :
    Wp g ρ st H r (fun a ρ1 st1 H1 => WS g W ρ1 st1 H1 (k a st1) D) (Wx g W σ) := by
  cases r with
  | ok a st1 => exact fun ρ1 H1 x r1 => WS.ext h x
  | exc a st1 => exact fun ρ1 H1 x r1 d rx => h ρ1 H1 σ d x r1 (e.ext x rs) rx
  | bad => exact h
theorem seqES {m : Em} {k : PV → Sto → SR} (r : RS g ρ st H) (e : REn g ρ st.length H en σ) (h : WS g W ρ st H (bindS (m en st) en k) D) :
    TEm g W m σ H fun v H1 => ∃ a ρ1 st1, RS g ρ1 st1 H1 ∧ REn g ρ1 st1.length H1 en σ ∧ RV g ρ1 st1.length H1 a v ∧ Ext ρ st.length H ρ1 st1.length H1 ∧ WS g W ρ1 st1 H1 (k a st1) D :=
  ⟨ρ, st, en, r, e, (bindS_wp h r e).mono (fun a ρ1 st1 H1 x1 r1 q v rv => ⟨a, ρ1, st1, r1, e.ext x1 r, rv, x1, q⟩) fun _ _ _ _ _ _ q => q⟩
theorem seqTS {m : Tm} {k : Bool → Sto → SR} (r : RS g ρ st H) (e : REn g ρ st.length H en σ) (h : WS g W ρ st H (bindS (m en st) en k) D) :
    TTm g W m σ H fun a H1 => ∃ ρ1 st1, RS g ρ1 st1 H1 ∧ REn g ρ1 st1.length H1 en σ ∧ Ext ρ st.length H ρ1 st1.length H1 ∧ WS g W ρ1 st1 H1 (k a st1) D :=
  ⟨ρ, st, en, r, e, (bindS_wp h r e).mono (fun a ρ1 st1 H1 x1 r1 q => ⟨ρ1, st1, r1, e.ext x1 r, x1, q⟩) fun _ _ _ _ _ _ q => q⟩
theorem seqAS {m : Am} {k : List PV → Sto → SR} (r : RS g ρ st H) (e : REn g ρ st.length H en σ) (h : WS g W ρ st H (bindS (m en st) en k) D) :
    TAm g W m σ H fun v H1 => ∃ a ρ1 st1, RS g ρ1 st1 H1 ∧ REn g ρ1 st1.length H1 en σ ∧ RVs g ρ1 st1.length H1 a v ∧ Ext ρ st.length H ρ1 st1.length H1 ∧ WS g W ρ1 st1 H1 (k a st1) D :=
  ⟨ρ, st, en, r, e, (bindS_wp h r e).mono (fun a ρ1 st1 H1 x1 r1 q v rv => ⟨a, ρ1, st1, r1, e.ext x1 r, rv, x1, q⟩) fun _ _ _ _ _ _ q => q⟩
/-- here and now -/
theorem WS.nx (r : RS g ρ st H) {en' : En} {σ' : L2.St} (e : REn g ρ st.length H en' σ') (h : WS g W ρ st H (.nx en' st) D) : D.nx σ' H := h ρ H σ' .refl r e
theorem WS.rt (r : RS g ρ st H) {a : PV} {v : V} (rv : RV g ρ st.length H a v) (h : WS g W ρ st H (.rt a st) D) : D.rt v H := h ρ H v .refl r rv
theorem WS.mono {r : SR} {D' : Ends} (h : WS g W ρ st H r D) (h1 : ∀ σ H, D.nx σ H → D'.nx σ H) (h2 : ∀ v H, D.rt v H → D'.rt v H) (h3 : ∀ σ H, D.bk σ H → D'.bk σ H) (h4 : ∀ σ H, D.ct σ H → D'.ct σ H) : WS g W ρ st H r D' := by
  cases r with
  | nx en' st' => exact fun ρ' H' σ' e r n => h1 _ _ (h ρ' H' σ' e r n)
  | bk en' st' => exact fun ρ' H' σ' e r n => h3 _ _ (h ρ' H' σ' e r n)
  | ct en' st' => exact fun ρ' H' σ' e r n => h4 _ _ (h ρ' H' σ' e r n)
  | rt a st' => exact fun ρ' H' σ' e r n => h2 _ _ (h ρ' H' σ' e r n)
  | ex e en' st' => exact h
  | bad => exact h
end

def sSet (i : Nat) (m : Em) : Sm := fun en st => bindS (m en st) en fun a st1 => .nx (en.set i (some a)) st1
def sRet (m : Em) : Sm := fun en st => bindS (m en st) en fun a st1 => .rt a st1
def sRetN : Sm := fun _ st => .rt (.d .none) st
def sDo (m : Em) : Sm := fun en st => bindS (m en st) en fun _ st1 => .nx en st1
def sNop : Sm := fun en st => .nx en st
def sBreak : Sm := fun en st => .bk en st
def sCont : Sm := fun en st => .ct en st
def sIf (t : Tm) (a b : Sm) : Sm := fun en st => bindS (t en st) en fun k st1 => match k with
  | true => a en st1
  | false => b en st1
def SR.then (r : SR) (b : Sm) : SR := match r with
  | .nx en st => b en st
  | .rt a st => .rt a st
  | .bk en st => .bk en st
  | .ct en st => .ct en st
  | .ex e en st => .ex e en st
  | .bad => .bad
def sSeq (a b : Sm) : Sm := fun en st => (a en st).then b
section
variable {X : Cx} {g : G0} {W : WX} {pos : Pos} {e : Expr} {m : Em} {s : Stmt} {ss : List Stmt} {B B' : Sm}
theorem s_set {i : Nat} {x : Str} {pos' : Pos} (hN : X.N.Nodup) (hi : X.N[i]? = some x) (hx : Loc X.env.scope x) (he : PE X e (TEm g W m)) (hs : swapsWith e (some (.Name x pos')) pos.line X.env = pure false := by rfl) (hf : X.fn x = true ∨ X.env.scope.names.lookup x = some .local := by first | exact .inl rfl | exact .inr rfl | assumption) :
    PS X (.Assign [.Name x pos'] e pos) (TSm g W (sSet i m)) := by
  refine (ps_set hN hi hx he hs hf).imp fun D σ H ⟨ρ, st, en, r, e, w⟩ => ?_
  refine (seqES r e w).mono fun v H1 ⟨a, ρ1, st1, r1, e1, ra, x1, w1⟩ => ?_
  exact w1.nx r1 (e1.set ra)
theorem s_ret (he : PE X e (TEm g W m)) : PS X (.Return (some e) pos) (TSm g W (sRet m)) := by
  refine (ps_ret he).imp fun D σ H ⟨ρ, st, en, r, e, w⟩ => ?_
  exact (seqES r e w).mono fun v H1 ⟨a, ρ1, st1, r1, e1, ra, x1, w1⟩ => w1.rt r1 ra
theorem s_retN : PS X (.Return none pos) (TSm g W sRetN) := ps_retN.imp fun D σ H ⟨ρ, st, en, r, e, w⟩ => WS.rt (a := .d .none) r (DR.non) w
theorem s_do (he : PE X e (TEm g W m)) (hs : swapsWith e none pos.line X.env = pure false := by rfl) : PS X (.Expr e pos) (TSm g W (sDo m)) := by
  refine (ps_expr he hs).imp fun D σ H ⟨ρ, st, en, r, e, w⟩ => ?_
  exact (seqES r e w).mono fun v H1 ⟨a, ρ1, st1, r1, e1, ra, x1, w1⟩ => w1.nx r1 e1
theorem s_doc {x : Str} {j pos'} : PS X (.Expr (.Constant (.str x) j pos) pos') (TSm g W sNop) := ps_doc.imp fun D σ H ⟨ρ, st, en, r, e, w⟩ => WS.nx r e w
theorem s_pass : PS X (.Pass pos) (TSm g W sNop) := ps_pass.imp fun D σ H ⟨ρ, st, en, r, e, w⟩ => WS.nx r e w
theorem s_break : PS X (.Break pos) (TSm g W sBreak) := ps_break.imp fun D σ H ⟨ρ, st, en, r, e, w⟩ => w ρ H σ .refl r e
theorem s_cont : PS X (.Continue pos) (TSm g W sCont) := ps_continue.imp fun D σ H ⟨ρ, st, en, r, e, w⟩ => w ρ H σ .refl r e
theorem s_if {c : Expr} {a b : List Stmt} {t : Tm} (hc : PT X c (TTm g W t)) (ha : PSs X a (TSm g W B)) (hb : PSs X b (TSm g W B')) : PS X (.If c a b pos) (TSm g W (sIf t B B')) := by
  refine (ps_if hc ha hb).imp fun D σ H ⟨ρ, st, en, r, e, w⟩ => ?_
  refine (seqTS r e w).mono fun k H1 ⟨ρ1, st1, r1, e1, x1, w1⟩ => ?_
  cases k with
  | true => rw [if_pos rfl]; exact ⟨_, _, _, r1, e1, w1⟩
  | false => rw [if_neg Bool.false_ne_true]; exact ⟨_, _, _, r1, e1, w1⟩
theorem then_ws {g : G0} {W : WX} {D : Ends} {H : Hp} {ρ : Nat → Addr} {st : Sto} {r : SR} (h : WS g W ρ st H (r.then B) D) : WS g W ρ st H r { D with nx := TSm g W B D } := by
  cases r with
  | nx en' st' => exact fun ρ' H' σ' e r n => ⟨ρ', st', en', r, n, WS.ext h e⟩
  | bk en' st' => exact h
  | ct en' st' => exact h
  | rt a st' => exact h
  | ex e en' st' => exact h
  | bad => exact h
theorem ss_nil : PSs X [] (TSm g W sNop) := pss_nil.imp fun D σ H ⟨ρ, st, en, r, e, w⟩ => WS.nx r e w
theorem ss_one (h : PS X s (TSm g W B)) : PSs X [s] (TSm g W B) := pss_one h
theorem ss_cons (h1 : PS X s (TSm g W B)) (h2 : PSs X ss (TSm g W B')) : PSs X (s :: ss) (TSm g W (sSeq B B')) :=
  (pss_cons h1 h2).imp fun D σ H ⟨ρ, st, en, r, e, w⟩ => ⟨ρ, st, en, r, e, then_ws w⟩
/-- what comes behind a return is never come to -/
theorem ss_ret (he : PE X e (TEm g W m)) : PSs X (.Return (some e) pos :: ss) (TSm g W (sRet m)) := by
  refine (pss_cons (s_ret (pos := pos) he) pss_never).imp fun D σ H ⟨ρ, st, en, r, e, w⟩ => ⟨ρ, st, en, r, e, ?_⟩
  unfold sRet at w ⊢
  cases q : m en st with
  | ok a st1 => rw [q] at w; exact w
  | exc a st1 => rw [q] at w; exact w
  | bad => rw [q] at w; exact w

/-! ### loops -/
/-- an iterator of these values -/
def Walk (g : G0) (J : It) (xs : List PV) (ρ : Nat → Addr) (st : Sto) (H : Hp) : Prop :=
  ∀ ρ' st' H', Ext ρ st.length H ρ' st'.length H' → RS g ρ' st' H' →
    (∀ (i : Nat) (x : PV), xs[i]? = some x → J.go i H' ∧ ∀ v H'', J.yld i H' v H'' → Ext ρ' st'.length H' ρ' st'.length H'' ∧ RS g ρ' st' H'' ∧ RV g ρ' st'.length H'' x v) ∧ J.stop xs.length H'
def TIm (g : G0) (W : WX) (m : Am) : TI := fun σ H R => ∃ ρ st en, RS g ρ st H ∧ REn g ρ st.length H en σ ∧ Wp g ρ st H (m en st) (fun xs ρ' st' H' => ∀ J, Walk g J xs ρ' st' H' → R J H') (Wx g W σ)
/-- a target: how it changes the frame -/
abbrev Tgt := PV → En → Option En
def TGm (g : G0) (t : Tgt) : TG := fun v σ H Q => ∃ ρ st en a en', RS g ρ st H ∧ REn g ρ st.length H en σ ∧ RV g ρ st.length H a v ∧ t a en = some en' ∧ ∀ σ', REn g ρ st.length H en' σ' → Q σ' H
def tName (i : Nat) : Tgt := fun a en => some (en.set i (some a))
theorem g_name {i : Nat} {x : Str} (hN : X.N.Nodup) (hi : X.N[i]? = some x) (hx : Loc X.env.scope x) (hf : X.fn x = true ∨ X.env.scope.names.lookup x = some .local := by first | exact .inl rfl | exact .inr rfl | assumption) : PG X (.Name x pos) (TGm g (tName i)) := by
  refine ⟨fun pins s σ H v u Q I r ⟨ρ, st, en, a, en', rs, e, ra, ht, q⟩ => ?_⟩
  cases ht
  exact (pg_name hN hi hx hf).run pins s σ H v u Q I r (q _ (e.set ra))
/-- a tuple of names: a tuple of as many -/
def tNames : List Nat → List PyData → En → Option En
  | [], [], en => some en
  | i :: is, x :: xs, en => tNames is xs (en.set i (some (.d x)))
  | _, _, _ => none
def tTup (is : List Nat) : Tgt := fun a en => match a with
  | .d (.tuple xs) => tNames is xs en
  | _ => none
theorem tNames_len : ∀ (is : List Nat) (xs : List PyData) (en : En) {en' : En}, tNames is xs en = some en' → xs.length = is.length
  | [], [], _, _, _ => rfl
  | [], _ :: _, _, _, h => by cases h
  | _ :: _, [], _, _, h => by cases h
  | i :: is, y :: ys, en, _, h => congrArg Nat.succ (tNames_len is ys (en.set i (some (.d y))) h)
def TGs (g : G0) (is : List Nat) : TGs := fun vs σ H Q => ∃ ρ st en xs en', RS g ρ st H ∧ REn g ρ st.length H en σ ∧ DRs g.K (Bd ρ st.length) H vs xs ∧ tNames is xs en = some en' ∧ ∀ σ', REn g ρ st.length H en' σ' → Q σ' H
theorem gs_nil : PGs X [] (TGs g []) := by
  refine ⟨fun pins s σ H vs us Q I r ⟨ρ, st, en, xs, en', rs, e, ra, ht, q⟩ => ?_⟩
  cases xs with
  | cons x xs => cases ht
  | nil =>
    cases ht
    cases ra
    exact pgs_nil.run pins s σ H [] us Q I r ⟨rfl, q _ e⟩
theorem gs_cons {i : Nat} {is : List Nat} {x : Str} {es : List Expr} (hN : X.N.Nodup) (hi : X.N[i]? = some x) (hx : Loc X.env.scope x) (h2 : PGs X es (TGs g is)) (hf : X.fn x = true ∨ X.env.scope.names.lookup x = some .local := by first | exact .inl rfl | exact .inr rfl | assumption)
    (hs : (assignEach (.Name x pos :: es) X.env).map (·.2) = assign (.Name x pos) X.env :: (assignEach es X.env).map (·.2) := by rfl) : PGs X (.Name x pos :: es) (TGs g (i :: is)) := by
  refine ⟨fun pins s σ H vs us Q I r ⟨ρ, st, en, xs, en', rs, e, ra, ht, q⟩ => ?_⟩
  cases xs with
  | nil => cases ht
  | cons y ys =>
    cases ra with
    | cons r1 r2 =>
      refine (pgs_cons (pg_name hN hi hx hf) h2 hs).run pins s σ H _ us Q I r ⟨_, _, rfl, ?_⟩
      exact ⟨ρ, st, _, ys, en', rs, e.set (a := .d y) r1, r2, ht, q⟩
theorem g_tup {es : List Expr} {k : Nat} {is : List Nat} (hK : g.K = X.K) (hc : X.calm = true) (h : PGs X es (TGs g is)) (hn : (assignEach es X.env).length = is.length := by rfl) (hst : (assignEach es X.env).findIdx? (·.1) = none := by rfl) : PG X (.Tuple es k pos) (TGm g (tTup is)) := by
  refine ⟨fun pins s σ H v u Q I r ⟨ρ, st, en, a, en', rs, e, ra, ht, q⟩ => ?_⟩
  unfold tTup at ht
  split at ht
  · rename_i xs
    cases (show DR g.K _ H v (.tuple xs) from ra) with
    | tup h1 h2 =>
      refine (pg_tup hc h hn hst).run pins s σ H _ u Q I r ⟨_, _, rfl, by rw [← hK]; exact h1, ?_, ρ, st, en, xs, en', rs, e, h2, ht, q⟩
      rw [h2.length]
      exact tNames_len _ _ _ ht
  · cases ht
/-- the turns of a for -/
def forL (t : Tgt) (B : Sm) : List PV → Sm
  | [], en, st => .nx en st
  | x :: xs, en, st => match t x en with
    | none => .bad
    | some en1 => match B en1 st with
      | .nx en2 st2 => forL t B xs en2 st2
      | .ct en2 st2 => forL t B xs en2 st2
      | .bk en2 st2 => .nx en2 st2
      | .rt a st2 => .rt a st2
      | .ex e en2 st2 => .ex e en2 st2
      | .bad => .bad
def sFor (it : Am) (t : Tgt) (B : Sm) : Sm := fun en st => bindS (it en st) en fun xs st1 => forL t B xs en st1
theorem s_for {tg iter : Expr} {body : List Stmt} {it : Am} {t : Tgt} (hp : PassesOwn (model X.prog X.w) X.A X.env X.xe) (hc : X.calm = true) (hi : PI X tg iter (TIm g W it)) (hg : PG X tg (TGm g t)) (hb : PSs X body (TSm g W B))
    (hs : ∀ x, foldedSetIterable iter X.env x = pure x := by intro _; rfl) : PS X (.For tg iter body [] pos) (TSm g W (sFor it t B)) := by
  refine (ps_for hp hc hi hg hb hs).imp fun D σ H ⟨ρ, st, en, r, e, w⟩ => ?_
  refine ⟨ρ, st, en, r, e, (bindS_wp w r e).mono (fun xs ρ1 st1 H1 x1 r1 w1 J wk => ?_) fun _ _ _ _ _ _ q => q⟩
  have e1 := e.ext x1 r
  refine ⟨fun i m σ' H' => m = xs.length - i ∧ i ≤ xs.length ∧ ∃ ρ' st' en', Ext ρ1 st1.length H1 ρ' st'.length H' ∧ RS g ρ' st' H' ∧ REn g ρ' st'.length H' en' σ' ∧ WS g W ρ' st' H' (forL t B (xs.drop i) en' st') D,
    ⟨xs.length, by simp, Nat.zero_le _, ρ1, st1, en, .refl, r1, e1, w1⟩, ?_⟩
  rintro i m σ' H' ⟨rfl, hi, ρ', st', en', x', r', e', w'⟩
  obtain ⟨wg, wstop⟩ := wk ρ' st' H' x' r'
  by_cases hlt : i < xs.length
  · have hx : xs[i]? = some xs[i] := by simp [hlt]
    obtain ⟨hgo, hy⟩ := wg i xs[i] hx
    refine .inr ⟨hgo, fun σ2 H2 => ∃ ρ2 st2 en2, Ext ρ1 st1.length H1 ρ2 st2.length H2 ∧ RS g ρ2 st2 H2 ∧ REn g ρ2 st2.length H2 en2 σ2 ∧ WS g W ρ2 st2 H2 (forL t B (xs.drop (i + 1)) en2 st2) D,
      fun σ2 H2 h2 => ⟨xs.length - (i + 1), by omega, rfl, hlt, h2⟩, fun v H2 y => ?_⟩
    obtain ⟨x2, r2, rv⟩ := hy v H2 y
    have ed : xs.drop i = xs[i] :: xs.drop (i + 1) := List.drop_eq_getElem_cons hlt
    rw [ed] at w'
    have w2 := w'.ext x2
    unfold forL at w2
    cases q : t xs[i] en' with
    | none => rw [q] at w2; exact w2.elim
    | some en1 =>
      rw [q] at w2
      refine ⟨ρ', st', en', xs[i], en1, r2, e'.ext x2 r', rv, q, fun σ3 e3 => ⟨ρ', st', en1, r2, e3, ?_⟩⟩
      have x3 := x'.trans x2
      simp only at w2
      cases q2 : B en1 st' with
      | nx en2 st2 =>
        rw [q2] at w2
        exact fun ρ4 H4 σ4 x4 r4 e4 => ⟨ρ4, st2, en2, x3.trans x4, r4, e4, WS.ext w2 x4⟩
      | ct en2 st2 =>
        rw [q2] at w2
        exact fun ρ4 H4 σ4 x4 r4 e4 => ⟨ρ4, st2, en2, x3.trans x4, r4, e4, WS.ext w2 x4⟩
      | bk en2 st2 => rw [q2] at w2; exact w2
      | rt a st2 => rw [q2] at w2; exact w2
      | ex a en2 st2 => rw [q2] at w2; exact w2
      | bad => rw [q2] at w2; exact w2
  · have ei : i = xs.length := by omega
    subst ei
    refine .inl ⟨wstop, ?_⟩
    rw [List.drop_length] at w'
    exact WS.nx r' e' w'
/-- a while, at most so many turns -/
def whL (t : Tm) (B : Sm) : Nat → Sm
  | 0, _, _ => .bad
  | n + 1, en, st => bindS (t en st) en fun k st1 => match k with
    | false => .nx en st1
    | true => match B en st1 with
      | .nx en2 st2 => whL t B n en2 st2
      | .ct en2 st2 => whL t B n en2 st2
      | .bk en2 st2 => .nx en2 st2
      | .rt a st2 => .rt a st2
      | .ex e en2 st2 => .ex e en2 st2
      | .bad => .bad
def sWhile (n : Nat) (t : Tm) (B : Sm) : Sm := whL t B n
theorem s_while {c : Expr} {body : List Stmt} {t : Tm} {n : Nat} (hp : PassesOwn (model X.prog X.w) X.A X.env X.xe) (hc : PT X c (TTm g W t)) (hb : PSs X body (TSm g W B)) : PS X (.While c body [] pos) (TSm g W (sWhile n t B)) := by
  refine (ps_while hp hc hb).imp fun D σ H ⟨ρ, st, en, r, e, w⟩ => ?_
  refine ⟨fun m σ' H' => ∃ ρ' st' en', RS g ρ' st' H' ∧ REn g ρ' st'.length H' en' σ' ∧ WS g W ρ' st' H' (whL t B m en' st') D, ⟨n, ρ, st, en, r, e, w⟩, ?_⟩
  rintro m σ' H' ⟨ρ', st', en', r', e', w'⟩
  cases m with
  | zero => exact w'.elim
  | succ m =>
    refine (seqTS r' e' w').mono fun k H1 ⟨ρ1, st1, r1, e1, x1, w1⟩ => ?_
    cases k with
    | false => rw [if_neg Bool.false_ne_true]; exact WS.nx r1 e1 w1
    | true =>
      rw [if_pos rfl]
      refine ⟨fun σ2 H2 => ∃ ρ2 st2 en2, RS g ρ2 st2 H2 ∧ REn g ρ2 st2.length H2 en2 σ2 ∧ WS g W ρ2 st2 H2 (whL t B m en2 st2) D, fun σ2 H2 h2 => ⟨m, Nat.lt_succ_self m, h2⟩, ρ1, st1, en', r1, e1, ?_⟩
      have w2 : WS g W ρ1 st1 H1 (match B en' st1 with
        | .nx en2 st2 => whL t B m en2 st2
        | .ct en2 st2 => whL t B m en2 st2
        | .bk en2 st2 => .nx en2 st2
        | .rt a st2 => .rt a st2
        | .ex e en2 st2 => .ex e en2 st2
        | .bad => .bad) D := w1
      cases q2 : B en' st1 with
      | nx en2 st2 =>
        rw [q2] at w2
        exact fun ρ4 H4 σ4 x4 r4 e4 => ⟨ρ4, st2, en2, r4, e4, WS.ext w2 x4⟩
      | ct en2 st2 =>
        rw [q2] at w2
        exact fun ρ4 H4 σ4 x4 r4 e4 => ⟨ρ4, st2, en2, r4, e4, WS.ext w2 x4⟩
      | bk en2 st2 => rw [q2] at w2; exact w2
      | rt a st2 => rw [q2] at w2; exact w2
      | ex a en2 st2 => rw [q2] at w2; exact w2
      | bad => rw [q2] at w2; exact w2
end
end SB

/-! What is walked, slices, built-ins by name, calls of the text's defs, raise; a def by its body. -/
namespace SB
open PySem PySem.Spec PyProof.Rows L2

section
variable {X : Cx} {g : G0} {W : WX} {pos : Pos} {tg e : Expr} {es : List Expr} {m : Em} {t : Am}
/-! ### what is walked -/
def itM (m : Em) : Am := fun en st => (m en st).bind fun a st1 => match a with
  | .d (.tuple xs) => .ok (xs.map .d) st1
  | .d (.list xs) => .ok (xs.map .d) st1
  | _ => .bad
theorem walk_fix {J : It} {xs : List PyData} {ρ : Nat → Addr} {st : Sto} {H : Hp} (r : RS g ρ st H)
    (hgo : ∀ (B : Addr → Prop) (H' : Hp), Stay g.K (Bd ρ st.length) B H H' → (∀ (i : Nat) (x : PyData), xs[i]? = some x → J.go i H' ∧ ∀ v H'', J.yld i H' v H'' → H'' = H' ∧ DR g.K B H' v x) ∧ J.stop xs.length H') : Walk g J (xs.map .d) ρ st H := by
  intro ρ' st' H' x r'
  obtain ⟨h1, h2⟩ := hgo _ H' (x.stay r)
  refine ⟨fun i p e => ?_, by rw [List.length_map]; exact h2⟩
  rw [List.getElem?_map] at e
  cases q : xs[i]? with
  | none => rw [q] at e; cases e
  | some y =>
    rw [q] at e
    cases e
    obtain ⟨g1, g2⟩ := h1 i y q
    refine ⟨g1, fun v H'' y => ?_⟩
    obtain ⟨e1, e2⟩ := g2 v H'' y
    subst e1
    exact ⟨.refl, r', e2⟩
theorem walk_list {a : Addr} {vs : List V} {xs : List PyData} {ρ : Nat → Addr} {st : Sto} {H : Hp} (r : RS g ρ st H) (h1 : SqF g.K (Bd ρ st.length) H a vs) (h2 : DRs g.K (Bd ρ st.length) H vs xs) : Walk g (Itl g.K a) (xs.map .d) ρ st H :=
  walk_fix r fun B H' s => by
    have h1' := s.lst h1
    have h2' := DRs.stay s _ _ h2
    refine ⟨fun i x e => ?_, ⟨vs, h1'.seq, by rw [h2'.length]; exact Nat.le_refl _⟩⟩
    obtain ⟨v, e1, e2⟩ := h2'.get e
    refine ⟨⟨vs, v, h1'.seq, e1⟩, fun u H'' ⟨q1, q2⟩ => ⟨q1, ?_⟩⟩
    have := q2 vs (q1 ▸ h1'.seq)
    rw [e1] at this
    cases this
    exact e2
theorem walk_tup {a : Addr} {vs : List V} {xs : List PyData} {ρ : Nat → Addr} {st : Sto} {H : Hp} (r : RS g ρ st H) (h1 : SqT g.K H a vs) (h2 : DRs g.K (Bd ρ st.length) H vs xs) : Walk g (Itt g.K a) (xs.map .d) ρ st H :=
  walk_fix r fun B H' s => by
    have h1' := s.tup h1
    have h2' := DRs.stay s _ _ h2
    refine ⟨fun i x e => ?_, ⟨vs, h1', by rw [h2'.length]; exact Nat.le_refl _⟩⟩
    obtain ⟨v, e1, e2⟩ := h2'.get e
    refine ⟨⟨vs, v, h1', e1⟩, fun u H'' ⟨q1, q2⟩ => ⟨q1, ?_⟩⟩
    have := q2 vs (q1 ▸ h1')
    rw [e1] at this
    cases this
    exact e2
theorem i_seq (hg : g.K = X.K) (he : PE X e (TEm g W m)) : PI X tg e (TIm g W (itM m)) := by
  refine ⟨fun pins s σ H R I ⟨ρ, st, en, r, e', w⟩ => ?_⟩
  refine thn (he.run pins s σ H _ I (seqE wid r e' w)) fun v s1 ⟨x, H1, I1, r1, q1⟩ => ?_
  obtain ⟨a, ρ1, st1, rs1, e1, ra, x1, w1⟩ := q1
  have fin : ∀ {b : Addr}, b ∈ [s1.heap.objs.size] → FpOk X pins H1 b := fun {b} hb => by
    have e : b = s1.heap.objs.size := by simpa using hb
    subst e
    exact I1.fpOk (Nat.le_refl _) (I1.hok.fresh (Nat.le_refl _))
  split at w1
  · rename_i xs
    cases (show DR g.K _ H1 x (.tuple xs) from ra) with
    | tup h1 h2 =>
      cases r1
      have hw := Wp.ok rs1 w1 _ (walk_tup rs1 h1 h2)
      rw [hg] at h1 hw
      obtain ⟨its, rv, p, hz⟩ := I1.tuple h1
      refine wpAny_pyIter_tuple (show s1.heap.IsTuple _ its.toArray from p) ?_
      exact ⟨s1.heap.objs.size, [s1.heap.objs.size], _, _, H1, rfl, I1.kept (t' := s1.toks) fun b o e => Heap.get?_push_of_some _ e, turn_tuple _ _, ⟨_, Heap.get?_push_size _ rfl, rfl, rfl⟩, fun b hb => fin hb, hw⟩
  · rename_i xs
    cases (show DR g.K _ H1 x (.list xs) from ra) with
    | lst h1 h2 =>
      cases r1
      have hw := Wp.ok rs1 w1 _ (walk_list rs1 h1 h2)
      have h1' := h1.seq
      rw [hg] at h1' hw
      obtain ⟨its, rv, p, hz⟩ := I1.list h1'
      refine wpAny_pyIter_list p.isList ?_
      exact ⟨s1.heap.objs.size, [s1.heap.objs.size], _, _, H1, rfl, I1.kept (t' := s1.toks) fun b o e => Heap.get?_push_of_some _ e, turn_list _ _, ⟨_, Heap.get?_push_size _ rfl, rfl, rfl⟩, fun b hb => fin hb, hw⟩
  · exact w1.elim
def rngL (lo : Int) (n : Nat) : List PyData := (List.range n).map fun k => .int (lo + (k : Nat))
def rng1M (t : Am) : Am := fun en st => (t en st).bind fun as st1 => match as with
  | [.d (.int j)] => if -(2 ^ 62) ≤ j ∧ j < 2 ^ 62 then .ok ((rngL 0 j.toNat).map .d) st1 else .bad
  | _ => .bad
def rng2M (t : Am) : Am := fun en st => (t en st).bind fun as st1 => match as with
  | [.d (.int i), .d (.int j)] => if -(2 ^ 62) ≤ i ∧ i < 2 ^ 62 ∧ -(2 ^ 62) ≤ j ∧ j < 2 ^ 62 then .ok ((rngL i (j - i).toNat).map .d) st1 else .bad
  | _ => .bad
theorem walk_rng {lo : Int} {n : Nat} {ρ : Nat → Addr} {st : Sto} {H : Hp} (r : RS g ρ st H) : Walk g (Itr lo n) ((rngL lo n).map .d) ρ st H :=
  walk_fix r fun B H' s => by
    have hl : (rngL lo n).length = n := by simp [rngL]
    refine ⟨fun i x e => ?_, ?_⟩
    · have hi : i < n := by
        have := (List.getElem?_eq_some_iff.mp e).1
        rw [hl] at this
        exact this
      refine ⟨hi, fun u H'' ⟨q1, q2⟩ => ⟨q1, ?_⟩⟩
      subst q2
      have : x = .int (lo + (i : Nat)) := by
        unfold rngL at e
        rw [List.getElem?_map, List.getElem?_range hi] at e
        exact (Option.some.inj e).symm
      subst this
      exact .int _
    · rw [hl]
      exact Nat.le_refl n
theorem i_rng1 {a : Expr} {p : Pos} (hg : Gl X "range") (hm : X.mg "range" = none) (ha : PA X [a] (TAm g W t)) (hs : starEach [a] X.env = [(false, eval a X.env)] := by rfl) : PI X tg (.Call (.Name "range" p) [a] [] pos) (TIm g W (rng1M t)) := by
  refine ⟨fun pins s σ H R I ⟨ρ, st, en, r, e', w⟩ => (pi_range1 hg hm ha hs).run pins s σ H R I ?_⟩
  refine (seqA wid r e' w).mono fun vs H1 ⟨as, ρ1, st1, r1, e1, ra, x1, w1⟩ => ?_
  split at w1
  · split at w1
    · rename_i j hj
      cases ra with
      | cons r2 r3 =>
        cases r3
        cases (show DR g.K _ H1 _ (.int j) from r2)
        exact ⟨j, rfl, hj.1, hj.2, Wp.ok r1 w1 _ (walk_rng r1)⟩
    · exact w1.elim
  · exact w1.elim
theorem i_rng2 {a b : Expr} {p : Pos} (hg : Gl X "range") (hm : X.mg "range" = none) (ha : PA X [a, b] (TAm g W t)) (hs : starEach [a, b] X.env = [(false, eval a X.env), (false, eval b X.env)] := by rfl) (hs2 : starEach [b] X.env = [(false, eval b X.env)] := by rfl) :
    PI X tg (.Call (.Name "range" p) [a, b] [] pos) (TIm g W (rng2M t)) := by
  refine ⟨fun pins s σ H R I ⟨ρ, st, en, r, e', w⟩ => (pi_range2 hg hm ha hs hs2).run pins s σ H R I ?_⟩
  refine (seqA wid r e' w).mono fun vs H1 ⟨as, ρ1, st1, r1, e1, ra, x1, w1⟩ => ?_
  split at w1
  · split at w1
    · rename_i i j hj
      cases ra with
      | cons r2 r3 => cases r3 with
        | cons r4 r5 =>
          cases r5
          cases (show DR g.K _ H1 _ (.int i) from r2)
          cases (show DR g.K _ H1 _ (.int j) from r4)
          exact ⟨i, j, rfl, hj, Wp.ok r1 w1 _ (walk_rng r1)⟩
    · exact w1.elim
  · exact w1.elim

/-! ### slices -/
def cutL {α : Type} (xs : List α) (lo hi : Option Int) : List α := (xs.drop (HT.sIx xs.length 0 lo)).take (HT.sIx xs.length xs.length hi - HT.sIx xs.length 0 lo)
def oPart (o : Option Em) : En → M (Option Int) := match o with
  | none => fun _ st => .ok none st
  | some m => fun en st => (m en st).bind fun a st1 => match a with
    | .d (.int i) => .ok (some i) st1
    | _ => .bad
def TOm (g : G0) (W : WX) (m : En → M (Option Int)) : TO := fun σ H Q => ∃ ρ st en, RS g ρ st H ∧ REn g ρ st.length H en σ ∧ Wp g ρ st H (m en st) (fun o _ _ H' => Q o H') (Wx g W σ)
theorem _root_.L2.PO.imp {X : Cx} {e : Option Expr} {t t' : TO} (h : PO X e t) (i : ∀ σ H Q, t' σ H Q → t σ H Q) : PO X e t' := ⟨fun pins s σ H Q I q => h.run pins s σ H Q I (i σ H Q q)⟩
theorem o_none : PO X none (TOm g W (oPart none)) := po_none.imp fun σ H Q ⟨ρ, st, en, r, e, w⟩ => Wp.ok r w
theorem o_some (he : PE X e (TEm g W m)) : PO X (some e) (TOm g W (oPart (some m))) := (po_some he).imp fun σ H Q ⟨ρ, st, en, r, e, w⟩ => by
  refine (seqE wid r e w).mono fun v H1 ⟨a, ρ1, st1, r1, e1, ra, x1, w1⟩ => ?_
  split at w1
  · cases (show DR g.K _ H1 _ (.int _) from ra)
    exact ⟨_, rfl, Wp.ok r1 w1⟩
  · exact w1.elim
/-- x[lo:hi]: a tuple, a list (a new one, data), a text -/
def cutM : PV → Option Int → Option Int → M PV := fun a lo hi st => match a with
  | .d (.tuple xs) => .ok (.d (.tuple (cutL xs lo hi))) st
  | a => match lstOf st a with
    | some xs => (match datas (cutL xs lo hi) with
      | some ds => .ok (.d (.list ds)) st
      | none => .bad)
    | none => .bad
def rCut (K : PySem.W.Frag) : V → Option Int → Option Int → Hp → VK → Prop := fun x lo hi H Q => rSlA K x lo hi H Q ∨ rSlL K x lo hi H Q
theorem Paired.dropP {α β : Type} {F : α → β → Prop} : ∀ {l₁ : List α} {l₂ : List β} (n : Nat), Paired F l₁ l₂ → Paired F (l₁.drop n) (l₂.drop n)
  | _, _, 0, h => h
  | _, _, _ + 1, .nil => .nil
  | _, _, n + 1, .cons _ t => Paired.dropP n t
theorem Paired.takeP {α β : Type} {F : α → β → Prop} : ∀ {l₁ : List α} {l₂ : List β} (n : Nat), Paired F l₁ l₂ → Paired F (l₁.take n) (l₂.take n)
  | _, _, 0, h => by rw [List.take_zero, List.take_zero]; exact .nil
  | _, _, _ + 1, .nil => .nil
  | _, _, n + 1, .cons a t => .cons a (Paired.takeP n t)
theorem cut_rel {α : Type} {F : α → V → Prop} {xs : List α} {vs : List V} (h : Paired F xs vs) (lo hi : Option Int) : Paired F (cutL xs lo hi) (cutV vs lo hi) := by
  unfold cutL cutV
  rw [h.length]
  exact Paired.takeP _ (Paired.dropP _ h)
theorem cut_whole {α : Type} {xs : List α} {lo hi : Option Int} (h : HT.sIx xs.length 0 lo = 0 ∧ HT.sIx xs.length xs.length hi = xs.length) : cutL xs lo hi = xs := by
  unfold cutL
  rw [h.1, h.2]
  simp
theorem e_cut {a : Expr} {lo hi : Option Expr} {ml mh : En → M (Option Int)} {p2 : Pos} (hg : g.K = X.K) (he : PE X a (TEm g W m)) (hl : PO X lo (TOm g W ml)) (hh : PO X hi (TOm g W mh)) :
    PE X (.Subscript a (.Slice lo hi none p2) pos) (TEm g W fun en st => (m en st).bind fun a st1 => (ml en st1).bind fun l st2 => (mh en st2).bind fun h st3 => cutM a l h st3) := by
  refine (pe_slice (sl_tupA.or sl_list) he hl hh).imp fun σ H Q ⟨ρ, st, en, r, e, w⟩ => ?_
  refine (seqE wid r e w).mono fun v H1 ⟨a, ρ1, st1, r1, e1, ra, x1, w1⟩ => ?_
  refine ⟨ρ1, st1, en, r1, e1, (Wp.bind w1).mono (fun l ρ2 st2 H2 x2 r2 w2 => ?_) fun _ _ _ _ _ _ q => q⟩
  have e2 := e1.ext x2 r1
  refine ⟨ρ2, st2, en, r2, e2, (Wp.bind w2).mono (fun h ρ3 st3 H3 x3 r3 w3 => ?_) fun _ _ _ _ _ _ q => q⟩
  have ra3 := (ra.ext x2 r1).ext x3 r2
  unfold cutM at w3
  split at w3
  · rename_i xs
    cases (show DR g.K _ H3 v (.tuple xs) from ra3) with
    | tup h1 h2 =>
      have hd := DRs.ofp (cut_rel (DRs.paired h2) l h)
      have hl := h2.length
      rw [← hg]
      refine .inl ⟨_, _, rfl, h1, fun hw => ?_, fun hw => newT r3 hd w3⟩
      rw [hl] at hw
      rw [cut_whole hw] at w3
      exact Wp.ok r3 w3 _ (.tup h1 h2)
  · split at w3
    · rename_i xs e4
      split at w3
      · rename_i ds e5
        obtain ⟨a1, vs, rfl, s1, rr⟩ := lstOf_run r3 e4 ra3
        rw [← hg]
        exact .inr ⟨a1, vs, rfl, s1, newL r3 (cut_rel rr l h) e5 w3⟩
      · exact w3.elim
    · exact w3.elim

/-! ### built-ins by name -/
abbrev OpN := List PV → M PV
def CallV (g : G0) (r : List V → Hp → VK → Prop) (op : OpN) : Prop := ∀ (ρ : Nat → Addr) (st : Sto) (H : Hp) (as : List PV) (xs : List V) (Q : VK) (Wf : Ex → (Nat → Addr) → Sto → Hp → Prop), RS g ρ st H → RVs g ρ st.length H as xs → Wp g ρ st H (op as st) (Qv g Q) Wf → r xs H Q
def mCall (op : OpN) (t : Am) : Em := fun en st => (t en st).bind fun as st1 => op as st1
theorem call_run {r : List V → Hp → VK → Prop} {op : OpN} (hv : CallV g r op) : ∀ σ H Q, TEm g W (mCall op t) σ H Q → tCB r (TAm g W t) σ H Q := by
  intro σ H Q ⟨ρ, st, en, rs, e, w⟩
  exact (seqA wid rs e w).mono fun vs H1 ⟨as, ρ1, st1, r1, e1, ra, x1, w1⟩ => hv _ _ _ _ _ _ _ r1 ra w1
theorem e_callB {r : List V → Hp → VK → Prop} {op : OpN} {id : String} {x : Str} {p : Pos} (hv : CallV g r op) (hc : CallR X (.builtin id) r) (hg : Gl X x) (hm : X.mg x = none) (hb : bootBuiltins x = some (.builtin id)) (ha : PA X (e :: es) (TAm g W t)) (hn : x ≠ "__name__" := by decide) (hdb : (x == ("__debug__" : Str)) = false := by decide)
    (he : starEach (e :: es) X.env = (false, eval e X.env) :: starEach es X.env := by rfl) (hpl : (backTo pos (starEach es X.env)).any (·.1) = false := by rfl) : PE X (.Call (.Name x p) (e :: es) [] pos) (TEm g W (mCall op t)) := (pe_callB hc hg hm hb ha hn hdb he hpl).imp (call_run hv)
theorem e_callTy {r : List V → Hp → VK → Prop} {op : OpN} {T : String} {x : Str} {p : Pos} (hv : CallV g r op) (hc : CallR X (.type T) r) (hg : Gl X x) (hm : X.mg x = none) (hb : bootBuiltins x = some (.type T)) (ha : PA X (e :: es) (TAm g W t)) (hn : x ≠ "__name__" := by decide) (hdb : (x == ("__debug__" : Str)) = false := by decide)
    (he : starEach (e :: es) X.env = (false, eval e X.env) :: starEach es X.env := by rfl) (hpl : (backTo pos (starEach es X.env)).any (·.1) = false := by rfl) : PE X (.Call (.Name x p) (e :: es) [] pos) (TEm g W (mCall op t)) := (pe_callTy hc hg hm hb ha hn hdb he hpl).imp (call_run hv)
/-- len -/
def lenM : OpN
  | [.d (.str z)], st => if z.length ≤ sizeLine then .ok (.d (.int z.length)) st else .bad
  | [.d (.tuple xs)], st => .ok (.d (.int xs.length)) st
  | [a], st => (match lstOf st a with
    | some xs => .ok (.d (.int xs.length)) st
    | none => .bad)
  | _, _ => .bad
theorem v_len : CallV g (fun xs H Q => ∃ x n, xs = [x] ∧ LenV g.K x H n ∧ Q (.int n) H) lenM := by
  intro ρ st H as xs Q Wf rs ra w
  unfold lenM at w
  split at w
  · rename_i z
    cases ra with
    | cons r1 r2 =>
      cases r2
      cases (show DR g.K _ H _ (.str z) from r1)
      split at w
      · rename_i hz
        exact ⟨_, _, rfl, ⟨hz, rfl⟩, w.ok rs _ (.int _)⟩
      · exact w.elim
  · rename_i ys
    cases ra with
    | cons r1 r2 =>
      cases r2
      cases (show DR g.K _ H _ (.tuple ys) from r1) with
      | tup h1 h2 => exact ⟨_, _, rfl, .inr ⟨_, h1, rfl⟩, by rw [h2.length]; exact w.ok rs _ (.int _)⟩
  · rename_i a _ _
    cases ra with
    | cons r1 r2 =>
      cases r2
      split at w
      · rename_i ys e
        obtain ⟨a1, vs, rfl, s1, rr⟩ := lstOf_run rs e r1
        exact ⟨_, _, rfl, .inl ⟨_, s1, rfl⟩, by rw [← rr.length]; exact w.ok rs _ (.int _)⟩
      · exact w.elim
  · exact w.elim
/-- int of an int, of a bool -/
def intM : OpN
  | [.d (.int i)], st => .ok (.d (.int i)) st
  | [.d (.bool k)], st => .ok (.d (.int (if k then 1 else 0))) st
  | _, _ => .bad
theorem v_int : CallV g (fun xs H Q => (∃ i, xs = [.int i] ∧ Q (.int i) H) ∨ ∃ k, xs = [.bl k] ∧ Q (.int (if k then 1 else 0)) H) intM := by
  intro ρ st H as xs Q Wf rs ra w
  unfold intM at w
  split at w
  · cases ra with
    | cons r1 r2 =>
      cases r2
      cases (show DR g.K _ H _ (.int _) from r1)
      exact .inl ⟨_, rfl, w.ok rs _ (.int _)⟩
  · cases ra with
    | cons r1 r2 =>
      cases r2
      cases (show DR g.K _ H _ (.bool _) from r1)
      exact .inr ⟨_, rfl, w.ok rs _ (.int _)⟩
  · exact w.elim
/-- isinstance of data, a built-in class -/
inductive Kd where
  | int | bool | str | tuple | list | dict
def Kd.nm : Kd → String
  | .int => "int" | .bool => "bool" | .str => "str" | .tuple => "tuple" | .list => "list" | .dict => "dict"
def isTy : Kd → PyData → Bool
  | .int, .int _ => true
  | .int, .bool _ => true
  | .bool, .bool _ => true
  | .str, .str _ => true
  | .tuple, .tuple _ => true
  | .list, .list _ => true
  | .dict, .dict _ => true
  | _, _ => false
def tyN : PyData → String
  | .none => "NoneType"
  | .bool _ => "bool"
  | .int _ => "int"
  | .str _ => "str"
  | .list _ => "list"
  | .tuple _ => "tuple"
  | .dict _ => "dict"
theorem kit_is (k : Kd) (x : PyData) : kitB (tyN x) k.nm = some (isTy k x) := by
  cases k <;> cases x <;> first | rfl | decide +kernel
theorem ty_is {B : Addr → Prop} {H : Hp} {K : PySem.W.Frag} {v : V} {x : PyData} (h : DR K B H v x) : TyX K H v (.type (tyN x)) := by
  cases h with
  | non => exact .base .non
  | bl b => exact .base (.bl b)
  | int i => exact .base (.int i)
  | str z => exact .base (.str z)
  | lst h1 h2 =>
    rcases h1 with ⟨h1 | ⟨o, h1⟩, _⟩ | ⟨o, its, n, h1, h3, _⟩
    · exact .base (.lst h1)
    · exact .base (.frz h1)
    · exact .kList h1 h3
  | tup h1 h2 =>
    rcases h1 with (h1 | ⟨o, h1⟩) | ⟨o, its, n, h1, h3, _⟩
    · exact .base (.tup h1)
    · exact .fTuple h1
    · exact .kTuple h1 h3
  | dct h1 => exact .base (.dK h1)
def isiM (k : Kd) (m : Em) : Em := fun en st => (m en st).bind fun a st1 => match a with
  | .d x => .ok (.d (.bool (isTy k x))) st1
  | .ref i => match st1[i]? with
    | some (.lst _) => .ok (.d (.bool (isTy k (.list [])))) st1
    | some (.dic _) => .ok (.d (.bool (isTy k (.dict [])))) st1
    | _ => .bad
theorem e_isi {k : Kd} {x : Str} {p p' : Pos} {a : Expr} (hK : g.K = X.K) (hg : Gl X "isinstance") (hm : X.mg "isinstance" = none) (hgT : Gl X x) (hmT : X.mg x = none) (hbT : bootBuiltins x = some (.type k.nm)) (ha : PE X a (TEm g W m)) (hn : x ≠ "__name__" := by decide) (hdb : (x == ("__debug__" : Str)) = false := by decide)
    (he : starEach [a, .Name x p'] X.env = (false, eval a X.env) :: starEach [.Name x p'] X.env := by rfl) (he2 : starEach [.Name x p'] X.env = (false, eval (.Name x p') X.env) :: starEach [] X.env := by rfl) (hpl : (backTo pos (starEach [.Name x p'] X.env)).any (·.1) = false := by rfl) :
    PE X (.Call (.Name "isinstance" p) [a, .Name x p'] [] pos) (TEm g W (isiM k m)) := by
  refine (pe_callB call_isi hg hm PyProof.Rows.boot_isinstance (pa_cons ha (pa_cons (pe_bltn (v := .ty k.nm) hgT hmT hbT rfl hn hdb) pa_nil he2) he) (by decide) (by decide) he hpl).imp fun σ H Q ⟨ρ, st, en, r, e, w⟩ => ?_
  refine (seqE wid r e w).mono fun v H1 ⟨a, ρ1, st1, r1, e1, ra, x1, w1⟩ => ?_
  have go : ∀ d : PyData, TyX X.K H1 v (.type (tyN d)) → Wp g ρ1 st1 H1 (.ok (.d (.bool (isTy k d))) st1) (Qv g Q) (Wx g W σ) → rIsi X.K [v, .ty k.nm] H1 Q := fun d hd w2 =>
    ⟨v, .ty k.nm, .type (tyN d), .type k.nm, isTy k d, rfl, .ty _, hd, kit_ty (kit_is k d), w2.ok r1 _ (.bl _)⟩
  cases a with
  | d y => exact go y (by rw [← hK]; exact ty_is ra) w1
  | ref i =>
    have w2 : Wp g ρ1 st1 H1 (match st1[i]? with
      | some (.lst _) => .ok (.d (.bool (isTy k (.list [])))) st1
      | some (.dic _) => .ok (.d (.bool (isTy k (.dict [])))) st1
      | _ => .bad) (Qv g Q) (Wx g W σ) := w1
    obtain ⟨_, ev⟩ := ra
    subst ev
    cases q : st1[i]? with
    | none => rw [q] at w2; exact w2.elim
    | some o =>
      rw [q] at w2
      have ho := r1.obj _ _ q
      cases o with
      | lst ys =>
        obtain ⟨vs, h1, _⟩ := ho
        exact go (.list []) (.base (.lst h1)) w2
      | dic ys =>
        obtain ⟨vs, h1, _⟩ := ho
        exact go (.dict []) (.base (.dK h1)) w2
      | ins _ _ => exact w2.elim
/-- sorted of a list or a tuple of ints -/
def intsOf : List PyData → Option (List Int)
  | [] => some []
  | .int i :: r => (intsOf r).map (i :: ·)
  | _ => none
end
end SB

/-! A def of the text by its body; calls; raise; the law's entry. -/
namespace SB
open PySem PySem.Spec PyProof.Rows L2

/-- what the whole walk leans on -/
structure GG where
  P : Program
  w : World
  K : PySem.W.Frag
  mg : Str → Option Value
  base : Heap
  cl : Nat → Addr
abbrev GG.g (G : GG) : G0 := ⟨G.K, G.cl⟩
/-- what a call promises: the plain function's answer -/
def spF (g : G0) (F : OpN) : Sp := fun vs H Q E => ∃ ρ st as, RS g ρ st H ∧ RVs g ρ st.length H as vs ∧
  Wp g ρ st H (F as st) (Qv g Q) fun e ρ' st' H' => ∀ d, RX g ρ' st'.length H' e d → E (.ref (g.cl e.cls)) d H'
/-- the def at f answers as F -/
structure FnG (G : GG) (k : Nat) (f : Addr) (ps : List Str) (fd : FuncData) (F : OpN) : Prop where
  ar : ∀ as st, as.length ≠ ps.length → F as st = .bad
  run : ∀ (A : Around) (outer : List Env) (s : Shared) (H : Hp) (args : Args) (us : List Value) (vs : List V) (Q : VK) (E : XK), A.guards = some [] → Room k A → Env0 G.P G.w G.K G.mg G.base A outer s H → BindsTo s fd args (ps.zip us) → Vals vs us → vs.length = ps.length → spF G.g F vs H Q E →
    codeAny (model G.P G.w) A (.call (.ref f) args) (CR (L2.CX G.P G.w) outer G.P G.w H s Q E) s
/-- the frame of such a def -/
structure BX (G : GG) (X : Cx) (W : WX) (k : Nat) : Prop where
  P : X.prog = G.P
  w : X.w = G.w
  K : X.K = G.K
  mg : X.mg = G.mg
  base : X.base = G.base
  calm : X.calm = true
  tk : Takes X W
  gd : X.A.guards = some []
  room : Room k X.A
theorem BX.hu {G : GG} {X : Cx} {W : WX} {k : Nat} (B : BX G X W k) : X.A.units + 200 < cLine := by
  have := B.room.un
  omega
section
variable {G : GG} {X : Cx} {W : WX} {k : Nat}
theorem run_fnG {f : Addr} {fd : FuncData} {ps : List Str} {F : OpN} {pins : List (Addr × Obj)} {σ : L2.St} {H : Hp} {s : Shared} {Q : VK} {us : List Value} {vs : List V} (B : BX G X W k) (Fn : FnG G k f ps fd F) (hb : L2.Binds X.K fd ps []) (hl : vs.length = ps.length)
    (I : Inv X pins σ H s) (r : Vals vs us) (h : spF G.g F vs H Q fun c d H' => W c d σ H') : wpAny (model X.prog X.w) X.A (call (.ref f) us) (EP X pins σ Q) X.xe s := by
  have hl2 : (us ++ []).length = ps.length := by rw [List.append_nil, ← r.length]; exact hl
  have b := hb s us I.kIn hl2
  rw [List.append_nil] at b
  have e0 : Env0 G.P G.w G.K G.mg G.base X.A X.stack s H := by
    have e := I.env0
    rw [B.P, B.w, B.K, B.mg, B.base] at e
    exact e
  have c := Fn.run X.A X.stack s H ⟨us, []⟩ us vs Q _ B.gd B.room e0 b r hl h
  rw [← B.P, ← B.w] at c
  refine wpAny_call (codeAny_mono c fun r s' hq => ?_)
  cases r with
  | error e => exact passAt B.tk σ pins H s e s' I hq
  | ok fl =>
    cases fl with
    | ret u => exact I.after hq
    | next => exact False.elim hq
    | brk => exact False.elim hq
    | cont => exact False.elim hq
/-- f(e, ..) -/
theorem e_call {f : Addr} {fd : FuncData} {ps : List Str} {F : OpN} {x : Str} {p pos : Pos} {e : Expr} {es : List Expr} {t : Am} (B : BX G X W k) (Fn : FnG G k f ps fd F) (hg : Gl X x) (hm : X.mg x = some (.ref f)) (hk : PySem.W.keepIn X.K (.ref f) = true) (hb : L2.Binds X.K fd ps [])
    (ha : PA X (e :: es) (TAm G.g W t)) (hdb : (x == ("__debug__" : Str)) = false := by decide) (he : starEach (e :: es) X.env = (false, eval e X.env) :: starEach es X.env := by rfl) (hpl : (backTo pos (starEach es X.env)).any (·.1) = false := by rfl) :
    PE X (.Call (.Name x p) (e :: es) [] pos) (TEm G.g W (mCall F t)) := by
  refine ⟨fun pins s σ H Q I ⟨ρ, st, en, r, e', w⟩ => ?_⟩
  refine wpAny_Call_Name_kw (ld_glob I hg hm ?_ hdb)
  refine PySem.W.callWith_K (h₀ := X.base) I.ok.mod.kin hk (thn (ha.run pos pins s σ H _ I (seqA wid r e' w)) fun us s1 ⟨vs, H1, I1, rv, q⟩ => ⟨I1.kIn, ?_⟩) he hpl
  obtain ⟨as, ρ1, st1, r1, e1, ra, x1, w1⟩ := q
  by_cases hl : as.length = ps.length
  · exact run_fnG B Fn hb (by rw [← ra.length]; exact hl) I1 rv ⟨ρ1, st1, as, r1, ra, w1⟩
  · rw [Fn.ar as st1 hl] at w1
    exact w1.elim
theorem e_call0 {f : Addr} {fd : FuncData} {F : OpN} {x : Str} {p pos : Pos} (B : BX G X W k) (Fn : FnG G k f [] fd F) (hg : Gl X x) (hm : X.mg x = some (.ref f)) (hk : PySem.W.keepIn X.K (.ref f) = true) (hb : L2.Binds X.K fd [] [])
    (hdb : (x == ("__debug__" : Str)) = false := by decide) : PE X (.Call (.Name x p) [] [] pos) (TEm G.g W fun _ st => F [] st) := by
  refine ⟨fun pins s σ H Q I ⟨ρ, st, en, r, e', w⟩ => ?_⟩
  refine wpAny_Call_Name_kw (ld_glob I hg hm ?_ hdb)
  exact PySem.W.callWith_K0 I.kIn hk (run_fnG (us := []) (vs := []) B Fn hb rfl I .nil ⟨ρ, st, [], r, .nil, w⟩)
/-- raise C('text') -/
def sRaise (c : Nat) : Sm := fun en st => .ex ⟨c, []⟩ en st
theorem s_raise {c : Nat} {x m : Str} {j : Nat} {p p2 pos pos' : Pos} (B : BX G X W k) (gC : X.mg x = some (.ref (G.cl c))) (q : PySem.W.excIn X.K (G.cl c) He.veBase "ValueError.__new__" = true) (kC : PySem.W.keepIn X.K (.ref (G.cl c)) = true)
    (h1 : PySem.W.subIn X.K (.ref (G.cl c)) (.type "BaseException") = some true) (h2 : PySem.W.typeIn X.K (.ref (G.cl c)) = some (.type "type")) (hg : Gl X x) (hdb : (x == ("__debug__" : Str)) = false := by decide) :
    PS X (.Raise (some (.Call (.Name x p) [.Constant (.str m) j p2] [] pos)) none pos') (TSm G.g W (sRaise c)) :=
  (ps_raise B.calm B.tk (pmk_own PySem.F.excBase_ValueError q gC kC (raises_own h1 h2) hg hdb)).imp fun D σ H ⟨ρ, st, en, r, e, w⟩ => w ρ H σ none .refl r e (.inl ⟨rfl, rfl⟩)
/-- a def as a plain function: n parameters, so many slots -/
def fnM (n slots : Nat) (B : Sm) : OpN := fun as st => if as.length = n then (match B (as.map some ++ List.replicate (slots - n) none) st with
  | .nx _ st' => .ok (.d .none) st'
  | .rt a st' => .ok a st'
  | .ex e _ st' => .exc e st'
  | _ => .bad) else .bad
theorem startEn {g : G0} {ρ : Nat → Addr} {n : Nat} {H : Hp} {as : List PV} {vs : List V} {N : List Str} (h : RVs g ρ n H as vs) : REn g ρ n H (as.map some ++ List.replicate (N.length - vs.length) none) (L2.start N vs) := by
  refine ⟨by unfold L2.start; simp [h.length], fun i a e => ?_⟩
  unfold L2.start
  by_cases hi : i < as.length
  · rw [List.getElem?_append_left (by simpa using hi)] at e
    rw [List.getElem?_append_left (by rw [List.length_map, ← h.length]; exact hi)]
    rw [List.getElem?_map] at e
    cases q : as[i]? with
    | none => rw [q] at e; cases e
    | some b =>
      rw [q] at e
      cases e
      have : ∃ v, vs[i]? = some v ∧ RV g ρ n H a v := by
        clear hi
        induction h generalizing i with
        | nil => simp at q
        | cons x t ih => cases i with
          | zero => simp at q; subst q; exact ⟨_, by simp, x⟩
          | succ i => obtain ⟨v, e1, e2⟩ := ih i (by simpa using q); exact ⟨v, by simpa using e1, e2⟩
      obtain ⟨v, e1, e2⟩ := this
      exact ⟨v, by rw [List.getElem?_map, e1]; rfl, e2⟩
  · rw [List.getElem?_append_right (by simpa using hi), List.getElem?_replicate] at e
    split at e <;> cases e
/-- THE RULE: a def by its body -/
theorem fn_body {x qual : Str} {params : Arguments} {body : List Stmt} {scope : Scope} {dvs : List V} {kws : List (Str × V)} {f : Addr} {fd : FuncData} {N ps : List Str} {B : Sm} (F : L2.FunD G.K x qual params body scope dvs kws f fd) (S : FnScope N ps scope)
    (hB : ∀ (A : Around) (outer : List Env) (s : Shared) (H : Hp) (E : XK) (cdv : Value), BX G (cxOf (L2.CX G.P G.w) G.P G.w G.K G.mg G.base N qual scope f cdv A outer s H E) (fun c d _ H' => E c d H') k →
      PSs (cxOf (L2.CX G.P G.w) G.P G.w G.K G.mg G.base N qual scope f cdv A outer s H E) body (TSm G.g (fun c d _ H' => E c d H') B)) :
    FnG G (k + 1) f ps fd (fnM ps.length N.length B) := by
  obtain ⟨oc, od, dV, kV, doc, pm, an, cdv, ct, osl, rfl, lk, hcd, _, _⟩ := F.ex
  refine ⟨fun as st h => if_neg h, fun A outer s H args us vs Q E hg hr e0 hb r hl ⟨ρ, st, as, rs, ra, w⟩ => ?_⟩
  refine LamX.run_ofS lk hcd S hr e0 hb r hl fun hr' => ?_
  have bx : BX G (cxOf (L2.CX G.P G.w) G.P G.w G.K G.mg G.base N qual scope f cdv A outer s H E) (fun c d _ H' => E c d H') k :=
    ⟨rfl, rfl, rfl, rfl, rfl, rfl, takes_of rfl rfl rfl rfl, hg, hr'⟩
  refine ⟨_, hB A outer s H E cdv bx, ρ, st, as.map some ++ List.replicate (N.length - vs.length) none, rs, startEn ra, ?_⟩
  have hla : as.length = ps.length := by rw [ra.length]; exact hl
  unfold fnM at w
  rw [if_pos hla, ← hl] at w
  cases q : B (as.map some ++ List.replicate (N.length - vs.length) none) st with
  | nx en' st' => rw [q] at w; exact fun ρ' H' σ' x1 r1 e1 => w ρ' H' x1 r1 _ .non
  | rt a st' => rw [q] at w; exact fun ρ' H' v x1 r1 rv => w ρ' H' x1 r1 v rv
  | ex e en' st' => rw [q] at w; exact fun ρ' H' σ' d x1 r1 e1 rx => w ρ' H' x1 r1 d rx
  | bk en' st' => rw [q] at w; exact w.elim
  | ct en' st' => rw [q] at w; exact w.elim
  | bad => rw [q] at w; exact w.elim
end
/-! ### the law's entry -/
/-- the abstract heap at the entry: the script alone, read -/
def hp0 (a : Addr) (ob : Obj) (xs : List V) (kn : Bool) : Hp := fun b => if b = a ∧ kn = false then some (.frz ob (.lst xs)) else none
theorem hp0_none {a : Addr} {ob : Obj} {xs : List V} {kn : Bool} {b : Addr} (h : ¬ (b = a ∧ kn = false)) : hp0 a ob xs kn b = none := if_neg h
theorem hp0_some {a : Addr} {ob : Obj} {xs : List V} {b : Addr} {u : HO} {kn : Bool} (h : hp0 a ob xs kn b = some u) : b = a ∧ kn = false ∧ u = .frz ob (.lst xs) := by
  unfold hp0 at h
  split at h
  · rename_i q
    exact ⟨q.1, q.2, (Option.some.inj h).symm⟩
  · cases h
theorem rs_nil {g : G0} {ρ : Nat → Addr} {H : Hp} : RS g ρ [] H := ⟨fun i _ hi => absurd hi (Nat.not_lt_zero i), fun i o e => by simp at e⟩
theorem ints_dr {K : PySem.W.Frag} {B : Addr → Prop} {H : Hp} : ∀ ns : List Int, DRs K B H (ns.map V.int) (ns.map PyData.int)
  | [] => .nil
  | n :: ns => .cons (.int n) (ints_dr ns)
def scriptD (ns : List Int) : PV := .d (.list (ns.map PyData.int))
theorem law_go {P : Program} {w : World} {K : PySem.W.Frag} {mg mb : Str → Option Value} {cl : Nat → Addr} {k : Nat} {fa a : Addr} {fd : FuncData} {x : Str} {F : OpN} {s₁ : Shared} {vs : List Value} {ns : List Int}
    (KX : K.In s₁.heap) (hns : s₁.heap.Ns mainGlobals mg) (hb : s₁.heap.Ns builtinsNs mb) (hbb : ∀ y : Str, y ≠ "__name__" → mb y = bootBuiltins y) (hlim : s₁.heap.NoLimit) (hg : s₁.gens = #[])
    (ha : s₁.heap.get? a = some { cls := .type "list", data := .seq vs.toArray }) (hi : IntsAre vs ns) (hl : ns.length ≤ sizeLine) (hr : Room k callerA)
    (hF : ∀ base : Heap, K.In base → base.Ns mainGlobals mg → FnG ⟨P, w, K, mg, base, cl⟩ k fa [x] fd F) (hbind : ∀ (s : Shared) (u : Value), BindsTo s fd ⟨[u], []⟩ [(x, u)])
    (hok : ∃ st, F [scriptD ns] [] = .ok (.d (.bool true)) st) :
    codeAny (model P w) callerA (.call (.ref fa) ⟨[.ref a], []⟩) (fun r s' => r = .ok (.ret (.bool true)) ∧ OldK s₁.heap s'.heap ∧ s'.os = s₁.os ∧ AllBare s'.gens) s₁ := by
  have rv := vals_ints hi
  have lenV := hi.length
  obtain ⟨kn, hkn⟩ : ∃ kn : Bool, kn = (K.lookup a).isSome := ⟨_, rfl⟩
  obtain ⟨ob, hob⟩ : ∃ ob : Obj, ob = { cls := .type "list", data := .seq vs.toArray } := ⟨_, rfl⟩
  rw [← hob] at ha
  obtain ⟨H, hH⟩ : ∃ H, H = hp0 a ob (ns.map V.int) kn := ⟨_, rfl⟩
  -- what is not the script is not tracked
  have off : ∀ b o, s₁.heap.get? b = some o → o ≠ ob → H b = none := fun b o e n => by
    rw [hH]
    refine hp0_none fun q => n ?_
    rw [q.1, ha] at e
    exact (Option.some.inj e).symm
  have inBase : ∀ b o, s₁.heap.get? b = some o → H b = none → (hidT s₁.heap H).get? b = some o := fun b o e q => hidT_get e q
  have nsB : ∀ {b : Addr} {m : Str → Option Value}, s₁.heap.Ns b m → (hidT s₁.heap H).Ns b m := by
    intro b m ⟨o, es, ep, e, d, rest⟩
    refine ⟨o, es, ep, inBase _ _ e (off b o e fun z => ?_), d, rest⟩
    rw [z, hob] at d
    cases (show Data.seq vs.toArray _ = Data.dict es ep from d)
  have kB : K.In (hidT s₁.heap H) := fun b o e => inBase _ _ (KX b o e) (by
    rw [hH]
    refine hp0_none fun q => ?_
    rw [q.1] at e
    rw [e] at hkn
    rw [hkn] at q
    exact absurd q.2 (by simp))
  have mod : Mod K mg (hidT s₁.heap H) := ⟨kB, nsB hns, ⟨mb, nsB hb, hbb⟩, let ⟨mc, q1, q2⟩ := hlim; ⟨mc, nsB q1, q2⟩⟩
  have held : HOk P w H s₁.heap := fun b u e => by
    rw [hH] at e
    obtain ⟨e1, e2, e3⟩ := hp0_some e
    subst e1 e3
    exact ⟨ha, by rw [List.length_map]; exact hl, vs, 0, rv, by rw [ha, hob]⟩
  have env : Env0 P w K mg (hidT s₁.heap H) callerA [] s₁ H := ⟨rfl, mod, fun _ _ e => of_hidT e, Nat.le_of_eq (hidT_size _ _), trivial, fun _ z => absurd z (List.not_mem_nil), held, .of_eq hg⟩
  have sq : SqF K (Bd (fun _ => 0) 0) H a (ns.map V.int) := by
    cases q : K.lookup a with
    | none =>
      rw [q] at hkn
      refine .inl ⟨.inr ⟨ob, ?_⟩, fun ⟨i, z, _⟩ => absurd z (Nat.not_lt_zero i)⟩
      rw [hH]
      exact if_pos ⟨rfl, hkn⟩
    | some o =>
      have e := KX a o q
      rw [ha] at e
      cases e
      refine .inr ⟨_, vs.toArray, _, q, by rw [hob], by rw [hob], by rw [hob], by rw [List.size_toArray, lenV]; exact hl, by simpa using rv⟩
  obtain ⟨st, hst⟩ := hok
  have prom : spF ⟨K, cl⟩ F [.ref a] H (fun v _ => v = .bl true) fun _ _ _ => False := by
    refine ⟨fun _ => 0, [], [scriptD ns], rs_nil, .cons (.lst sq (ints_dr ns)) .nil, ?_⟩
    rw [hst]
    intro ρ' H' _ _ v hv
    cases (show DR K _ H' v (.bool true) from hv)
    rfl
  refine codeAny_mono ((hF _ kB (nsB hns)).run callerA [] s₁ H ⟨[.ref a], []⟩ [.ref a] [.ref a] _ _ rfl hr env (hbind s₁ (.ref a)) (.cons rfl .nil) rfl prom) fun r s' h => ?_
  cases r with
  | error e =>
    obtain ⟨_, _, _, _, _, _, _, _, _, _, _, _, z⟩ := (show L2.CX P w [] H s₁ (fun _ _ _ => False) e s' from h)
    exact z.elim
  | ok fl =>
    cases fl with
    | next => exact False.elim h
    | brk => exact False.elim h
    | cont => exact False.elim h
    | ret u =>
      obtain ⟨v, H', os, bare, un, ok', r', q⟩ := h
      cases (show v = .bl true from q)
      cases (show u = Value.bool true from r')
      refine ⟨rfl, OldK.of_keep fun b o e => ?_, os, bare⟩
      cases q2 : H b with
      | none => exact un.keep b o e q2 (fun z => absurd (show b ∈ ([] : List Addr) from z) (List.not_mem_nil)) (List.not_mem_nil)
      | some u2 =>
        have q3 := q2
        rw [hH] at q3
        obtain ⟨_, _, e3⟩ := hp0_some q3
        subst e3
        have z1 := (held b _ q2).1
        have z2 := (ok' b _ (un.frzs b ob _ q2)).1
        rw [e] at z1
        cases z1
        exact z2
/-- the law's row from the plain function's answer -/
theorem law_end {l : PySem.W.OpenLaw} {k : Nat} {q : Program} {loose : List Str} {XP : (Str → Option Value) → Heap → Prop} {YP : World → Heap → Prop} {d : DefRec} {x : Str}
    (hn : l.most = some 63) (hdf : d.params.defaults = []) (hr : Room k callerA)
    (hF : ∀ (w : World) (mg : Str → Option Value) (fa : Addr) (h : Heap), YP w h → h.Ns mainGlobals mg → mg d.name = some (.ref fa) →
      ∃ (K : PySem.W.Frag) (cl : Nat → Addr) (fd : FuncData) (F : OpN), K.In h ∧ (∀ (s : Shared) (u : Value), BindsTo s fd ⟨[u], []⟩ [(x, u)]) ∧
        (∀ ns : List Int, ns.length ≤ 63 → ∃ st, F [scriptD ns] [] = .ok (.d (.bool true)) st) ∧
        ∀ base : Heap, K.In base → base.Ns mainGlobals mg → FnG ⟨l.prog, w, K, mg, base, cl⟩ k fa [x] fd F) :
    PySem.W.WalkO q loose XP YP l.row.toRowW d [] (fun f vs => PySem.call f vs) := by
  refine Att.attach_call hn hdf fun w s₀ s₁ mg mb fa o pm cd doc a vs ns Gr Y ho hd hcd hmg hobj hints hlen hg => ?_
  obtain ⟨K, cl, fd, F, KX, hb, hok, hFn⟩ := hF w mg fa _ Y Gr.T.g hmg
  exact law_go KX Gr.T.g Gr.T.b Gr.T.builtins Gr.T.nolimit hg hobj hints (Nat.le_trans hlen (by rw [sizeLine_eq]; decide)) hr hFn hb (hok ns hlen)
end SB

/-! Things of the store changed. -/
namespace SB
open PySem PySem.Spec PyProof.Rows L2
section
variable {X : Cx} {g : G0} {W : WX} {pos : Pos} {e o i : Expr} {me mo mi : Em} {σ : L2.St} {H : Hp} {ρ : Nat → Addr} {st : Sto} {en : En}
theorem Ext.upd {r : Nat} {u : HO} (hr : r < st.length) : Ext ρ st.length H ρ st.length (upd H (ρ r) u) := by
  refine ⟨Nat.le_refl _, fun _ _ => rfl, fun i h1 h2 => absurd h1 (Nat.not_le_of_lt h2), fun a o h nb => ?_, fun a o h => ?_⟩
  · rw [upd_ne fun z => nb ⟨r, hr, z.symm⟩]
    exact h
  · by_cases z : a = ρ r
    · subst z
      exact ⟨u, upd_same⟩
    · exact ⟨o, by rw [upd_ne z]; exact h⟩
theorem RS.write {r : Nat} {u : HO} {s s' : SO} (rs : RS g ρ st H) (hr : st[r]? = some s) (new : RO g ρ st.length (upd H (ρ r) u) (ρ r) s') : RS g ρ (st.set r s') (upd H (ρ r) u) := by
  have hlt := (List.getElem?_eq_some_iff.mp hr).1
  refine ⟨fun i j hi hj => rs.inj i j (by simpa using hi) (by simpa using hj), fun i q e => ?_⟩
  rw [List.length_set]
  by_cases z : r = i
  · subst z
    rw [List.getElem?_set_self hlt] at e
    cases e
    exact new
  · rw [List.getElem?_set_ne z] at e
    have hi := (List.getElem?_eq_some_iff.mp e).1
    exact RO.ext (Ext.upd hlt) rs (upd_ne fun q => z (rs.inj _ _ hi hlt q).symm) (rs.obj i q e)
theorem Paired.setP {α β : Type} {F : α → β → Prop} {x : α} {y : β} (h : F x y) : ∀ {l₁ : List α} {l₂ : List β} (n : Nat), Paired F l₁ l₂ → Paired F (l₁.set n x) (l₂.set n y)
  | _, _, _, .nil => .nil
  | _, _, 0, .cons _ t => .cons h t
  | _, _, n + 1, .cons a t => .cons a (Paired.setP h n t)
/-- o[i] = v, o a list of the store -/
def setIxM (o i v : PV) (en : En) (st : Sto) : SR := match o, i with
  | .ref r, .d (.int k) => (match st[r]? with
    | some (.lst xs) => (match ixN xs.length k with
      | some j => .nx en (st.set r (.lst (xs.set j v)))
      | none => .bad)
    | _ => .bad)
  | _, _ => .bad
def sSetIx (mo mi mv : Em) : Sm := fun en st => bindS (mv en st) en fun v st1 => bindS (mo en st1) en fun o st2 => bindS (mi en st2) en fun i st3 => setIxM o i v en st3
theorem s_setix {tp : Pos} (he : PE X e (TEm g W me)) (ho : PE X o (TEm g W mo)) (hi : PE X i (TEm g W mi))
    (ha : ∀ v, assign (.Subscript o i tp) X.env v = (do
      let ov ← holding [v] (eval o X.env)
      let iv ← holding [v, ov] (eval i X.env)
      standAt tp
      holding [v, ov, iv] (setItem ov iv v)
      release [v, ov, iv] []) := by intro _; rfl)
    (hs : swapsWithSole [.Subscript o i tp] e pos.line X.env = pure false := by rfl) (hw : swappedStores [.Subscript o i tp] e X.env = pure none := by rfl)
    (h1 : (assignEach [.Subscript o i tp] X.env).map (·.2) = [assign (.Subscript o i tp) X.env] := by rfl) :
    PS X (.Assign [.Subscript o i tp] e pos) (TSm g W (sSetIx mo mi me)) := by
  refine (ps_asg he (pg_sub ho hi set_list ha) hs hw h1).imp fun D σ H ⟨ρ, st, en, r, e, w⟩ => ?_
  refine (seqES r e w).mono fun v H1 ⟨a, ρ1, st1, r1, e1, ra, x1, w1⟩ => ?_
  refine (seqES r1 e1 w1).mono fun v2 H2 ⟨a2, ρ2, st2, r2, e2, ra2, x2, w2⟩ => ?_
  refine (seqES r2 e2 w2).mono fun v3 H3 ⟨a3, ρ3, st3, r3, e3, ra3, x3, w3⟩ => ?_
  have rv := (ra.ext x2 r1).ext x3 r2
  have ro := ra2.ext x3 r2
  unfold setIxM at w3
  split at w3
  · cases (show DR g.K _ H3 v3 (.int _) from ra3)
    obtain ⟨hq, eo⟩ := ro
    subst eo
    split at w3
    · rename_i xs e4
      split at w3
      · rename_i j e5
        obtain ⟨vs, h1, h2⟩ := r3.obj _ _ e4
        refine ⟨_, vs, _, j, rfl, rfl, h1, by rw [← h2.length]; exact e5, ?_⟩
        have X4 := Ext.upd (ρ := ρ3) (H := H3) (u := .lst (vs.set j v)) hq
        refine w3 ρ3 _ σ (by rw [List.length_set]; exact X4) (RS.write r3 e4 ⟨_, upd_same, ?_⟩) (by rw [List.length_set]; exact e3.ext X4 r3)
        exact Paired.setP (rv.ext X4 r3) j (RVs.ext X4 r3 h2)
      · exact w3.elim
    · exact w3.elim
  · exact w3.elim
/-! ### sorted of ints -/
def insI (x : Int) : List Int → List Int
  | [] => [x]
  | y :: ys => if x ≤ y then x :: y :: ys else y :: insI x ys
def sortI : List Int → List Int
  | [] => []
  | x :: xs => insI x (sortI xs)
theorem insI_perm (x : Int) : ∀ l : List Int, (insI x l).Perm (x :: l)
  | [] => .refl _
  | y :: ys => by
    unfold insI
    split
    · exact .refl _
    · exact ((insI_perm x ys).cons y).trans (.swap x y ys)
theorem insI_sorted (x : Int) : ∀ l : List Int, l.Pairwise (· ≤ ·) → (insI x l).Pairwise (· ≤ ·)
  | [], _ => by simp [insI]
  | y :: ys, h => by
    have h' := List.pairwise_cons.mp h
    unfold insI
    split
    · rename_i q
      refine List.pairwise_cons.mpr ⟨fun z hz => ?_, h⟩
      rcases List.mem_cons.mp hz with e | e
      · rw [e]; exact q
      · exact Int.le_trans q (h'.1 z e)
    · rename_i q
      refine List.pairwise_cons.mpr ⟨fun z hz => ?_, insI_sorted x ys h'.2⟩
      rcases List.mem_cons.mp ((insI_perm x ys).mem_iff.mp hz) with e | e
      · rw [e]; omega
      · exact h'.1 z e
theorem sortI_perm : ∀ l : List Int, (sortI l).Perm l
  | [] => .refl _
  | x :: xs => (insI_perm x (sortI xs)).trans ((sortI_perm xs).cons x)
theorem sortI_sorted : ∀ l : List Int, (sortI l).Pairwise (· ≤ ·)
  | [] => .nil
  | x :: xs => insI_sorted x _ (sortI_sorted xs)
theorem sortI_uniq {ns ms : List Int} (h1 : ms.Perm ns) (h2 : ms.Pairwise (· ≤ ·)) : ms = sortI ns :=
  List.Perm.eq_of_pairwise (le := fun a b => a ≤ b) (fun a b _ _ p q => Int.le_antisymm p q) h2 (sortI_sorted ns) (h1.trans (sortI_perm ns).symm)
def sortedM : OpN
  | [a], st => (match dataOf st a with
    | some (.list xs) => (match intsOf xs with
      | some ns => .ok (.d (.list ((sortI ns).map .int))) st
      | none => .bad)
    | _ => .bad)
  | _, _ => .bad
theorem intsOf_map : ∀ {xs : List PyData} {ns : List Int}, intsOf xs = some ns → xs = ns.map .int
  | [], _, h => by cases h; rfl
  | .int i :: r, ns, h => by
    unfold intsOf at h
    cases q : intsOf r with
    | none => rw [q] at h; cases h
    | some l => rw [q] at h; cases h; rw [intsOf_map q]; rfl
  | .none :: _, _, h => by cases h
  | .bool _ :: _, _, h => by cases h
  | .str _ :: _, _, h => by cases h
  | .list _ :: _, _, h => by cases h
  | .tuple _ :: _, _, h => by cases h
  | .dict _ :: _, _, h => by cases h
theorem dr_ints {K : PySem.W.Frag} {B : Addr → Prop} {H : Hp} : ∀ {ns : List Int} {vs : List V}, DRs K B H vs (ns.map PyData.int) → vs = ns.map V.int
  | [], _, h => by cases h; rfl
  | n :: ns, _, h => by
    cases h with
    | cons h1 h2 =>
      cases h1
      rw [dr_ints h2]
      rfl
theorem v_sorted : CallV g (rSortedI g.K) sortedM := by
  intro ρ st H as xs Q Wf rs ra w
  unfold sortedM at w
  split at w
  · rename_i a
    cases ra with
    | cons r1 r2 =>
      cases r2
      split at w
      · rename_i ys e1
        split at w
        · rename_i ns e2
          have em := intsOf_map e2
          subst em
          obtain ⟨B, hd⟩ := dataOf_run rs e1 r1
          cases hd with
          | lst h1 h2 =>
            have ev := dr_ints h2
            subst ev
            refine ⟨_, ns, rfl, h1.seq, fun ns' p h3 h4 hp => ?_⟩
            have e5 := sortI_uniq h3 h4
            subst e5
            refine w ρ _ (Ext.laid rs hp) (rs.laid hp) _ (.lst (.inl ⟨.of upd_same, nbd rs hp⟩) (ints_dr _))
        · exact w.elim
      · exact w.elim
  · exact w.elim
end
end SB

/-! The facts that the head leaves, and the top's constants as data. -/
namespace SB
open PySem PySem.Spec PyProof.Rows L2
mutual
/-- a value of the written part is such data -/
def datB (K : PySem.W.Frag) : PyData → Value → Bool
  | .none, .none => true
  | .bool b, .bool c => b == c
  | .int i, .int j _ => decide (i = j)
  | .str x, .str y _ => decide (x = y)
  | .tuple ds, .ref a => (match K.lookup a with
    | some ⟨.type c, _, .seq its _, _⟩ => decide (c = "tuple") && (decide (its.size ≤ sizeLine) && datsB K ds its.toList)
    | _ => false)
  | .list ds, .ref a => (match K.lookup a with
    | some ⟨.type c, none, .seq its _, _⟩ => decide (c = "list") && (decide (its.size ≤ sizeLine) && datsB K ds its.toList)
    | _ => false)
  | _, _ => false
def datsB (K : PySem.W.Frag) : List PyData → List Value → Bool
  | [], [] => true
  | d :: ds, u :: us => datB K d u && datsB K ds us
  | _, _ => false
end
section
variable {K : PySem.W.Frag}
mutual
theorem datB_ok : ∀ (d : PyData) (u : Value), datB K d u = true → ∃ v, L2.RelV v u ∧ ∀ B H, DR K B H v d
  | .none, u, h => by
    cases u with
    | none => exact ⟨.non, rfl, fun _ _ => .non⟩
    | _ => simp [datB] at h
  | .bool b, u, h => by
    cases u with
    | bool c => simp [datB] at h; subst h; exact ⟨.bl _, rfl, fun _ _ => .bl _⟩
    | _ => simp [datB] at h
  | .int b, u, h => by
    cases u with
    | int c t => simp [datB] at h; subst h; exact ⟨.int _, ⟨t, rfl⟩, fun _ _ => .int _⟩
    | _ => simp [datB] at h
  | .str b, u, h => by
    cases u with
    | str c t => simp [datB] at h; subst h; exact ⟨.str _, ⟨t, rfl⟩, fun _ _ => .str _⟩
    | _ => simp [datB] at h
  | .tuple ds, u, h => by
    cases u with
    | ref a =>
      simp only [datB] at h
      split at h
      · rename_i c od its n sl q
        simp only [Bool.and_eq_true, decide_eq_true_eq] at h
        obtain ⟨vs, r, hd⟩ := datsB_ok ds its.toList h.2.2
        refine ⟨.ref a, rfl, fun B H => .tup (.inr ⟨_, its, n, q, by rw [h.1], rfl, h.2.1, r⟩) (hd B H)⟩
      · cases h
    | _ => simp [datB] at h
  | .list ds, u, h => by
    cases u with
    | ref a =>
      simp only [datB] at h
      split at h
      · rename_i c its n sl q
        simp only [Bool.and_eq_true, decide_eq_true_eq] at h
        obtain ⟨vs, r, hd⟩ := datsB_ok ds its.toList h.2.2
        refine ⟨.ref a, rfl, fun B H => .lst (.inr ⟨_, its, n, q, by rw [h.1], rfl, rfl, h.2.1, r⟩) (hd B H)⟩
      · cases h
    | _ => simp [datB] at h
  | .dict ds, u, h => by
    cases u <;> simp [datB] at h
theorem datsB_ok : ∀ (ds : List PyData) (us : List Value), datsB K ds us = true → ∃ vs, L2.Vals vs us ∧ ∀ B H, DRs K B H vs ds
  | [], [], _ => ⟨[], .nil, fun _ _ => .nil⟩
  | [], _ :: _, h => by simp [datsB] at h
  | _ :: _, [], h => by simp [datsB] at h
  | d :: ds, u :: us, h => by
    simp only [datsB, Bool.and_eq_true] at h
    obtain ⟨v, r1, h1⟩ := datB_ok d u h.1
    obtain ⟨vs, r2, h2⟩ := datsB_ok ds us h.2
    exact ⟨v :: vs, .cons r1 r2, fun B H => .cons (h1 B H) (h2 B H)⟩
end
end
/-- the facts that one asks of the head -/
inductive Fb where
  | he (f : He.Fa)
  | dat (x : Str) (d : PyData)
  | sys
def Fb.ok (K : PySem.W.Frag) : Fb → Bool
  | .he f => f.ok K
  | .dat x d => (match PySem.W.nsIn K mainGlobals x with
    | some (some u) => datB K d u
    | _ => false)
  | .sys => (match K.lookup sysModules with
    | some o => decide (o.cls = .type "dict")
    | none => false)
/-- what is looked at: the module's names reach it in n steps -/
def asS (g : Addr → Option Obj) (n : Nat) : List Addr := sysModules :: He.asD g n
def obsS (fa : List Fb) (fn : List He.DefD) (K : PySem.W.Frag) : Bool × List He.FnW := ((fa.all fun f => f.ok K) && fn.all fun d => d.ok K, fn.map fun d => He.fnW K d.at_)
def valS (fn : List He.DefD) : Bool × List He.FnW := (true, fn.map He.DefD.val)
def SaysS (fa : List Fb) (fn : List He.DefD) (K : PySem.W.Frag) : Prop := obsS fa fn K = valS fn
def obsSG (n : Nat) (fa : List Fb) (fn : List He.DefD) (g : Addr → Option Obj) : Bool × List He.FnW := obsS fa fn (He.frG g (asS g n))
def hookS (n : Nat) (fa : List Fb) (fn : List He.DefD) : PySem.W.Hook where
  α := Bool × List He.FnW
  obs := fun s => obsSG n fa fn s.heap.get?
  val := fun _ => valS fn
  says := fun _ h => ∃ K : PySem.W.Frag, K.In h ∧ SaysS fa fn K
  of := fun _ _ e => ⟨_, He.frG_in, e⟩
  keeps := fun _ _ _ ⟨K, hK, c⟩ k => ⟨K, PySem.W.Frag.In.keeps hK k, c⟩
theorem obsSG_eq {n : Nat} {fa : List Fb} {fn : List He.DefD} {g : Addr → Option Obj} {s : Shared} (h : ∀ a, g a = s.heap.get? a) : obsSG n fa fn g = (hookS n fa fn).obs s := by
  have e : g = s.heap.get? := funext h
  rw [e] <;> rfl
section
variable {fa : List Fb} {fn : List He.DefD} {K : PySem.W.Frag}
theorem SaysS.fact (c : SaysS fa fn K) {f : Fb} (i : Nat) (h : fa[i]? = some f) : f.ok K = true := by
  have c1 := (Bool.and_eq_true_iff.mp (show ((fa.all fun f => f.ok K) && fn.all fun d => d.ok K) = true from congrArg (fun z => z.1) c)).1
  exact List.all_eq_true.mp c1 f (List.mem_of_getElem? h)
theorem SaysS.def_ (c : SaysS fa fn K) {d : He.DefD} (i : Nat) (h : fn[i]? = some d) : ∃ fd, L2.FunD K d.name d.qual d.params d.body d.scope (d.dvs K) (d.kws K) (He.fAd K d.at_) fd := by
  have c2 := (Bool.and_eq_true_iff.mp (show ((fa.all fun f => f.ok K) && fn.all fun d => d.ok K) = true from congrArg (fun z => z.1) c)).2
  have e : fn.map (fun d => He.fnW K d.at_) = fn.map He.DefD.val := congrArg (fun z : Bool × List He.FnW => z.2) c
  have e2 : (fn.map fun d => He.fnW K d.at_)[i]? = (fn.map He.DefD.val)[i]? := by rw [e]
  rw [List.getElem?_map, List.getElem?_map, h] at e2
  exact He.DefD.funD (Option.some.inj e2) (List.all_eq_true.mp c2 d (List.mem_of_getElem? h))
end
/-- the facts, over a walk -/
structure Fx (fa : List Fb) (fn : List He.DefD) (G : GG) : Prop where
  c : SaysS fa fn G.K
  glo : ∀ {x : Str} (i : Nat), fa[i]? = some (.he (.glo x)) → G.mg x = some (.ref (He.ga G.K x))
  free : ∀ {x : Str} (i : Nat), fa[i]? = some (.he (.free x)) → G.mg x = none
  dat : ∀ {x : Str} {d : PyData} (i : Nat), fa[i]? = some (.dat x d) → ∃ u v, G.mg x = some u ∧ L2.RelV v u ∧ ∀ B H, DR G.K B H v d
theorem Fx.of {fa : List Fb} {fn : List He.DefD} {G : GG} {h : Heap} (c : SaysS fa fn G.K) (X : G.K.In h) (N : h.Ns mainGlobals G.mg) : Fx fa fn G := by
  refine ⟨c, fun i e => He.glo_ok X N (c.fact i e), fun i e => He.free_ok X N (c.fact i e), fun {x d} i e => ?_⟩
  have q := c.fact i e
  have q2 : (match PySem.W.nsIn G.K mainGlobals x with
    | some (some u) => datB G.K d u
    | _ => false) = true := q
  split at q2
  · rename_i u z
    obtain ⟨v, r, hd⟩ := datB_ok d u q2
    exact ⟨u, v, PySem.W.mg_of X N z, r, hd⟩
  · cases q2
section
variable {fa : List Fb} {fn : List He.DefD} {G : GG} {X : Cx} {W : WX} {k : Nat}
theorem Fx.sys (T : Fx fa fn G) (i : Nat) (h : fa[i]? = some .sys) : SysD G.K := by
  have q : (match G.K.lookup sysModules with
    | some o => decide (o.cls = .type "dict")
    | none => false) = true := T.c.fact i h
  split at q
  · rename_i o z
    exact ⟨o, z, of_decide_eq_true q⟩
  · cases q
/-- a constant of the top -/
theorem e_top {x : Str} {d : PyData} {pos : Pos} (h : ∃ u v, X.mg x = some u ∧ L2.RelV v u ∧ ∀ B H, DR G.K B H v d) (hg : Gl X x) (hdb : (x == ("__debug__" : Str)) = false := by decide) : PE X (.Name x pos) (TEm G.g W (mK d)) := by
  obtain ⟨u, v, h1, h2, h3⟩ := h
  exact e_glob hg h1 h2 h3 hdb
/-- raise C('text'), by the head's facts -/
theorem s_raiseF {c : Nat} {x m : Str} {j : Nat} {p p2 pos pos' : Pos} (B : BX G X W k) (gC : X.mg x = some (.ref (G.cl c))) (hc : (He.Fa.exc x).ok X.K = true) (he : G.cl c = He.ga X.K x) (hg : Gl X x) (hdb : (x == ("__debug__" : Str)) = false := by decide) :
    PS X (.Raise (some (.Call (.Name x p) [.Constant (.str m) j p2] [] pos)) none pos') (TSm G.g W (sRaise c)) := by
  obtain ⟨h1, h2, h3, h4⟩ := He.exc_ok hc
  rw [← he] at h1 h2 h3 h4
  exact s_raise B gC h1 h2 h3 h4 hg hdb
end
end SB
namespace SB
open PySem PySem.Spec PyProof.Rows L2
def mTup (t : Am) : Em := fun en st => (t en st).bind fun as st1 => tupM as st1
def mLst (t : Am) : Em := fun en st => (t en st).bind fun as st1 => lstM as st1
def mNew (t : Am) : Em := fun en st => (t en st).bind fun as st1 => newM as st1
def mCut (m : Em) (ml mh : En → M (Option Int)) : Em := fun en st => (m en st).bind fun a st1 => (ml en st1).bind fun l st2 => (mh en st2).bind fun h st3 => cutM a l h st3
def mCall0 (f : OpN) : Em := fun _ st => f [] st
def wMax : Nat := 1000000000
end SB
namespace SB
open PySem PySem.Spec PyProof.Rows L2
theorem funD_inj {K : PySem.W.Frag} {x qual : Str} {params : Arguments} {body : List Stmt} {scope : Scope} {dvs : List V} {kws : List (Str × V)} {f : Addr} {fd fd' : FuncData} (a : L2.FunD K x qual params body scope dvs kws f fd) (b : L2.FunD K x qual params body scope dvs kws f fd') : fd = fd' := by
  obtain ⟨_, _, _, _, _, _, _, _, _, _, _, l1, _⟩ := a.ex
  obtain ⟨_, _, _, _, _, _, _, _, _, _, _, l2, _⟩ := b.ex
  rw [l1] at l2
  cases l2
  rfl
end SB

/-! The combinators' equations, for simp. -/
namespace SB
open PySem PySem.Spec PyProof.Rows L2
section
variable {α β : Type} {st : Sto} {en : En}
@[simp] theorem bind_ok {a : α} {f : α → M β} : (Res.ok a st).bind f = f a st := rfl
@[simp] theorem bind_exc {e : Ex} {f : α → M β} : (Res.exc e st : Res α).bind f = .exc e st := rfl
@[simp] theorem bind_bad {f : α → M β} : (Res.bad : Res α).bind f = .bad := rfl
@[simp] theorem bindS_ok {a : α} {k : α → Sto → SR} : bindS (.ok a st) en k = k a st := rfl
@[simp] theorem bindS_exc {e : Ex} {k : α → Sto → SR} : bindS (.exc e st) en k = .ex e en st := rfl
@[simp] theorem bindS_bad {k : α → Sto → SR} : bindS (.bad) en k = .bad := rfl
@[simp] theorem then_nx {B : Sm} : (SR.nx en st).then B = B en st := rfl
@[simp] theorem then_rt {B : Sm} {a : PV} : (SR.rt a st).then B = .rt a st := rfl
@[simp] theorem then_bk {B : Sm} : (SR.bk en st).then B = .bk en st := rfl
@[simp] theorem then_ct {B : Sm} : (SR.ct en st).then B = .ct en st := rfl
@[simp] theorem then_ex {B : Sm} {e : Ex} : (SR.ex e en st).then B = .ex e en st := rfl
@[simp] theorem mV_eq {i : Nat} : mV i en st = match en[i]? with | some (some a) => .ok a st | _ => .bad := rfl
@[simp] theorem mK_eq {x : PyData} : mK x en st = .ok (.d x) st := rfl
@[simp] theorem mBin_eq {op : Op2} {ma mb : Em} : mBin op ma mb en st = (ma en st).bind fun a st1 => (mb en st1).bind fun b st2 => op a b st2 := rfl
@[simp] theorem mChain_eq {f f' : Op2} {ma mb mc : Em} : mChain f f' ma mb mc en st = (ma en st).bind fun a st1 => (mb en st1).bind fun b st2 => (f a b st2).bind fun k st3 => (asB k st3).bind fun k st4 =>
  match k with
  | true => (mc en st4).bind fun c st5 => f' b c st5
  | false => .ok (.d (.bool false)) st4 := rfl
@[simp] theorem asB_eq {k : Bool} : asB (.d (.bool k)) st = .ok k st := rfl
@[simp] theorem mB_eq {m : Em} : mB m en st = (m en st).bind asB := rfl
@[simp] theorem mAndV_eq {ma mb : Em} : mAndV ma mb en st = (ma en st).bind fun a st1 => (asB a st1).bind fun k st2 => match k with
  | true => mb en st2
  | false => .ok (.d (.bool false)) st2 := rfl
@[simp] theorem mOrV_eq {ma mb : Em} : mOrV ma mb en st = (ma en st).bind fun a st1 => (asB a st1).bind fun k st2 => match k with
  | true => .ok (.d (.bool true)) st2
  | false => mb en st2 := rfl
@[simp] theorem mNotV_eq {ma : Em} : mNotV ma en st = (ma en st).bind fun a st1 => (asB a st1).bind fun k st2 => .ok (.d (.bool (!k))) st2 := rfl
@[simp] theorem mAnd_eq {ma mb : Tm} : mAnd ma mb en st = (ma en st).bind fun k st2 => match k with
  | true => mb en st2
  | false => .ok false st2 := rfl
@[simp] theorem mOr_eq {ma mb : Tm} : mOr ma mb en st = (ma en st).bind fun k st2 => match k with
  | true => .ok true st2
  | false => mb en st2 := rfl
@[simp] theorem mNot_eq {ma : Tm} : mNot ma en st = (ma en st).bind fun k st2 => .ok (!k) st2 := rfl
@[simp] theorem mIf_eq {t : Tm} {ma mb : Em} : mIf t ma mb en st = (t en st).bind fun k st2 => match k with
  | true => ma en st2
  | false => mb en st2 := rfl
@[simp] theorem mNil_eq : mNil en st = .ok [] st := rfl
@[simp] theorem mCons_eq {m : Em} {t : Am} : mCons m t en st = (m en st).bind fun a st1 => (t en st1).bind fun as st2 => .ok (a :: as) st2 := rfl
@[simp] theorem mTup_eq {t : Am} : mTup t en st = (t en st).bind fun as st1 => tupM as st1 := rfl
@[simp] theorem mLst_eq {t : Am} : mLst t en st = (t en st).bind fun as st1 => lstM as st1 := rfl
@[simp] theorem mNew_eq {t : Am} : mNew t en st = (t en st).bind fun as st1 => newM as st1 := rfl
@[simp] theorem mCut_eq {m : Em} {ml mh : En → M (Option Int)} : mCut m ml mh en st = (m en st).bind fun a st1 => (ml en st1).bind fun l st2 => (mh en st2).bind fun h st3 => cutM a l h st3 := rfl
@[simp] theorem mCall_eq {op : OpN} {t : Am} : mCall op t en st = (t en st).bind fun as st1 => op as st1 := rfl
@[simp] theorem mCall0_eq {f : OpN} : mCall0 f en st = f [] st := rfl
@[simp] theorem oNone_eq : oPart none en st = .ok none st := rfl
@[simp] theorem oSome_eq {m : Em} : oPart (some m) en st = (m en st).bind fun a st1 => match a with
    | .d (.int i) => .ok (some i) st1
    | _ => .bad := rfl
@[simp] theorem isi_eq {k : Kd} {m : Em} : isiM k m en st = (m en st).bind fun a st1 => match a with
  | .d x => .ok (.d (.bool (isTy k x))) st1
  | .ref i => match st1[i]? with
    | some (.lst _) => .ok (.d (.bool (isTy k (.list [])))) st1
    | some (.dic _) => .ok (.d (.bool (isTy k (.dict [])))) st1
    | _ => .bad := rfl
@[simp] theorem i2_eq {f : Int → Int → M PV} {i j : Int} : i2 f (.d (.int i)) (.d (.int j)) st = f i j st := rfl
@[simp] theorem itM_eq {m : Em} : itM m en st = (m en st).bind fun a st1 => match a with
  | .d (.tuple xs) => .ok (xs.map .d) st1
  | .d (.list xs) => .ok (xs.map .d) st1
  | _ => .bad := rfl
@[simp] theorem sSet_eq {i : Nat} {m : Em} : sSet i m en st = bindS (m en st) en fun a st1 => .nx (en.set i (some a)) st1 := rfl
@[simp] theorem sRet_eq {m : Em} : sRet m en st = bindS (m en st) en fun a st1 => .rt a st1 := rfl
@[simp] theorem sRetN_eq : sRetN en st = .rt (.d .none) st := rfl
@[simp] theorem sDo_eq {m : Em} : sDo m en st = bindS (m en st) en fun _ st1 => .nx en st1 := rfl
@[simp] theorem sNop_eq : sNop en st = .nx en st := rfl
@[simp] theorem sBreak_eq : sBreak en st = .bk en st := rfl
@[simp] theorem sCont_eq : sCont en st = .ct en st := rfl
@[simp] theorem sIf_eq {t : Tm} {a b : Sm} : sIf t a b en st = bindS (t en st) en fun k st1 => match k with
  | true => a en st1
  | false => b en st1 := rfl
@[simp] theorem sSeq_eq {a b : Sm} : sSeq a b en st = (a en st).then b := rfl
@[simp] theorem sRaise_eq {c : Nat} : sRaise c en st = .ex ⟨c, []⟩ en st := rfl
@[simp] theorem sSetIx_eq {mo mi mv : Em} : sSetIx mo mi mv en st = bindS (mv en st) en fun v st1 => bindS (mo en st1) en fun o st2 => bindS (mi en st2) en fun i st3 => setIxM o i v en st3 := rfl
@[simp] theorem sFor_eq {it : Am} {t : Tgt} {B : Sm} : sFor it t B en st = bindS (it en st) en fun xs st1 => forL t B xs en st1 := rfl
@[simp] theorem tName_eq {i : Nat} {a : PV} : tName i a en = some (en.set i (some a)) := rfl
@[simp] theorem datas_nil : datas [] = some [] := rfl
@[simp] theorem datas_d {x : PyData} {r : List PV} : datas (.d x :: r) = (datas r).map (x :: ·) := rfl
@[simp] theorem dataOf_d {x : PyData} : dataOf st (.d x) = some x := rfl
@[simp] theorem lstOf_d {xs : List PyData} : lstOf st (.d (.list xs)) = some (xs.map .d) := rfl
end
/-- a def's answer from its body's end -/
def fin : SR → Res PV
  | .nx _ st' => .ok (.d .none) st'
  | .rt a st' => .ok a st'
  | .ex e _ st' => .exc e st'
  | _ => .bad
@[simp] theorem fin_rt {a : PV} {st : Sto} : fin (.rt a st) = .ok a st := rfl
@[simp] theorem fin_nx {en : En} {st : Sto} : fin (.nx en st) = .ok (.d .none) st := rfl
@[simp] theorem fin_ex {e : Ex} {en : En} {st : Sto} : fin (.ex e en st) = .exc e st := rfl
theorem fnM_eq {n slots : Nat} {B : Sm} {as : List PV} {st : Sto} (h : as.length = n) : fnM n slots B as st = fin (B (as.map some ++ List.replicate (slots - n) none) st) := by
  unfold fnM fin
  rw [if_pos h] <;> (cases B (as.map some ++ List.replicate (slots - n) none) st <;> rfl)
end SB
namespace SB
open PySem PySem.Spec PyProof.Rows L2
@[simp] theorem forL_nil {t : Tgt} {B : Sm} {en : En} {st : Sto} : forL t B [] en st = .nx en st := rfl
theorem forL_cons {t : Tgt} {B : Sm} {x : PV} {xs : List PV} {en : En} {st : Sto} : forL t B (x :: xs) en st = (match t x en with
    | none => .bad
    | some en1 => match B en1 st with
      | .nx en2 st2 => forL t B xs en2 st2
      | .ct en2 st2 => forL t B xs en2 st2
      | .bk en2 st2 => .nx en2 st2
      | .rt a st2 => .rt a st2
      | .ex e en2 st2 => .ex e en2 st2
      | .bad => .bad) := rfl
end SB
namespace SB
open PySem PySem.Spec PyProof.Rows L2
theorem neM_int {i j : Int} {st : Sto} : neM (.d (.int i)) (.d (.int j)) st = .ok (.d (.bool (!(i == j)))) st := by
  simp [neM, eqD, eqOk, PyData.canLay0, PyData.depth, PyData.eqv]
theorem eqM_int {i j : Int} {st : Sto} : eqM (.d (.int i)) (.d (.int j)) st = .ok (.d (.bool (i == j))) st := by
  simp [eqM, eqD, eqOk, PyData.canLay0, PyData.depth, PyData.eqv]
/-- a for that never leaves early, by what holds between its turns -/
theorem forL_all {t : Tgt} {B : Sm} (P : En → Sto → Prop) : ∀ (xs : List PV) (en : En) (st : Sto), P en st →
    (∀ x ∈ xs, ∀ en st, P en st → ∃ en1 en2 st2, t x en = some en1 ∧ (B en1 st = .nx en2 st2 ∨ B en1 st = .ct en2 st2) ∧ P en2 st2) → ∃ en' st', forL t B xs en st = .nx en' st' ∧ P en' st'
  | [], en, st, h, _ => ⟨en, st, rfl, h⟩
  | x :: xs, en, st, h, hs => by
    obtain ⟨en1, en2, st2, e1, e2, h2⟩ := hs x (List.mem_cons_self ..) en st h
    obtain ⟨en3, st3, e3, h3⟩ := forL_all P xs en2 st2 h2 fun y hy => hs y (List.mem_cons_of_mem _ hy)
    refine ⟨en3, st3, ?_, h3⟩
    rw [forL_cons, e1]
    rcases e2 with e2 | e2 <;> (simp only [e2]; exact e3)
/-! ### the laws' own draws -/
abbrev I (i : Int) : PV := .d (.int i)
abbrev S (s : Str) : PV := .d (.str s)
/-- a pen: what is drawn from next, and how -/
def Pen (st : Sto) (i : Nat) : Prop := ∃ a k : Int, st[i]? = some (.lst [I a, I k])
theorem Pen.lt {st : Sto} {i : Nat} (h : Pen st i) : i < st.length := by
  obtain ⟨a, k, e⟩ := h
  exact (List.getElem?_eq_some_iff.mp e).1
theorem Pen.set {st : Sto} {i : Nat} (h : Pen st i) (a k : Int) : Pen (st.set i (.lst [I a, I k])) i := ⟨a, k, List.getElem?_set_self h.lt⟩
theorem Pen.new {st : Sto} {a k : Int} : Pen (st ++ [.lst [I a, I k]]) st.length := ⟨a, k, by simp⟩
end SB

/-! More calls allowed: the same answers. -/
namespace SB
open PySem PySem.Spec PyProof.Rows L2
def Le {α : Type} (r r' : Res α) : Prop := r = .bad ∨ r = r'
def LeS (r r' : SR) : Prop := r = .bad ∨ r = r'
abbrev MoE (m m' : Em) : Prop := ∀ en st, Le (m en st) (m' en st)
abbrev MoT (m m' : Tm) : Prop := ∀ en st, Le (m en st) (m' en st)
abbrev MoA (m m' : Am) : Prop := ∀ en st, Le (m en st) (m' en st)
abbrev MoO (m m' : En → M (Option Int)) : Prop := ∀ en st, Le (m en st) (m' en st)
abbrev MoS (m m' : Sm) : Prop := ∀ en st, LeS (m en st) (m' en st)
abbrev LeN (f f' : OpN) : Prop := ∀ as st, Le (f as st) (f' as st)
theorem Le.rfl {α : Type} {r : Res α} : Le r r := .inr _root_.rfl
theorem LeS.rfl {r : SR} : LeS r r := .inr _root_.rfl
theorem Le.bnd {α β : Type} {r r' : Res α} {f f' : α → M β} (h : Le r r') (g : ∀ a st, Le (f a st) (f' a st)) : Le (r.bind f) (r'.bind f') := by
  rcases h with h | h
  · rw [h]; exact .inl _root_.rfl
  · rw [h]
    cases r' with
    | ok a st => exact g a st
    | exc e st => exact .rfl
    | bad => exact .rfl
theorem LeS.bnd {α : Type} {r r' : Res α} {en : En} {f f' : α → Sto → SR} (h : Le r r') (g : ∀ a st, LeS (f a st) (f' a st)) : LeS (bindS r en f) (bindS r' en f') := by
  rcases h with h | h
  · rw [h]; exact .inl _root_.rfl
  · rw [h]
    cases r' with
    | ok a st => exact g a st
    | exc e st => exact .rfl
    | bad => exact .rfl
section
variable {m m' a a' b b' c c' : Em} {t t' : Am} {ta ta' tb tb' : Tm} {op op2 : Op2} {f f' : OpN} {B B' C C' : Sm} {l l' h h' : En → M (Option Int)} {tg : Tgt}
theorem mo_e : MoE m m := fun _ _ => .rfl
theorem mo_t : MoT ta ta := fun _ _ => .rfl
theorem mo_a : MoA t t := fun _ _ => .rfl
theorem mo_o : MoO l l := fun _ _ => .rfl
theorem mo_s : MoS B B := fun _ _ => .rfl
theorem mo_bin (h1 : MoE a a') (h2 : MoE b b') : MoE (mBin op a b) (mBin op a' b') := fun en st => .bnd (h1 en st) fun _ st1 => .bnd (h2 en st1) fun _ _ => .rfl
theorem mo_chain (h1 : MoE a a') (h2 : MoE b b') (h3 : MoE c c') : MoE (mChain op op2 a b c) (mChain op op2 a' b' c') := fun en st => .bnd (h1 en st) fun _ st1 => .bnd (h2 en st1) fun _ st2 => .bnd .rfl fun _ _ => .bnd .rfl fun k st3 => by
  cases k
  · exact .rfl
  · exact .bnd (h3 en st3) fun _ _ => .rfl
theorem mo_b (h1 : MoE a a') : MoT (mB a) (mB a') := fun en st => .bnd (h1 en st) fun _ _ => .rfl
theorem mo_andV (h1 : MoE a a') (h2 : MoE b b') : MoE (mAndV a b) (mAndV a' b') := fun en st => .bnd (h1 en st) fun _ _ => .bnd .rfl fun k st2 => by
  cases k
  · exact .rfl
  · exact h2 en st2
theorem mo_orV (h1 : MoE a a') (h2 : MoE b b') : MoE (mOrV a b) (mOrV a' b') := fun en st => .bnd (h1 en st) fun _ _ => .bnd .rfl fun k st2 => by
  cases k
  · exact h2 en st2
  · exact .rfl
theorem mo_notV (h1 : MoE a a') : MoE (mNotV a) (mNotV a') := fun en st => .bnd (h1 en st) fun _ _ => .rfl
theorem mo_and (h1 : MoT ta ta') (h2 : MoT tb tb') : MoT (mAnd ta tb) (mAnd ta' tb') := fun en st => .bnd (h1 en st) fun k st2 => by
  cases k
  · exact .rfl
  · exact h2 en st2
theorem mo_or (h1 : MoT ta ta') (h2 : MoT tb tb') : MoT (mOr ta tb) (mOr ta' tb') := fun en st => .bnd (h1 en st) fun k st2 => by
  cases k
  · exact h2 en st2
  · exact .rfl
theorem mo_not (h1 : MoT ta ta') : MoT (mNot ta) (mNot ta') := fun en st => .bnd (h1 en st) fun _ _ => .rfl
theorem mo_ifx (h1 : MoT ta ta') (h2 : MoE a a') (h3 : MoE b b') : MoE (mIf ta a b) (mIf ta' a' b') := fun en st => .bnd (h1 en st) fun k st2 => by
  cases k
  · exact h3 en st2
  · exact h2 en st2
theorem mo_cons (h1 : MoE a a') (h2 : MoA t t') : MoA (mCons a t) (mCons a' t') := fun en st => .bnd (h1 en st) fun _ st1 => .bnd (h2 en st1) fun _ _ => .rfl
theorem mo_tup (h1 : MoA t t') : MoE (mTup t) (mTup t') := fun en st => .bnd (h1 en st) fun _ _ => .rfl
theorem mo_lst (h1 : MoA t t') : MoE (mLst t) (mLst t') := fun en st => .bnd (h1 en st) fun _ _ => .rfl
theorem mo_new (h1 : MoA t t') : MoE (mNew t) (mNew t') := fun en st => .bnd (h1 en st) fun _ _ => .rfl
theorem mo_cut (h1 : MoE m m') (h2 : MoO l l') (h3 : MoO h h') : MoE (mCut m l h) (mCut m' l' h') := fun en st => .bnd (h1 en st) fun _ st1 => .bnd (h2 en st1) fun _ st2 => .bnd (h3 en st2) fun _ _ => .rfl
theorem mo_part (h1 : MoE m m') : MoO (oPart (some m)) (oPart (some m')) := fun en st => .bnd (h1 en st) fun _ _ => .rfl
theorem mo_call (h0 : LeN f f') (h1 : MoA t t') : MoE (mCall f t) (mCall f' t') := fun en st => .bnd (h1 en st) fun as st1 => h0 as st1
theorem mo_call0 (h0 : LeN f f') : MoE (mCall0 f) (mCall0 f') := fun _ st => h0 [] st
theorem mo_isi {k : Kd} (h1 : MoE m m') : MoE (isiM k m) (isiM k m') := fun en st => .bnd (h1 en st) fun _ _ => .rfl
theorem mo_it (h1 : MoE m m') : MoA (itM m) (itM m') := fun en st => .bnd (h1 en st) fun _ _ => .rfl
theorem mo_rng1 (h1 : MoA t t') : MoA (rng1M t) (rng1M t') := fun en st => .bnd (h1 en st) fun _ _ => .rfl
theorem mo_rng2 (h1 : MoA t t') : MoA (rng2M t) (rng2M t') := fun en st => .bnd (h1 en st) fun _ _ => .rfl
theorem mo_set {i : Nat} (h1 : MoE m m') : MoS (sSet i m) (sSet i m') := fun en st => .bnd (h1 en st) fun _ _ => .rfl
theorem mo_ret (h1 : MoE m m') : MoS (sRet m) (sRet m') := fun en st => .bnd (h1 en st) fun _ _ => .rfl
theorem mo_do (h1 : MoE m m') : MoS (sDo m) (sDo m') := fun en st => .bnd (h1 en st) fun _ _ => .rfl
theorem mo_setix (h1 : MoE a a') (h2 : MoE b b') (h3 : MoE c c') : MoS (sSetIx a b c) (sSetIx a' b' c') := fun en st => .bnd (h3 en st) fun _ st1 => .bnd (h1 en st1) fun _ st2 => .bnd (h2 en st2) fun _ _ => .rfl
theorem mo_if (h1 : MoT ta ta') (h2 : MoS B B') (h3 : MoS C C') : MoS (sIf ta B C) (sIf ta' B' C') := fun en st => .bnd (h1 en st) fun k st2 => by
  cases k
  · exact h3 en st2
  · exact h2 en st2
theorem mo_seq (h1 : MoS B B') (h2 : MoS C C') : MoS (sSeq B C) (sSeq B' C') := fun en st => by
  show LeS ((B en st).then C) ((B' en st).then C')
  rcases h1 en st with h | h
  · rw [h]; exact .inl rfl
  · rw [h]
    cases B' en st with
    | nx en' st' => exact h2 en' st'
    | _ => exact .rfl
theorem mo_forL (h2 : MoS B B') : ∀ xs, MoS (forL tg B xs) (forL tg B' xs)
  | [], _, _ => .rfl
  | x :: xs, en, st => by
    show LeS (forL tg B (x :: xs) en st) (forL tg B' (x :: xs) en st)
    rw [forL_cons, forL_cons]
    cases tg x en with
    | none => exact .rfl
    | some en1 =>
      simp only
      rcases h2 en1 st with h | h
      · rw [h]; exact .inl rfl
      · rw [h]
        cases B' en1 st with
        | nx en' st' => exact mo_forL h2 xs en' st'
        | ct en' st' => exact mo_forL h2 xs en' st'
        | _ => exact .rfl
theorem mo_for (h1 : MoA t t') (h2 : MoS B B') : MoS (sFor t tg B) (sFor t' tg B') := fun en st => .bnd (h1 en st) fun xs st1 => mo_forL h2 xs en st1
theorem mo_whL (h1 : MoT ta ta') (h2 : MoS B B') : ∀ n, MoS (whL ta B n) (whL ta' B' n)
  | 0, _, _ => .rfl
  | n + 1, en, st => .bnd (h1 en st) fun k st1 => by
    cases k
    · exact .rfl
    · simp only
      rcases h2 en st1 with h | h
      · rw [h]; exact .inl rfl
      · rw [h]
        cases B' en st1 with
        | nx en' st' => exact mo_whL h1 h2 n en' st'
        | ct en' st' => exact mo_whL h1 h2 n en' st'
        | _ => exact .rfl
theorem mo_while {n : Nat} (h1 : MoT ta ta') (h2 : MoS B B') : MoS (sWhile n ta B) (sWhile n ta' B') := mo_whL h1 h2 n
theorem mo_fn {n s : Nat} (h : MoS B B') : LeN (fnM n s B) (fnM n s B') := fun as st => by
  by_cases e : as.length = n
  · rw [fnM_eq e, fnM_eq e]
    rcases h (as.map some ++ List.replicate (s - n) none) st with q | q
    · rw [q]; exact .inl rfl
    · rw [q]; exact .rfl
  · have z : ∀ C : Sm, fnM n s C as st = .bad := fun C => if_neg e
    rw [z, z]
    exact .rfl
theorem Le.ok {α : Type} {r r' : Res α} {a : α} {st : Sto} (h : Le r r') (e : r = .ok a st) : r' = .ok a st := by
  rcases h with h | h
  · rw [h] at e; cases e
  · rw [← h]; exact e
theorem Le.exc {α : Type} {r r' : Res α} {a : Ex} {st : Sto} (h : Le r r') (e : r = .exc a st) : r' = .exc a st := by
  rcases h with h | h
  · rw [h] at e; cases e
  · rw [← h]; exact e
end
end SB

/-! What the laws draw by, once for all of them. -/
namespace SB
open PySem PySem.Spec PyProof.Rows L2
def cellB : Sm := (sSeq (sIf (mB (mBin ltM (mV 1) (mCall lenM (mCons (mV 0) mNil)))) (sRet (mBin ixM (mV 0) (mV 1))) sNop)
    (sRet (mK (.int 0))))
def penB : Sm := (sRet (mNew (mCons (mV 0) (mCons (mCall intM (mCons (mBin geM (mV 0) (mBin powM (mK (.int 10)) (mK (.int 18)))) mNil)) mNil))))
def drawB : Sm := (sSeq (sIf (mB (mBin eqM (mBin ixM (mV 0) (mK (.int 1))) (mK (.int 1)))) (sSeq (sSet 2 (mBin modM (mBin ixM (mV 0) (mK (.int 0))) (mV 1)))
    (sSeq (sSetIx (mV 0) (mK (.int 0)) (mBin fdivM (mBin ixM (mV 0) (mK (.int 0))) (mV 1)))
    (sRet (mV 2)))) sNop)
    (sSeq (sSetIx (mV 0) (mK (.int 0)) (mBin modM (mBin addM (mBin mulM (mBin modM (mBin ixM (mV 0) (mK (.int 0))) (mK (.int 2147483629))) (mK (.int 48271))) (mK (.int 11))) (mK (.int 2147483629))))
    (sRet (mBin modM (mBin fdivM (mBin modM (mBin addM (mBin mulM (mBin ixM (mV 0) (mK (.int 0))) (mBin ixM (mV 0) (mK (.int 0)))) (mBin mulM (mK (.int 40692)) (mBin ixM (mV 0) (mK (.int 0))))) (mK (.int 2147483647))) (mK (.int 8))) (mV 1)))))
theorem pen_run (c : Int) (st : Sto) : ∃ k : Int, fin (penB [some (I c)] st) = .ok (.ref st.length) (st ++ [.lst [I c, I k]]) := by
  refine ⟨if decide ((10 : Int) ^ 18 ≤ c) = true then 1 else 0, ?_⟩
  simp [penB, powM, geM, intM, newM, sizeLine_eq]
theorem ix0 {st : Sto} {i : Nat} {a k : Int} (e : st[i]? = some (.lst [I a, I k])) : ixM (.ref i) (I 0) st = .ok (I a) st := by simp [ixM, lstOf, e, atI, ixN]
theorem ix1 {st : Sto} {i : Nat} {a k : Int} (e : st[i]? = some (.lst [I a, I k])) : ixM (.ref i) (I 1) st = .ok (I k) st := by simp [ixM, lstOf, e, atI, ixN]
theorem draw_run (i : Nat) (m : Int) (st : Sto) (h : Pen st i) (h1 : 0 < m) (h2 : m < 1073741824) : ∃ (d : Int) (st' : Sto), fin (drawB [some (.ref i), some (I m), none] st) = .ok (I d) st' ∧ 0 ≤ d ∧ d < m ∧ ∃ a k : Int, st' = st.set i (.lst [I a, I k]) := by
  obtain ⟨a, k, e⟩ := id h
  by_cases hk : k = 1
  · subst hk
    refine ⟨a % m, st.set i (.lst [I (a / m), I 1]), ?_, Int.emod_nonneg _ (by omega), Int.emod_lt_of_pos _ h1, _, _, rfl⟩
    simp [drawB, ixM, lstOf, e, atI, ixN, eqM_int, modM, h1, fdivM, h2, setIxM]
  · obtain ⟨b, hb⟩ : ∃ b, b = (a % 2147483629 * 48271 + 11) % 2147483629 := ⟨_, rfl⟩
    have hb0 : 0 ≤ b ∧ b < 2147483629 := by omega
    have e2 : (st.set i (.lst [I b, I k]))[i]? = some (.lst [I b, I k]) := List.getElem?_set_self h.lt
    refine ⟨(b * b + 40692 * b) % 2147483647 / 8 % m, st.set i (.lst [I b, I k]), ?_, Int.emod_nonneg _ (by omega), Int.emod_lt_of_pos _ h1, _, _, rfl⟩
    have hk2 : (k == 1) = false := by simp [hk]
    have m1 : mulM (I (a % 2147483629)) (I 48271) st = .ok (I (a % 2147483629 * 48271)) st := by
      simp [mulM]
    have m2 : ∀ st, mulM (I b) (I b) st = .ok (I (b * b)) st := fun st => by
      simp only [mulM, i2_eq]
      rw [if_pos (by omega)]
    have m3 : ∀ st, mulM (I 40692) (I b) st = .ok (I (40692 * b)) st := fun st => by
      simp only [mulM, i2_eq]
      rw [if_pos (by omega)]
    have md : ∀ (x y : Int) (st : Sto), 0 < y → modM (I x) (I y) st = .ok (I (x % y)) st := fun x y st hy => by
      simp only [modM, i2_eq]
      rw [if_pos hy]
    have fd : ∀ (x : Int) (st : Sto), fdivM (I x) (I 8) st = .ok (I (x / 8)) st := fun x st => by
      simp only [fdivM, i2_eq]
      rw [if_pos (by omega)]
    have ad : ∀ (x y : Int) (st : Sto), addM (I x) (I y) st = .ok (I (x + y)) st := fun x y st => rfl
    have se : setIxM (.ref i) (I 0) (I b) [some (.ref i), some (I m), none] st = .nx [some (.ref i), some (I m), none] (st.set i (.lst [I b, I k])) := by
      simp [setIxM, e, ixN]
    simp only [drawB, sSeq_eq, sIf_eq, mB_eq, mBin_eq, mV_eq, mK_eq, List.getElem?_cons_zero, List.getElem?_cons_succ, bind_ok, ix1 e, eqM_int, hk2, asB_eq, bindS_ok, sNop_eq, then_nx, sSetIx_eq, ix0 e, md _ _ _ (show (0 : Int) < 2147483629 by omega), m1, ad, ← hb, se, sRet_eq, ix0 e2, m2, m3, md _ _ _ (show (0 : Int) < 2147483647 by omega), fd, md _ _ _ h1, fin_rt]
/-- the cells that a law goes by: the first, or 0, and some behind it -/
theorem cell_run (ns : List Int) (st : Sto) (h : ns.length ≤ 63) : fin (cellB [some (scriptD ns), some (I 0)] st) = .ok (I (ns.headD 0)) st := by
  unfold cellB scriptD
  cases ns with
  | nil => simp [lenM, ltM]
  | cons a l => simp [lenM, ltM, ixM, lstOf, atI, ixN]
theorem datas_ints : ∀ l : List Int, datas ((l.map PyData.int).map PV.d) = some (l.map PyData.int)
  | [] => rfl
  | a :: l => by
    simp only [List.map_cons, datas_d, datas_ints l, Option.map_some]
theorem cut_run (ns : List Int) (hi : Nat) (st : Sto) (h : 1 ≤ hi) : cutM (scriptD ns) (some 1) (some (hi : Int)) st = .ok (.d (.list (((ns.drop 1).take (hi - 1)).map .int))) st := by
  have e : cutL ((ns.map PyData.int).map PV.d) (some 1) (some (hi : Int)) = (((ns.drop 1).take (hi - 1)).map PyData.int).map PV.d := by
    unfold cutL
    rw [HT.sIx_nat _ _ hi, show (some (1 : Int)) = some ((1 : Nat) : Int) from rfl, HT.sIx_nat _ _ 1]
    cases ns with
    | nil => simp
    | cons a l =>
      rw [List.length_map, List.length_map, List.length_cons]
      rw [show min 1 (l.length + 1) = 1 by omega]
      simp only [List.map_cons, List.drop_succ_cons, List.drop_zero, ← List.map_take]
      by_cases q : hi ≤ l.length + 1
      · rw [show min hi (l.length + 1) - 1 = hi - 1 by omega]
      · rw [show min hi (l.length + 1) - 1 = l.length by omega, List.take_of_length_le (Nat.le_refl _), List.take_of_length_le (by omega)]
  unfold cutM scriptD
  simp only [lstOf_d, e, datas_ints]
/-- the cells: as data -/
def cells (ns : List Int) (hi : Nat) : List Int := ns.headD 0 :: (ns.drop 1).take (hi - 1)
theorem cells_run (ns : List Int) (hi : Nat) (st : Sto) (h : 1 ≤ hi) (h2 : ns.length ≤ 63) : addM (.d (.list [.int (ns.headD 0)])) (.d (.list (((ns.drop 1).take (hi - 1)).map .int))) st = .ok (.d (.list ((cells ns hi).map .int))) st := by
  have e : datas ((PV.d (.int (ns.headD 0))) :: (((ns.drop 1).take (hi - 1)).map PyData.int).map PV.d) = some ((cells ns hi).map .int) := by
    have := datas_ints (cells ns hi)
    simpa [cells] using this
  have l : ((ns.drop 1).take (hi - 1)).length ≤ 63 := by simp; omega
  simp only [addM, lstOf_d, List.map_cons, List.map_nil, List.cons_append, List.nil_append, e]
  rw [if_pos]
  simp only [List.length_cons, List.length_nil, List.length_map]
  rw [sizeLine_eq]
  omega
theorem rng1_if {s : Int} {st : Sto} {en : En} {t : Am} (h : t en st = .ok [I s] st) : rng1M t en st = if -(2 ^ 62) ≤ s ∧ s < 2 ^ 62 then .ok ((rngL 0 s.toNat).map PV.d) st else .bad := by
  simp only [rng1M, h, bind_ok]
theorem rng1_int {s : Int} {st : Sto} {en : En} {t : Am} (h : t en st = .ok [I s] st) (c : -(2 ^ 62) ≤ s ∧ s < 2 ^ 62) : rng1M t en st = .ok ((rngL 0 s.toNat).map PV.d) st := by
  rw [rng1_if h, if_pos c]
/-- range(s), s small -/
theorem rng1_run {s : Nat} {st : Sto} {en : En} {t : Am} (h : t en st = .ok [I s] st) (hs : s ≤ 1000000) : rng1M t en st = .ok ((rngL 0 s).map PV.d) st := rng1_int h (by omega)
theorem rng_mem {n : Nat} {p : PV} (h : p ∈ (rngL 0 n).map PV.d) : ∃ x, x < n ∧ p = I (x : Nat) := by
  simp [rngL] at h
  obtain ⟨x, h1, h2⟩ := h
  exact ⟨x, h1, h2.symm⟩
end SB

namespace Lk02
open PySem PySem.Spec PyProof.Rows L2 SB
def top (i : Nat) : Stmt := PySem.Challenge.pw_sparebits_k02_whole_reckoning.main.body.getD i (.Pass ⟨0, 0, 0, 0⟩)
abbrev st0 : Stmt := top 9
abbrev st1 : Stmt := top 10
abbrev st2 : Stmt := top 11
abbrev st3 : Stmt := top 12
abbrev st4 : Stmt := top 13
abbrev st5 : Stmt := top 14
abbrev st6 : Stmt := top 15
abbrev st7 : Stmt := top 16
abbrev st8 : Stmt := top 18
abbrev st9 : Stmt := top 19
abbrev st10 : Stmt := top 20
abbrev st11 : Stmt := top 21
abbrev st12 : Stmt := top 22
abbrev st13 : Stmt := top 23
/-! ### the defs as plain functions -/
/-- is_number(thing): 0 thing -/
def B0 (F : Nat → OpN) : Sm := (sRet (mAndV (isiM .int (mV 0)) (mNotV (isiM .bool (mV 0)))))
/-- is_from(thing, least, greatest): 0 thing 1 least 2 greatest -/
def B1 (F : Nat → OpN) : Sm := (sRet (mAndV (mCall (F 0) (mCons (mV 0) mNil)) (mChain leM leM (mV 1) (mV 0) (mV 2))))
/-- need_wide(thing): 0 thing -/
def B2 (F : Nat → OpN) : Sm := (sIf (mNot (mB (mCall (F 1) (mCons (mV 0) (mCons (mK (.int 1)) (mCons (mK (.int 4)) mNil)))))) (sRaise 1) sNop)
/-- size_of(wide): 0 wide -/
def B3 (F : Nat → OpN) : Sm := (sRet (mBin ixM (mK (.tuple [(.int 1), (.int 2), (.int 4), (.int 8), (.int 16)])) (mV 0)))
/-- is_operation(thing): 0 thing -/
def B4 (F : Nat → OpN) : Sm := (sRet (mAndV (isiM .str (mV 0)) (mBin inM (mV 0) (mK (.tuple [(.str "add"), (.str "sub"), (.str "mul"), (.str "div"), (.str "and"), (.str "or"), (.str "xor"), (.str "less"), (.str "same")])))))
/-- is_value(wide, thing): 0 wide 1 thing -/
def B5 (F : Nat → OpN) : Sm := (sRet (mCall (F 1) (mCons (mV 1) (mCons (mK (.int 0)) (mCons (mBin subM (mCall (F 3) (mCons (mV 0) mNil)) (mK (.int 1))) mNil)))))
/-- outcome(wide, operation, one, other): 0 wide 1 operation 2 one 3 other -/
def B6 (F : Nat → OpN) : Sm := (sSeq (sIf (mB (mBin eqM (mV 1) (mK (.str "div")))) (sRet (mIf (mB (mBin eqM (mV 3) (mK (.int 0)))) (mK .none) (mBin fdivM (mV 2) (mV 3)))) sNop)
    (sSeq (sIf (mB (mBin eqM (mV 1) (mK (.str "add")))) (sRet (mBin modM (mBin addM (mV 2) (mV 3)) (mCall (F 3) (mCons (mV 0) mNil)))) sNop)
    (sSeq (sIf (mB (mBin eqM (mV 1) (mK (.str "sub")))) (sRet (mBin modM (mBin subM (mV 2) (mV 3)) (mCall (F 3) (mCons (mV 0) mNil)))) sNop)
    (sSeq (sIf (mB (mBin eqM (mV 1) (mK (.str "mul")))) (sRet (mBin modM (mBin mulM (mV 2) (mV 3)) (mCall (F 3) (mCons (mV 0) mNil)))) sNop)
    (sSeq (sIf (mB (mBin eqM (mV 1) (mK (.str "and")))) (sRet (mBin andM (mV 2) (mV 3))) sNop)
    (sSeq (sIf (mB (mBin eqM (mV 1) (mK (.str "or")))) (sRet (mBin orM (mV 2) (mV 3))) sNop)
    (sSeq (sIf (mB (mBin eqM (mV 1) (mK (.str "xor")))) (sRet (mBin xorM (mV 2) (mV 3))) sNop)
    (sRet (mIf (mB (mBin eqM (mV 1) (mK (.str "less")))) (mCall intM (mCons (mBin ltM (mV 2) (mV 3)) mNil)) (mCall intM (mCons (mBin eqM (mV 2) (mV 3)) mNil)))))))))))
/-- reckoned(wide, operation, one, other): 0 wide 1 operation 2 one 3 other -/
def B7 (F : Nat → OpN) : Sm := (sSeq (sDo (mCall (F 2) (mCons (mV 0) mNil)))
    (sSeq (sIf (mNot (mB (mCall (F 4) (mCons (mV 1) mNil)))) (sRaise 2) sNop)
    (sSeq (sIf (mOr (mNot (mB (mCall (F 5) (mCons (mV 0) (mCons (mV 2) mNil))))) (mNot (mB (mCall (F 5) (mCons (mV 0) (mCons (mV 3) mNil)))))) (sRaise 3) sNop)
    (sRet (mCall (F 6) (mCons (mV 0) (mCons (mV 1) (mCons (mV 2) (mCons (mV 3) mNil)))))))))
/-- _law_cell(_law_script, _law_k): 0 _law_script 1 _law_k -/
def B8 (F : Nat → OpN) : Sm := (sSeq (sIf (mB (mBin ltM (mV 1) (mCall lenM (mCons (mV 0) mNil)))) (sRet (mBin ixM (mV 0) (mV 1))) sNop)
    (sRet (mK (.int 0))))
/-- _law_pen(_law_cell_here): 0 _law_cell_here -/
def B9 (F : Nat → OpN) : Sm := (sRet (mNew (mCons (mV 0) (mCons (mCall intM (mCons (mBin geM (mV 0) (mBin powM (mK (.int 10)) (mK (.int 18)))) mNil)) mNil))))
/-- _law_draw(_law_pen_here, _law_many): 0 _law_pen_here 1 _law_many 2 _law_digit -/
def B10 (F : Nat → OpN) : Sm := (sSeq (sIf (mB (mBin eqM (mBin ixM (mV 0) (mK (.int 1))) (mK (.int 1)))) (sSeq (sSet 2 (mBin modM (mBin ixM (mV 0) (mK (.int 0))) (mV 1)))
    (sSeq (sSetIx (mV 0) (mK (.int 0)) (mBin fdivM (mBin ixM (mV 0) (mK (.int 0))) (mV 1)))
    (sRet (mV 2)))) sNop)
    (sSeq (sSetIx (mV 0) (mK (.int 0)) (mBin modM (mBin addM (mBin mulM (mBin modM (mBin ixM (mV 0) (mK (.int 0))) (mK (.int 2147483629))) (mK (.int 48271))) (mK (.int 11))) (mK (.int 2147483629))))
    (sRet (mBin modM (mBin fdivM (mBin modM (mBin addM (mBin mulM (mBin ixM (mV 0) (mK (.int 0))) (mBin ixM (mV 0) (mK (.int 0)))) (mBin mulM (mK (.int 40692)) (mBin ixM (mV 0) (mK (.int 0))))) (mK (.int 2147483647))) (mK (.int 8))) (mV 1)))))
/-- _law_two_right(_law_wide, _law_one, _law_other): 0 _law_wide 1 _law_one 2 _law_other 3 _law_word 4 _law_some 5 _law_both 6 _law_many -/
def B11 (F : Nat → OpN) : Sm := (sSeq (sFor (itM (mTup (mCons (mK (.str "add")) (mCons (mK (.str "mul")) (mCons (mK (.str "and")) (mCons (mK (.str "or")) (mCons (mK (.str "xor")) (mCons (mK (.str "same")) mNil)))))))) (tName 3) (sIf (mB (mBin neM (mCall (F 7) (mCons (mV 0) (mCons (mV 3) (mCons (mV 1) (mCons (mV 2) mNil))))) (mCall (F 7) (mCons (mV 0) (mCons (mV 3) (mCons (mV 2) (mCons (mV 1) mNil))))))) (sRet (mK (.bool false))) sNop))
    (sSeq (sIf (mB (mBin neM (mCall (F 7) (mCons (mV 0) (mCons (mK (.str "add")) (mCons (mCall (F 7) (mCons (mV 0) (mCons (mK (.str "sub")) (mCons (mV 1) (mCons (mV 2) mNil))))) (mCons (mV 2) mNil))))) (mV 1))) (sRet (mK (.bool false))) sNop)
    (sSeq (sIf (mB (mBin neM (mCall (F 7) (mCons (mV 0) (mCons (mK (.str "xor")) (mCons (mCall (F 7) (mCons (mV 0) (mCons (mK (.str "xor")) (mCons (mV 1) (mCons (mV 2) mNil))))) (mCons (mV 2) mNil))))) (mV 1))) (sRet (mK (.bool false))) sNop)
    (sSeq (sSet 4 (mLst (mCons (mCall (F 7) (mCons (mV 0) (mCons (mK (.str "less")) (mCons (mV 1) (mCons (mV 2) mNil))))) (mCons (mCall (F 7) (mCons (mV 0) (mCons (mK (.str "same")) (mCons (mV 1) (mCons (mV 2) mNil))))) (mCons (mCall (F 7) (mCons (mV 0) (mCons (mK (.str "less")) (mCons (mV 2) (mCons (mV 1) mNil))))) mNil)))))
    (sSeq (sIf (mOr (mB (mBin neM (mCall sortedM (mCons (mV 4) mNil)) (mLst (mCons (mK (.int 0)) (mCons (mK (.int 0)) (mCons (mK (.int 1)) mNil)))))) (mB (mBin neM (mBin ixM (mV 4) (mK (.int 1))) (mCall intM (mCons (mBin eqM (mV 1) (mV 2)) mNil))))) (sRet (mK (.bool false))) sNop)
    (sSeq (sSet 5 (mCall (F 7) (mCons (mV 0) (mCons (mK (.str "add")) (mCons (mCall (F 7) (mCons (mV 0) (mCons (mK (.str "and")) (mCons (mV 1) (mCons (mV 2) mNil))))) (mCons (mCall (F 7) (mCons (mV 0) (mCons (mK (.str "or")) (mCons (mV 1) (mCons (mV 2) mNil))))) mNil))))))
    (sSeq (sIf (mB (mBin neM (mV 5) (mCall (F 7) (mCons (mV 0) (mCons (mK (.str "add")) (mCons (mV 1) (mCons (mV 2) mNil))))))) (sRet (mK (.bool false))) sNop)
    (sSeq (sSet 6 (mCall (F 7) (mCons (mV 0) (mCons (mK (.str "div")) (mCons (mV 1) (mCons (mV 2) mNil))))))
    (sSeq (sIf (mOr (mB (mBin eqM (mV 2) (mK (.int 0)))) (mB (mBin isM (mV 6) (mK .none)))) (sRet (mAndV (mBin eqM (mV 2) (mK (.int 0))) (mBin isM (mV 6) (mK .none)))) sNop)
    (sRet (mChain leM ltM (mK (.int 0)) (mBin subM (mV 1) (mBin mulM (mV 6) (mV 2))) (mV 2))))))))))))
/-- _law_three_right(_law_wide, _law_one, _law_other, _law_third): 0 _law_wide 1 _law_one 2 _law_other 3 _law_third 4 _law_word 5 _law_first 6 _law_sums 7 _law_products -/
def B12 (F : Nat → OpN) : Sm := (sSeq (sFor (itM (mTup (mCons (mK (.str "add")) (mCons (mK (.str "mul")) (mCons (mK (.str "and")) (mCons (mK (.str "or")) (mCons (mK (.str "xor")) mNil))))))) (tName 4) (sSeq (sSet 5 (mCall (F 7) (mCons (mV 0) (mCons (mV 4) (mCons (mCall (F 7) (mCons (mV 0) (mCons (mV 4) (mCons (mV 1) (mCons (mV 2) mNil))))) (mCons (mV 3) mNil))))))
    (sIf (mB (mBin neM (mV 5) (mCall (F 7) (mCons (mV 0) (mCons (mV 4) (mCons (mV 1) (mCons (mCall (F 7) (mCons (mV 0) (mCons (mV 4) (mCons (mV 2) (mCons (mV 3) mNil))))) mNil))))))) (sRet (mK (.bool false))) sNop)))
    (sSeq (sSet 6 (mCall (F 7) (mCons (mV 0) (mCons (mK (.str "mul")) (mCons (mV 1) (mCons (mCall (F 7) (mCons (mV 0) (mCons (mK (.str "add")) (mCons (mV 2) (mCons (mV 3) mNil))))) mNil))))))
    (sSeq (sSet 7 (mLst (mCons (mCall (F 7) (mCons (mV 0) (mCons (mK (.str "mul")) (mCons (mV 1) (mCons (mV 2) mNil))))) (mCons (mCall (F 7) (mCons (mV 0) (mCons (mK (.str "mul")) (mCons (mV 1) (mCons (mV 3) mNil))))) mNil))))
    (sRet (mBin eqM (mV 6) (mCall (F 7) (mCons (mV 0) (mCons (mK (.str "add")) (mCons (mBin ixM (mV 7) (mK (.int 0))) (mCons (mBin ixM (mV 7) (mK (.int 1))) mNil))))))))))
/-- law(_law_script): 0 _law_script 1 _law_cell_here 2 _law_pen_here 3 _law_wide 4 _law_size 5 _law_one 6 _law_other -/
def B13 (F : Nat → OpN) : Sm := (sSeq (sFor (itM (mBin addM (mLst (mCons (mCall (F 8) (mCons (mV 0) (mCons (mK (.int 0)) mNil))) mNil)) (mCut (mV 0) (oPart (some (mK (.int 1)))) (oPart (some (mK (.int 4))))))) (tName 1) (sSeq (sSet 2 (mCall (F 9) (mCons (mV 1) mNil)))
    (sSeq (sSet 3 (mBin addM (mK (.int 1)) (mCall (F 10) (mCons (mV 2) (mCons (mK (.int 4)) mNil)))))
    (sSeq (sSet 4 (mBin ixM (mLst (mCons (mK (.int 1)) (mCons (mK (.int 2)) (mCons (mK (.int 4)) (mCons (mK (.int 8)) (mCons (mK (.int 16)) mNil)))))) (mV 3)))
    (sFor (rng1M (mCons (mV 4) mNil)) (tName 5) (sFor (rng1M (mCons (mV 4) mNil)) (tName 6) (sSeq (sIf (mNot (mB (mCall (F 11) (mCons (mV 3) (mCons (mV 5) (mCons (mV 6) mNil)))))) (sRet (mK (.bool false))) sNop)
    (sIf (mNot (mB (mCall (F 12) (mCons (mV 3) (mCons (mV 5) (mCons (mV 6) (mCons (mCall (F 10) (mCons (mV 2) (mCons (mV 4) mNil))) mNil))))))) (sRet (mK (.bool false))) sNop))))))))
    (sRet (mK (.bool true))))
def bodies (F : Nat → OpN) : Nat → OpN
  | 0 => fnM 1 1 (B0 F)
  | 1 => fnM 3 3 (B1 F)
  | 2 => fnM 1 1 (B2 F)
  | 3 => fnM 1 1 (B3 F)
  | 4 => fnM 1 1 (B4 F)
  | 5 => fnM 2 2 (B5 F)
  | 6 => fnM 4 4 (B6 F)
  | 7 => fnM 4 4 (B7 F)
  | 8 => fnM 2 2 (B8 F)
  | 9 => fnM 1 1 (B9 F)
  | 10 => fnM 2 3 (B10 F)
  | 11 => fnM 3 7 (B11 F)
  | 12 => fnM 4 8 (B12 F)
  | 13 => fnM 1 7 (B13 F)
  | _ => fun _ _ => .bad
/-- so many calls within one another -/
def run : Nat → Nat → OpN
  | 0 => fun _ _ _ => .bad
  | n + 1 => bodies (run n)
theorem c0 (n : Nat) (a0 : PV) (st : Sto) : run (n + 1) 0 [a0] st = fin (B0 (run n) [some a0] st) := @fnM_eq 1 1 (B0 (run n)) [a0] st rfl
theorem c1 (n : Nat) (a0 a1 a2 : PV) (st : Sto) : run (n + 1) 1 [a0, a1, a2] st = fin (B1 (run n) [some a0, some a1, some a2] st) := @fnM_eq 3 3 (B1 (run n)) [a0, a1, a2] st rfl
theorem c2 (n : Nat) (a0 : PV) (st : Sto) : run (n + 1) 2 [a0] st = fin (B2 (run n) [some a0] st) := @fnM_eq 1 1 (B2 (run n)) [a0] st rfl
theorem c3 (n : Nat) (a0 : PV) (st : Sto) : run (n + 1) 3 [a0] st = fin (B3 (run n) [some a0] st) := @fnM_eq 1 1 (B3 (run n)) [a0] st rfl
theorem c4 (n : Nat) (a0 : PV) (st : Sto) : run (n + 1) 4 [a0] st = fin (B4 (run n) [some a0] st) := @fnM_eq 1 1 (B4 (run n)) [a0] st rfl
theorem c5 (n : Nat) (a0 a1 : PV) (st : Sto) : run (n + 1) 5 [a0, a1] st = fin (B5 (run n) [some a0, some a1] st) := @fnM_eq 2 2 (B5 (run n)) [a0, a1] st rfl
theorem c6 (n : Nat) (a0 a1 a2 a3 : PV) (st : Sto) : run (n + 1) 6 [a0, a1, a2, a3] st = fin (B6 (run n) [some a0, some a1, some a2, some a3] st) := @fnM_eq 4 4 (B6 (run n)) [a0, a1, a2, a3] st rfl
theorem c7 (n : Nat) (a0 a1 a2 a3 : PV) (st : Sto) : run (n + 1) 7 [a0, a1, a2, a3] st = fin (B7 (run n) [some a0, some a1, some a2, some a3] st) := @fnM_eq 4 4 (B7 (run n)) [a0, a1, a2, a3] st rfl
theorem c8 (n : Nat) (a0 a1 : PV) (st : Sto) : run (n + 1) 8 [a0, a1] st = fin (B8 (run n) [some a0, some a1] st) := @fnM_eq 2 2 (B8 (run n)) [a0, a1] st rfl
theorem c9 (n : Nat) (a0 : PV) (st : Sto) : run (n + 1) 9 [a0] st = fin (B9 (run n) [some a0] st) := @fnM_eq 1 1 (B9 (run n)) [a0] st rfl
theorem c10 (n : Nat) (a0 a1 : PV) (st : Sto) : run (n + 1) 10 [a0, a1] st = fin (B10 (run n) [some a0, some a1, none] st) := @fnM_eq 2 3 (B10 (run n)) [a0, a1] st rfl
theorem c11 (n : Nat) (a0 a1 a2 : PV) (st : Sto) : run (n + 1) 11 [a0, a1, a2] st = fin (B11 (run n) [some a0, some a1, some a2, none, none, none, none] st) := @fnM_eq 3 7 (B11 (run n)) [a0, a1, a2] st rfl
theorem c12 (n : Nat) (a0 a1 a2 a3 : PV) (st : Sto) : run (n + 1) 12 [a0, a1, a2, a3] st = fin (B12 (run n) [some a0, some a1, some a2, some a3, none, none, none, none] st) := @fnM_eq 4 8 (B12 (run n)) [a0, a1, a2, a3] st rfl
theorem c13 (n : Nat) (a0 : PV) (st : Sto) : run (n + 1) 13 [a0] st = fin (B13 (run n) [some a0, none, none, none, none, none, none] st) := @fnM_eq 1 7 (B13 (run n)) [a0] st rfl
/-! ### more calls, the same answers -/
section
variable {F F' : Nat → OpN} (h : ∀ i, LeN (F i) (F' i))
include h
theorem mo0 : MoS (B0 F) (B0 F') := mo_s
theorem mo1 : MoS (B1 F) (B1 F') := (mo_ret (mo_andV (mo_call (h 0) mo_a) mo_e))
theorem mo2 : MoS (B2 F) (B2 F') := (mo_if (mo_not (mo_b (mo_call (h 1) mo_a))) mo_s mo_s)
theorem mo3 : MoS (B3 F) (B3 F') := mo_s
theorem mo4 : MoS (B4 F) (B4 F') := mo_s
theorem mo5 : MoS (B5 F) (B5 F') := (mo_ret (mo_call (h 1) (mo_cons mo_e (mo_cons mo_e (mo_cons (mo_bin (mo_call (h 3) mo_a) mo_e) mo_a)))))
theorem mo6 : MoS (B6 F) (B6 F') := (mo_seq mo_s (mo_seq (mo_if mo_t (mo_ret (mo_bin mo_e (mo_call (h 3) mo_a))) mo_s) (mo_seq (mo_if mo_t (mo_ret (mo_bin mo_e (mo_call (h 3) mo_a))) mo_s) (mo_seq (mo_if mo_t (mo_ret (mo_bin mo_e (mo_call (h 3) mo_a))) mo_s) mo_s))))
theorem mo7 : MoS (B7 F) (B7 F') := (mo_seq (mo_do (mo_call (h 2) mo_a)) (mo_seq (mo_if (mo_not (mo_b (mo_call (h 4) mo_a))) mo_s mo_s) (mo_seq (mo_if (mo_or (mo_not (mo_b (mo_call (h 5) mo_a))) (mo_not (mo_b (mo_call (h 5) mo_a)))) mo_s mo_s) (mo_ret (mo_call (h 6) mo_a)))))
theorem mo8 : MoS (B8 F) (B8 F') := mo_s
theorem mo9 : MoS (B9 F) (B9 F') := mo_s
theorem mo10 : MoS (B10 F) (B10 F') := mo_s
theorem mo11 : MoS (B11 F) (B11 F') := (mo_seq (mo_for mo_a (mo_if (mo_b (mo_bin (mo_call (h 7) mo_a) (mo_call (h 7) mo_a))) mo_s mo_s)) (mo_seq (mo_if (mo_b (mo_bin (mo_call (h 7) (mo_cons mo_e (mo_cons mo_e (mo_cons (mo_call (h 7) mo_a) mo_a)))) mo_e)) mo_s mo_s) (mo_seq (mo_if (mo_b (mo_bin (mo_call (h 7) (mo_cons mo_e (mo_cons mo_e (mo_cons (mo_call (h 7) mo_a) mo_a)))) mo_e)) mo_s mo_s) (mo_seq (mo_set (mo_lst (mo_cons (mo_call (h 7) mo_a) (mo_cons (mo_call (h 7) mo_a) (mo_cons (mo_call (h 7) mo_a) mo_a))))) (mo_seq mo_s (mo_seq (mo_set (mo_call (h 7) (mo_cons mo_e (mo_cons mo_e (mo_cons (mo_call (h 7) mo_a) (mo_cons (mo_call (h 7) mo_a) mo_a)))))) (mo_seq (mo_if (mo_b (mo_bin mo_e (mo_call (h 7) mo_a))) mo_s mo_s) (mo_seq (mo_set (mo_call (h 7) mo_a)) mo_s))))))))
theorem mo12 : MoS (B12 F) (B12 F') := (mo_seq (mo_for mo_a (mo_seq (mo_set (mo_call (h 7) (mo_cons mo_e (mo_cons mo_e (mo_cons (mo_call (h 7) mo_a) mo_a))))) (mo_if (mo_b (mo_bin mo_e (mo_call (h 7) (mo_cons mo_e (mo_cons mo_e (mo_cons mo_e (mo_cons (mo_call (h 7) mo_a) mo_a))))))) mo_s mo_s))) (mo_seq (mo_set (mo_call (h 7) (mo_cons mo_e (mo_cons mo_e (mo_cons mo_e (mo_cons (mo_call (h 7) mo_a) mo_a)))))) (mo_seq (mo_set (mo_lst (mo_cons (mo_call (h 7) mo_a) (mo_cons (mo_call (h 7) mo_a) mo_a)))) (mo_ret (mo_bin mo_e (mo_call (h 7) mo_a))))))
theorem mo13 : MoS (B13 F) (B13 F') := (mo_seq (mo_for (mo_it (mo_bin (mo_lst (mo_cons (mo_call (h 8) mo_a) mo_a)) mo_e)) (mo_seq (mo_set (mo_call (h 9) mo_a)) (mo_seq (mo_set (mo_bin mo_e (mo_call (h 10) mo_a))) (mo_seq mo_s (mo_for mo_a (mo_for mo_a (mo_seq (mo_if (mo_not (mo_b (mo_call (h 11) mo_a))) mo_s mo_s) (mo_if (mo_not (mo_b (mo_call (h 12) (mo_cons mo_e (mo_cons mo_e (mo_cons mo_e (mo_cons (mo_call (h 10) mo_a) mo_a))))))) mo_s mo_s)))))))) mo_s)
theorem moAll : ∀ i, LeN (bodies F i) (bodies F' i)
  | 0 => mo_fn (mo0 h)
  | 1 => mo_fn (mo1 h)
  | 2 => mo_fn (mo2 h)
  | 3 => mo_fn (mo3 h)
  | 4 => mo_fn (mo4 h)
  | 5 => mo_fn (mo5 h)
  | 6 => mo_fn (mo6 h)
  | 7 => mo_fn (mo7 h)
  | 8 => mo_fn (mo8 h)
  | 9 => mo_fn (mo9 h)
  | 10 => mo_fn (mo10 h)
  | 11 => mo_fn (mo11 h)
  | 12 => mo_fn (mo12 h)
  | 13 => mo_fn (mo13 h)
  | j + 14 => fun _ _ => by
    show Le (Res.bad) (Res.bad)
    exact .rfl
end
theorem run_up : ∀ n i, LeN (run n i) (run (n + 1) i)
  | 0, _ => fun _ _ => .inl rfl
  | n + 1, i => moAll (run_up n) i
end Lk02

namespace Lk02
open PySem PySem.Spec PyProof.Rows L2 SB
/-! ### the defs, the facts -/
def d0 : He.DefD := ⟨("is_number", none), "is_number", "is_number", defArgs st0, defBody st0, defScope st0, [], []⟩
def d1 : He.DefD := ⟨("is_from", none), "is_from", "is_from", defArgs st1, defBody st1, defScope st1, [], []⟩
def d2 : He.DefD := ⟨("need_wide", none), "need_wide", "need_wide", defArgs st2, defBody st2, defScope st2, [], []⟩
def d3 : He.DefD := ⟨("size_of", none), "size_of", "size_of", defArgs st3, defBody st3, defScope st3, [], []⟩
def d4 : He.DefD := ⟨("is_operation", none), "is_operation", "is_operation", defArgs st4, defBody st4, defScope st4, [], []⟩
def d5 : He.DefD := ⟨("is_value", none), "is_value", "is_value", defArgs st5, defBody st5, defScope st5, [], []⟩
def d6 : He.DefD := ⟨("outcome", none), "outcome", "outcome", defArgs st6, defBody st6, defScope st6, [], []⟩
def d7 : He.DefD := ⟨("reckoned", none), "reckoned", "reckoned", defArgs st7, defBody st7, defScope st7, [], []⟩
def d8 : He.DefD := ⟨("_law_cell", none), "_law_cell", "_law_cell", defArgs st8, defBody st8, defScope st8, [], []⟩
def d9 : He.DefD := ⟨("_law_pen", none), "_law_pen", "_law_pen", defArgs st9, defBody st9, defScope st9, [], []⟩
def d10 : He.DefD := ⟨("_law_draw", none), "_law_draw", "_law_draw", defArgs st10, defBody st10, defScope st10, [], []⟩
def d11 : He.DefD := ⟨("_law_two_right", none), "_law_two_right", "_law_two_right", defArgs st11, defBody st11, defScope st11, [], []⟩
def d12 : He.DefD := ⟨("_law_three_right", none), "_law_three_right", "_law_three_right", defArgs st12, defBody st12, defScope st12, [], []⟩
def d13 : He.DefD := ⟨("law", none), "law", "law", defArgs st13, defBody st13, defScope st13, [], []⟩
def fn0 : List He.DefD := [d0, d1, d2, d3, d4, d5, d6, d7, d8, d9, d10, d11, d12, d13]
def fn : List He.DefD := fn0
def fa0 : List Fb := [.he (.free "isinstance"), .he (.free "int"), .he (.free "bool"), .he (.glo "is_number"), .dat "MOST_WIDE" (.int 4), .he (.glo "is_from"), .he (.glo "NoWide"), .he (.exc "NoWide"), .dat "SIZES" (.tuple [(.int 1), (.int 2), (.int 4), (.int 8), (.int 16)]), .he (.free "str"), .dat "OPERATIONS" (.tuple [(.str "add"), (.str "sub"), (.str "mul"), (.str "div"), (.str "and"), (.str "or"), (.str "xor"), (.str "less"), (.str "same")]), .sys, .he (.glo "size_of"), .he (.glo "need_wide"), .he (.glo "is_operation"), .he (.glo "NoWord"), .he (.exc "NoWord"), .he (.glo "is_value"), .he (.glo "NoValue"), .he (.exc "NoValue")]
def fa1 : List Fb := [.he (.glo "outcome"), .he (.free "len"), .he (.glo "reckoned"), .he (.free "sorted"), .he (.glo "_law_cell"), .he (.glo "_law_pen"), .he (.glo "_law_draw"), .he (.free "range"), .he (.glo "_law_two_right"), .he (.glo "_law_three_right"), .he (.glo "law")]
def fa : List Fb := fa0 ++ fa1
def clN : Nat → Str
  | 0 => "BitsError"
  | 1 => "NoWide"
  | 2 => "NoWord"
  | 3 => "NoValue"
  | _ => ""
theorem sc0 : FnScope ["thing"] ["thing"] (defScope st0) := ⟨rfl, rfl, rfl, by decide +kernel, rfl, by decide +kernel, by decide +kernel⟩
theorem sc1 : FnScope ["thing", "least", "greatest"] ["thing", "least", "greatest"] (defScope st1) := ⟨rfl, rfl, rfl, by decide +kernel, rfl, by decide +kernel, by decide +kernel⟩
theorem sc2 : FnScope ["thing"] ["thing"] (defScope st2) := ⟨rfl, rfl, rfl, by decide +kernel, rfl, by decide +kernel, by decide +kernel⟩
theorem sc3 : FnScope ["wide"] ["wide"] (defScope st3) := ⟨rfl, rfl, rfl, by decide +kernel, rfl, by decide +kernel, by decide +kernel⟩
theorem sc4 : FnScope ["thing"] ["thing"] (defScope st4) := ⟨rfl, rfl, rfl, by decide +kernel, rfl, by decide +kernel, by decide +kernel⟩
theorem sc5 : FnScope ["wide", "thing"] ["wide", "thing"] (defScope st5) := ⟨rfl, rfl, rfl, by decide +kernel, rfl, by decide +kernel, by decide +kernel⟩
theorem sc6 : FnScope ["wide", "operation", "one", "other"] ["wide", "operation", "one", "other"] (defScope st6) := ⟨rfl, rfl, rfl, by decide +kernel, rfl, by decide +kernel, by decide +kernel⟩
theorem sc7 : FnScope ["wide", "operation", "one", "other"] ["wide", "operation", "one", "other"] (defScope st7) := ⟨rfl, rfl, rfl, by decide +kernel, rfl, by decide +kernel, by decide +kernel⟩
theorem sc8 : FnScope ["_law_script", "_law_k"] ["_law_script", "_law_k"] (defScope st8) := ⟨rfl, rfl, rfl, by decide +kernel, rfl, by decide +kernel, by decide +kernel⟩
theorem sc9 : FnScope ["_law_cell_here"] ["_law_cell_here"] (defScope st9) := ⟨rfl, rfl, rfl, by decide +kernel, rfl, by decide +kernel, by decide +kernel⟩
theorem sc10 : FnScope ["_law_pen_here", "_law_many", "_law_digit"] ["_law_pen_here", "_law_many"] (defScope st10) := ⟨rfl, rfl, rfl, by decide +kernel, rfl, by decide +kernel, by decide +kernel⟩
theorem sc11 : FnScope ["_law_wide", "_law_one", "_law_other", "_law_word", "_law_some", "_law_both", "_law_many"] ["_law_wide", "_law_one", "_law_other"] (defScope st11) := ⟨rfl, rfl, rfl, by decide +kernel, rfl, by decide +kernel, by decide +kernel⟩
theorem sc12 : FnScope ["_law_wide", "_law_one", "_law_other", "_law_third", "_law_word", "_law_first", "_law_sums", "_law_products"] ["_law_wide", "_law_one", "_law_other", "_law_third"] (defScope st12) := ⟨rfl, rfl, rfl, by decide +kernel, rfl, by decide +kernel, by decide +kernel⟩
theorem sc13 : FnScope ["_law_script", "_law_cell_here", "_law_pen_here", "_law_wide", "_law_size", "_law_one", "_law_other"] ["_law_script"] (defScope st13) := ⟨rfl, rfl, rfl, by decide +kernel, rfl, by decide +kernel, by decide +kernel⟩
/-- what a def promises -/
def psN : Nat → List Str
  | 0 => ["thing"]
  | 1 => ["thing", "least", "greatest"]
  | 2 => ["thing"]
  | 3 => ["wide"]
  | 4 => ["thing"]
  | 5 => ["wide", "thing"]
  | 6 => ["wide", "operation", "one", "other"]
  | 7 => ["wide", "operation", "one", "other"]
  | 8 => ["_law_script", "_law_k"]
  | 9 => ["_law_cell_here"]
  | 10 => ["_law_pen_here", "_law_many"]
  | 11 => ["_law_wide", "_law_one", "_law_other"]
  | 12 => ["_law_wide", "_law_one", "_law_other", "_law_third"]
  | 13 => ["_law_script"]
  | _ => []
def dN : Nat → He.DefD
  | 0 => d0
  | 1 => d1
  | 2 => d2
  | 3 => d3
  | 4 => d4
  | 5 => d5
  | 6 => d6
  | 7 => d7
  | 8 => d8
  | 9 => d9
  | 10 => d10
  | 11 => d11
  | 12 => d12
  | 13 => d13
  | _ => d0
def Okd (G : GG) (k n i : Nat) : Prop := ∃ fd, L2.FunD G.K (dN i).name (dN i).qual (dN i).params (dN i).body (dN i).scope ((dN i).dvs G.K) ((dN i).kws G.K) (He.fAd G.K (dN i).at_) fd ∧ FnG G k (He.fAd G.K (dN i).at_) (psN i) fd (run n i)
section
variable {P : Program} {w : World} {K : PySem.W.Frag} {mg : Str → Option Value} {base : Heap} {k n : Nat}
abbrev GGL (P : Program) (w : World) (K : PySem.W.Frag) (mg : Str → Option Value) (base : Heap) : GG := ⟨P, w, K, mg, base, fun c => He.ga K (clN c)⟩
theorem ok0 (T : Fx fa fn (GGL P w K mg base)) (IH : ∀ i, i < 14 → Okd (GGL P w K mg base) k n i) : Okd (GGL P w K mg base) (k + 1) (n + 1) 0 := by
  obtain ⟨fd, F⟩ := T.c.def_ 0 (d := d0) rfl
  have sc := sc0
  refine ⟨fd, F, fn_body F sc fun A outer s H E cdv bx => ?_⟩
  exact (ss_one (s_ret (e_and (e_isi (k := .int) rfl rfl (T.free 0 rfl) rfl (T.free 1 rfl) (by decide +kernel) (e_var (i := 0))) (e_one (e_not (e_isi (k := .bool) rfl rfl (T.free 0 rfl) rfl (T.free 2 rfl) (by decide +kernel) (e_var (i := 0))))))))
theorem ok1 (T : Fx fa fn (GGL P w K mg base)) (IH : ∀ i, i < 14 → Okd (GGL P w K mg base) k n i) : Okd (GGL P w K mg base) (k + 1) (n + 1) 1 := by
  obtain ⟨fd0, F0, Fn0⟩ := IH 0 (by decide)
  have b0 : L2.Binds K fd0 (psN 0) [] := L2.FunD.bindsN F0 fun _ _ _ _ _ _ us hl => match us, hl with | [_], _ => rfl
  obtain ⟨fd, F⟩ := T.c.def_ 1 (d := d1) rfl
  have sc := sc1
  refine ⟨fd, F, fn_body F sc fun A outer s H E cdv bx => ?_⟩
  exact (ss_one (s_ret (e_and (e_call bx Fn0 rfl (T.glo 3 rfl) F0.kp b0 (a_cons (e_var (i := 0)) a_nil)) (e_one (e_chain v_le v_le op_le op_le (e_var (i := 1)) (e_var (i := 0)) (e_var (i := 2)))))))
theorem ok2 (T : Fx fa fn (GGL P w K mg base)) (IH : ∀ i, i < 14 → Okd (GGL P w K mg base) k n i) : Okd (GGL P w K mg base) (k + 1) (n + 1) 2 := by
  obtain ⟨fd1, F1, Fn1⟩ := IH 1 (by decide)
  have b1 : L2.Binds K fd1 (psN 1) [] := L2.FunD.bindsN F1 fun _ _ _ _ _ _ us hl => match us, hl with | [_, _, _], _ => rfl
  obtain ⟨fd, F⟩ := T.c.def_ 2 (d := d2) rfl
  have sc := sc2
  refine ⟨fd, F, fn_body F sc fun A outer s H E cdv bx => ?_⟩
  exact (ss_one (s_if (t_not (t_val (e_call bx Fn1 rfl (T.glo 5 rfl) F1.kp b1 (a_cons (e_var (i := 0)) (a_cons e_int (a_cons (e_top (T.dat 4 rfl) rfl) a_nil)))))) (ss_one (s_raiseF (c := 1) bx (T.glo 6 rfl) (T.c.fact 7 rfl) rfl rfl)) ss_nil))
theorem ok3 (T : Fx fa fn (GGL P w K mg base)) (IH : ∀ i, i < 14 → Okd (GGL P w K mg base) k n i) : Okd (GGL P w K mg base) (k + 1) (n + 1) 3 := by
  obtain ⟨fd, F⟩ := T.c.def_ 3 (d := d3) rfl
  have sc := sc3
  refine ⟨fd, F, fn_body F sc fun A outer s H E cdv bx => ?_⟩
  exact (ss_one (s_ret (e_ix rfl (e_top (T.dat 8 rfl) rfl) (e_var (i := 0)))))
theorem ok4 (T : Fx fa fn (GGL P w K mg base)) (IH : ∀ i, i < 14 → Okd (GGL P w K mg base) k n i) : Okd (GGL P w K mg base) (k + 1) (n + 1) 4 := by
  obtain ⟨fd, F⟩ := T.c.def_ 4 (d := d4) rfl
  have sc := sc4
  refine ⟨fd, F, fn_body F sc fun A outer s H E cdv bx => ?_⟩
  exact (ss_one (s_ret (e_and (e_isi (k := .str) rfl rfl (T.free 0 rfl) rfl (T.free 9 rfl) (by decide +kernel) (e_var (i := 0))) (e_one (e_cmp v_in (op_inQ (T.sys 11 rfl) rfl bx.hu) (e_var (i := 0)) (e_top (T.dat 10 rfl) rfl) (by with_unfolding_all rfl))))))
theorem ok5 (T : Fx fa fn (GGL P w K mg base)) (IH : ∀ i, i < 14 → Okd (GGL P w K mg base) k n i) : Okd (GGL P w K mg base) (k + 1) (n + 1) 5 := by
  obtain ⟨fd1, F1, Fn1⟩ := IH 1 (by decide)
  have b1 : L2.Binds K fd1 (psN 1) [] := L2.FunD.bindsN F1 fun _ _ _ _ _ _ us hl => match us, hl with | [_, _, _], _ => rfl
  obtain ⟨fd3, F3, Fn3⟩ := IH 3 (by decide)
  have b3 : L2.Binds K fd3 (psN 3) [] := L2.FunD.bindsN F3 fun _ _ _ _ _ _ us hl => match us, hl with | [_], _ => rfl
  obtain ⟨fd, F⟩ := T.c.def_ 5 (d := d5) rfl
  have sc := sc5
  refine ⟨fd, F, fn_body F sc fun A outer s H E cdv bx => ?_⟩
  exact (ss_one (s_ret (e_call bx Fn1 rfl (T.glo 5 rfl) F1.kp b1 (a_cons (e_var (i := 1)) (a_cons e_int (a_cons (e_bin v_sub op_sub (e_call bx Fn3 rfl (T.glo 12 rfl) F3.kp b3 (a_cons (e_var (i := 0)) a_nil)) e_int) a_nil))))))
theorem ok6 (T : Fx fa fn (GGL P w K mg base)) (IH : ∀ i, i < 14 → Okd (GGL P w K mg base) k n i) : Okd (GGL P w K mg base) (k + 1) (n + 1) 6 := by
  obtain ⟨fd3, F3, Fn3⟩ := IH 3 (by decide)
  have b3 : L2.Binds K fd3 (psN 3) [] := L2.FunD.bindsN F3 fun _ _ _ _ _ _ us hl => match us, hl with | [_], _ => rfl
  obtain ⟨fd, F⟩ := T.c.def_ 6 (d := d6) rfl
  have sc := sc6
  refine ⟨fd, F, fn_body F sc fun A outer s H E cdv bx => ?_⟩
  exact (ss_cons (s_if (t_cmp v_eq (op_eqQ (T.sys 11 rfl) rfl bx.hu) (e_var (i := 1)) e_str (nomark _)) (ss_one (s_ret (e_ifx (t_cmp v_eq (op_eqQ (T.sys 11 rfl) rfl bx.hu) (e_var (i := 3)) e_int (nomark _)) e_none (e_bin v_fdiv op_fdiv (e_var (i := 2)) (e_var (i := 3)))))) ss_nil)
    (ss_cons (s_if (t_cmp v_eq (op_eqQ (T.sys 11 rfl) rfl bx.hu) (e_var (i := 1)) e_str (nomark _)) (ss_one (s_ret (e_bin v_mod op_mod (e_bin v_add op_addA (e_var (i := 2)) (e_var (i := 3))) (e_call bx Fn3 rfl (T.glo 12 rfl) F3.kp b3 (a_cons (e_var (i := 0)) a_nil))))) ss_nil)
    (ss_cons (s_if (t_cmp v_eq (op_eqQ (T.sys 11 rfl) rfl bx.hu) (e_var (i := 1)) e_str (nomark _)) (ss_one (s_ret (e_bin v_mod op_mod (e_bin v_sub op_sub (e_var (i := 2)) (e_var (i := 3))) (e_call bx Fn3 rfl (T.glo 12 rfl) F3.kp b3 (a_cons (e_var (i := 0)) a_nil))))) ss_nil)
    (ss_cons (s_if (t_cmp v_eq (op_eqQ (T.sys 11 rfl) rfl bx.hu) (e_var (i := 1)) e_str (nomark _)) (ss_one (s_ret (e_bin v_mod op_mod (e_bin v_mul op_mul (e_var (i := 2)) (e_var (i := 3))) (e_call bx Fn3 rfl (T.glo 12 rfl) F3.kp b3 (a_cons (e_var (i := 0)) a_nil))))) ss_nil)
    (ss_cons (s_if (t_cmp v_eq (op_eqQ (T.sys 11 rfl) rfl bx.hu) (e_var (i := 1)) e_str (nomark _)) (ss_one (s_ret (e_bin v_and op_and (e_var (i := 2)) (e_var (i := 3))))) ss_nil)
    (ss_cons (s_if (t_cmp v_eq (op_eqQ (T.sys 11 rfl) rfl bx.hu) (e_var (i := 1)) e_str (nomark _)) (ss_one (s_ret (e_bin v_or op_or (e_var (i := 2)) (e_var (i := 3))))) ss_nil)
    (ss_cons (s_if (t_cmp v_eq (op_eqQ (T.sys 11 rfl) rfl bx.hu) (e_var (i := 1)) e_str (nomark _)) (ss_one (s_ret (e_bin v_xor op_xor (e_var (i := 2)) (e_var (i := 3))))) ss_nil)
    (ss_one (s_ret (e_ifx (t_cmp v_eq (op_eqQ (T.sys 11 rfl) rfl bx.hu) (e_var (i := 1)) e_str (nomark _)) (e_callTy v_int call_int1 rfl (T.free 1 rfl) (by decide +kernel) (a_cons (e_cmp v_lt op_lt (e_var (i := 2)) (e_var (i := 3)) (nomark _)) a_nil)) (e_callTy v_int call_int1 rfl (T.free 1 rfl) (by decide +kernel) (a_cons (e_cmp v_eq (op_eqQ (T.sys 11 rfl) rfl bx.hu) (e_var (i := 2)) (e_var (i := 3)) (nomark _)) a_nil))))))))))))
theorem ok7 (T : Fx fa fn (GGL P w K mg base)) (IH : ∀ i, i < 14 → Okd (GGL P w K mg base) k n i) : Okd (GGL P w K mg base) (k + 1) (n + 1) 7 := by
  obtain ⟨fd2, F2, Fn2⟩ := IH 2 (by decide)
  have b2 : L2.Binds K fd2 (psN 2) [] := L2.FunD.bindsN F2 fun _ _ _ _ _ _ us hl => match us, hl with | [_], _ => rfl
  obtain ⟨fd4, F4, Fn4⟩ := IH 4 (by decide)
  have b4 : L2.Binds K fd4 (psN 4) [] := L2.FunD.bindsN F4 fun _ _ _ _ _ _ us hl => match us, hl with | [_], _ => rfl
  obtain ⟨fd5, F5, Fn5⟩ := IH 5 (by decide)
  have b5 : L2.Binds K fd5 (psN 5) [] := L2.FunD.bindsN F5 fun _ _ _ _ _ _ us hl => match us, hl with | [_, _], _ => rfl
  obtain ⟨fd6, F6, Fn6⟩ := IH 6 (by decide)
  have b6 : L2.Binds K fd6 (psN 6) [] := L2.FunD.bindsN F6 fun _ _ _ _ _ _ us hl => match us, hl with | [_, _, _, _], _ => rfl
  obtain ⟨fd, F⟩ := T.c.def_ 7 (d := d7) rfl
  have sc := sc7
  refine ⟨fd, F, fn_body F sc fun A outer s H E cdv bx => ?_⟩
  exact (ss_cons (s_do (e_call bx Fn2 rfl (T.glo 13 rfl) F2.kp b2 (a_cons (e_var (i := 0)) a_nil)))
    (ss_cons (s_if (t_not (t_val (e_call bx Fn4 rfl (T.glo 14 rfl) F4.kp b4 (a_cons (e_var (i := 1)) a_nil)))) (ss_one (s_raiseF (c := 2) bx (T.glo 15 rfl) (T.c.fact 16 rfl) rfl rfl)) ss_nil)
    (ss_cons (s_if (t_w (t_or (t_not (t_val (e_call bx Fn5 rfl (T.glo 17 rfl) F5.kp b5 (a_cons (e_var (i := 0)) (a_cons (e_var (i := 2)) a_nil))))) (t_one_or (t_not (t_val (e_call bx Fn5 rfl (T.glo 17 rfl) F5.kp b5 (a_cons (e_var (i := 0)) (a_cons (e_var (i := 3)) a_nil)))))))) (ss_one (s_raiseF (c := 3) bx (T.glo 18 rfl) (T.c.fact 19 rfl) rfl rfl)) ss_nil)
    (ss_one (s_ret (e_call bx Fn6 rfl (T.glo 20 rfl) F6.kp b6 (a_cons (e_var (i := 0)) (a_cons (e_var (i := 1)) (a_cons (e_var (i := 2)) (a_cons (e_var (i := 3)) a_nil))))))))))
theorem ok8 (T : Fx fa fn (GGL P w K mg base)) (IH : ∀ i, i < 14 → Okd (GGL P w K mg base) k n i) : Okd (GGL P w K mg base) (k + 1) (n + 1) 8 := by
  obtain ⟨fd, F⟩ := T.c.def_ 8 (d := d8) rfl
  have sc := sc8
  refine ⟨fd, F, fn_body F sc fun A outer s H E cdv bx => ?_⟩
  exact (ss_cons (s_if (t_cmp v_lt op_lt (e_var (i := 1)) (e_callB v_len call_len rfl (T.free 21 rfl) (by decide +kernel) (a_cons (e_var (i := 0)) a_nil)) (nomark _)) (ss_one (s_ret (e_ix rfl (e_var (i := 0)) (e_var (i := 1))))) ss_nil)
    (ss_one (s_ret e_int)))
theorem ok9 (T : Fx fa fn (GGL P w K mg base)) (IH : ∀ i, i < 14 → Okd (GGL P w K mg base) k n i) : Okd (GGL P w K mg base) (k + 1) (n + 1) 9 := by
  obtain ⟨fd, F⟩ := T.c.def_ 9 (d := d9) rfl
  have sc := sc9
  refine ⟨fd, F, fn_body F sc fun A outer s H E cdv bx => ?_⟩
  exact (ss_one (s_ret (e_new (a_cons (e_var (i := 0)) (a_cons (e_callTy v_int call_int1 rfl (T.free 1 rfl) (by decide +kernel) (a_cons (e_cmp v_ge op_ge (e_var (i := 0)) (e_bin v_pow op_pow e_int e_int) (nomark _)) a_nil)) a_nil)))))
theorem ok10 (T : Fx fa fn (GGL P w K mg base)) (IH : ∀ i, i < 14 → Okd (GGL P w K mg base) k n i) : Okd (GGL P w K mg base) (k + 1) (n + 1) 10 := by
  obtain ⟨fd, F⟩ := T.c.def_ 10 (d := d10) rfl
  have sc := sc10
  refine ⟨fd, F, fn_body F sc fun A outer s H E cdv bx => ?_⟩
  exact (ss_cons (s_if (t_cmp v_eq (op_eqQ (T.sys 11 rfl) rfl bx.hu) (e_ix rfl (e_var (i := 0)) e_int) e_int (nomark _)) (ss_cons (s_set (i := 2) sc.nd rfl (by first | exact Or.inl rfl | exact Or.inr rfl) (e_bin v_mod op_mod (e_ix rfl (e_var (i := 0)) e_int) (e_var (i := 1))))
    (ss_cons (s_setix (e_bin v_fdiv op_fdiv (e_ix rfl (e_var (i := 0)) e_int) (e_var (i := 1))) (e_var (i := 0)) e_int)
    (ss_one (s_ret (e_var (i := 2)))))) ss_nil)
    (ss_cons (s_setix (e_bin v_mod op_mod (e_bin v_add op_addA (e_bin v_mul op_mul (e_bin v_mod op_mod (e_ix rfl (e_var (i := 0)) e_int) e_int) e_int) e_int) e_int) (e_var (i := 0)) e_int)
    (ss_one (s_ret (e_bin v_mod op_mod (e_bin v_fdiv op_fdiv (e_bin v_mod op_mod (e_bin v_add op_addA (e_bin v_mul op_mul (e_ix rfl (e_var (i := 0)) e_int) (e_ix rfl (e_var (i := 0)) e_int)) (e_bin v_mul op_mul e_int (e_ix rfl (e_var (i := 0)) e_int))) e_int) e_int) (e_var (i := 1)))))))
theorem ok11 (T : Fx fa fn (GGL P w K mg base)) (IH : ∀ i, i < 14 → Okd (GGL P w K mg base) k n i) : Okd (GGL P w K mg base) (k + 1) (n + 1) 11 := by
  obtain ⟨fd7, F7, Fn7⟩ := IH 7 (by decide)
  have b7 : L2.Binds K fd7 (psN 7) [] := L2.FunD.bindsN F7 fun _ _ _ _ _ _ us hl => match us, hl with | [_, _, _, _], _ => rfl
  obtain ⟨fd, F⟩ := T.c.def_ 11 (d := d11) rfl
  have sc := sc11
  refine ⟨fd, F, fn_body F sc fun A outer s H E cdv bx => ?_⟩
  exact (ss_cons (s_for (passes_of rfl) bx.calm (i_seq rfl (e_tup (a_cons e_str (a_cons e_str (a_cons e_str (a_cons e_str (a_cons e_str (a_cons e_str a_nil)))))))) (g_name (i := 3) sc.nd rfl (by first | exact Or.inl rfl | exact Or.inr rfl)) (ss_one (s_if (t_cmp v_ne (op_neQ (T.sys 11 rfl) rfl bx.hu) (e_call bx Fn7 rfl (T.glo 22 rfl) F7.kp b7 (a_cons (e_var (i := 0)) (a_cons (e_var (i := 3)) (a_cons (e_var (i := 1)) (a_cons (e_var (i := 2)) a_nil))))) (e_call bx Fn7 rfl (T.glo 22 rfl) F7.kp b7 (a_cons (e_var (i := 0)) (a_cons (e_var (i := 3)) (a_cons (e_var (i := 2)) (a_cons (e_var (i := 1)) a_nil))))) (nomark _)) (ss_one (s_ret e_bool)) ss_nil)))
    (ss_cons (s_if (t_cmp v_ne (op_neQ (T.sys 11 rfl) rfl bx.hu) (e_call bx Fn7 rfl (T.glo 22 rfl) F7.kp b7 (a_cons (e_var (i := 0)) (a_cons e_str (a_cons (e_call bx Fn7 rfl (T.glo 22 rfl) F7.kp b7 (a_cons (e_var (i := 0)) (a_cons e_str (a_cons (e_var (i := 1)) (a_cons (e_var (i := 2)) a_nil))))) (a_cons (e_var (i := 2)) a_nil))))) (e_var (i := 1)) (nomark _)) (ss_one (s_ret e_bool)) ss_nil)
    (ss_cons (s_if (t_cmp v_ne (op_neQ (T.sys 11 rfl) rfl bx.hu) (e_call bx Fn7 rfl (T.glo 22 rfl) F7.kp b7 (a_cons (e_var (i := 0)) (a_cons e_str (a_cons (e_call bx Fn7 rfl (T.glo 22 rfl) F7.kp b7 (a_cons (e_var (i := 0)) (a_cons e_str (a_cons (e_var (i := 1)) (a_cons (e_var (i := 2)) a_nil))))) (a_cons (e_var (i := 2)) a_nil))))) (e_var (i := 1)) (nomark _)) (ss_one (s_ret e_bool)) ss_nil)
    (ss_cons (s_set (i := 4) sc.nd rfl (by first | exact Or.inl rfl | exact Or.inr rfl) (e_lst (a_cons (e_call bx Fn7 rfl (T.glo 22 rfl) F7.kp b7 (a_cons (e_var (i := 0)) (a_cons e_str (a_cons (e_var (i := 1)) (a_cons (e_var (i := 2)) a_nil))))) (a_cons (e_call bx Fn7 rfl (T.glo 22 rfl) F7.kp b7 (a_cons (e_var (i := 0)) (a_cons e_str (a_cons (e_var (i := 1)) (a_cons (e_var (i := 2)) a_nil))))) (a_cons (e_call bx Fn7 rfl (T.glo 22 rfl) F7.kp b7 (a_cons (e_var (i := 0)) (a_cons e_str (a_cons (e_var (i := 2)) (a_cons (e_var (i := 1)) a_nil))))) a_nil)))))
    (ss_cons (s_if (t_w (t_or (t_cmp v_ne (op_neQ (T.sys 11 rfl) rfl bx.hu) (e_callB v_sorted cr_sortedI rfl (T.free 23 rfl) (by decide +kernel) (a_cons (e_var (i := 4)) a_nil)) (e_lst (a_cons e_int (a_cons e_int (a_cons e_int a_nil)))) (nomark _)) (t_one_or (t_cmp v_ne (op_neQ (T.sys 11 rfl) rfl bx.hu) (e_ix rfl (e_var (i := 4)) e_int) (e_callTy v_int call_int1 rfl (T.free 1 rfl) (by decide +kernel) (a_cons (e_cmp v_eq (op_eqQ (T.sys 11 rfl) rfl bx.hu) (e_var (i := 1)) (e_var (i := 2)) (nomark _)) a_nil)) (nomark _))))) (ss_one (s_ret e_bool)) ss_nil)
    (ss_cons (s_set (i := 5) sc.nd rfl (by first | exact Or.inl rfl | exact Or.inr rfl) (e_call bx Fn7 rfl (T.glo 22 rfl) F7.kp b7 (a_cons (e_var (i := 0)) (a_cons e_str (a_cons (e_call bx Fn7 rfl (T.glo 22 rfl) F7.kp b7 (a_cons (e_var (i := 0)) (a_cons e_str (a_cons (e_var (i := 1)) (a_cons (e_var (i := 2)) a_nil))))) (a_cons (e_call bx Fn7 rfl (T.glo 22 rfl) F7.kp b7 (a_cons (e_var (i := 0)) (a_cons e_str (a_cons (e_var (i := 1)) (a_cons (e_var (i := 2)) a_nil))))) a_nil))))))
    (ss_cons (s_if (t_cmp v_ne (op_neQ (T.sys 11 rfl) rfl bx.hu) (e_var (i := 5)) (e_call bx Fn7 rfl (T.glo 22 rfl) F7.kp b7 (a_cons (e_var (i := 0)) (a_cons e_str (a_cons (e_var (i := 1)) (a_cons (e_var (i := 2)) a_nil))))) (nomark _)) (ss_one (s_ret e_bool)) ss_nil)
    (ss_cons (s_set (i := 6) sc.nd rfl (by first | exact Or.inl rfl | exact Or.inr rfl) (e_call bx Fn7 rfl (T.glo 22 rfl) F7.kp b7 (a_cons (e_var (i := 0)) (a_cons e_str (a_cons (e_var (i := 1)) (a_cons (e_var (i := 2)) a_nil))))))
    (ss_cons (s_if (t_w (t_or (t_cmp v_eq (op_eqQ (T.sys 11 rfl) rfl bx.hu) (e_var (i := 2)) e_int (nomark _)) (t_one_or (t_cmp v_is op_isN (e_var (i := 6)) e_none (nomark _))))) (ss_one (s_ret (e_and (e_cmp v_eq (op_eqQ (T.sys 11 rfl) rfl bx.hu) (e_var (i := 2)) e_int (nomark _)) (e_one (e_cmp v_is op_isN (e_var (i := 6)) e_none (nomark _)))))) ss_nil)
    (ss_one (s_ret (e_chain v_le v_lt op_le op_lt e_int (e_bin v_sub op_sub (e_var (i := 1)) (e_bin v_mul op_mul (e_var (i := 6)) (e_var (i := 2)))) (e_var (i := 2))))))))))))))
theorem ok12 (T : Fx fa fn (GGL P w K mg base)) (IH : ∀ i, i < 14 → Okd (GGL P w K mg base) k n i) : Okd (GGL P w K mg base) (k + 1) (n + 1) 12 := by
  obtain ⟨fd7, F7, Fn7⟩ := IH 7 (by decide)
  have b7 : L2.Binds K fd7 (psN 7) [] := L2.FunD.bindsN F7 fun _ _ _ _ _ _ us hl => match us, hl with | [_, _, _, _], _ => rfl
  obtain ⟨fd, F⟩ := T.c.def_ 12 (d := d12) rfl
  have sc := sc12
  refine ⟨fd, F, fn_body F sc fun A outer s H E cdv bx => ?_⟩
  exact (ss_cons (s_for (passes_of rfl) bx.calm (i_seq rfl (e_tup (a_cons e_str (a_cons e_str (a_cons e_str (a_cons e_str (a_cons e_str a_nil))))))) (g_name (i := 4) sc.nd rfl (by first | exact Or.inl rfl | exact Or.inr rfl)) (ss_cons (s_set (i := 5) sc.nd rfl (by first | exact Or.inl rfl | exact Or.inr rfl) (e_call bx Fn7 rfl (T.glo 22 rfl) F7.kp b7 (a_cons (e_var (i := 0)) (a_cons (e_var (i := 4)) (a_cons (e_call bx Fn7 rfl (T.glo 22 rfl) F7.kp b7 (a_cons (e_var (i := 0)) (a_cons (e_var (i := 4)) (a_cons (e_var (i := 1)) (a_cons (e_var (i := 2)) a_nil))))) (a_cons (e_var (i := 3)) a_nil))))))
    (ss_one (s_if (t_cmp v_ne (op_neQ (T.sys 11 rfl) rfl bx.hu) (e_var (i := 5)) (e_call bx Fn7 rfl (T.glo 22 rfl) F7.kp b7 (a_cons (e_var (i := 0)) (a_cons (e_var (i := 4)) (a_cons (e_var (i := 1)) (a_cons (e_call bx Fn7 rfl (T.glo 22 rfl) F7.kp b7 (a_cons (e_var (i := 0)) (a_cons (e_var (i := 4)) (a_cons (e_var (i := 2)) (a_cons (e_var (i := 3)) a_nil))))) a_nil))))) (nomark _)) (ss_one (s_ret e_bool)) ss_nil))))
    (ss_cons (s_set (i := 6) sc.nd rfl (by first | exact Or.inl rfl | exact Or.inr rfl) (e_call bx Fn7 rfl (T.glo 22 rfl) F7.kp b7 (a_cons (e_var (i := 0)) (a_cons e_str (a_cons (e_var (i := 1)) (a_cons (e_call bx Fn7 rfl (T.glo 22 rfl) F7.kp b7 (a_cons (e_var (i := 0)) (a_cons e_str (a_cons (e_var (i := 2)) (a_cons (e_var (i := 3)) a_nil))))) a_nil))))))
    (ss_cons (s_set (i := 7) sc.nd rfl (by first | exact Or.inl rfl | exact Or.inr rfl) (e_lst (a_cons (e_call bx Fn7 rfl (T.glo 22 rfl) F7.kp b7 (a_cons (e_var (i := 0)) (a_cons e_str (a_cons (e_var (i := 1)) (a_cons (e_var (i := 2)) a_nil))))) (a_cons (e_call bx Fn7 rfl (T.glo 22 rfl) F7.kp b7 (a_cons (e_var (i := 0)) (a_cons e_str (a_cons (e_var (i := 1)) (a_cons (e_var (i := 3)) a_nil))))) a_nil))))
    (ss_one (s_ret (e_cmp v_eq (op_eqQ (T.sys 11 rfl) rfl bx.hu) (e_var (i := 6)) (e_call bx Fn7 rfl (T.glo 22 rfl) F7.kp b7 (a_cons (e_var (i := 0)) (a_cons e_str (a_cons (e_ix rfl (e_var (i := 7)) e_int) (a_cons (e_ix rfl (e_var (i := 7)) e_int) a_nil))))) (nomark _)))))))
theorem ok13 (T : Fx fa fn (GGL P w K mg base)) (IH : ∀ i, i < 14 → Okd (GGL P w K mg base) k n i) : Okd (GGL P w K mg base) (k + 1) (n + 1) 13 := by
  obtain ⟨fd8, F8, Fn8⟩ := IH 8 (by decide)
  have b8 : L2.Binds K fd8 (psN 8) [] := L2.FunD.bindsN F8 fun _ _ _ _ _ _ us hl => match us, hl with | [_, _], _ => rfl
  obtain ⟨fd9, F9, Fn9⟩ := IH 9 (by decide)
  have b9 : L2.Binds K fd9 (psN 9) [] := L2.FunD.bindsN F9 fun _ _ _ _ _ _ us hl => match us, hl with | [_], _ => rfl
  obtain ⟨fd10, F10, Fn10⟩ := IH 10 (by decide)
  have b10 : L2.Binds K fd10 (psN 10) [] := L2.FunD.bindsN F10 fun _ _ _ _ _ _ us hl => match us, hl with | [_, _], _ => rfl
  obtain ⟨fd11, F11, Fn11⟩ := IH 11 (by decide)
  have b11 : L2.Binds K fd11 (psN 11) [] := L2.FunD.bindsN F11 fun _ _ _ _ _ _ us hl => match us, hl with | [_, _, _], _ => rfl
  obtain ⟨fd12, F12, Fn12⟩ := IH 12 (by decide)
  have b12 : L2.Binds K fd12 (psN 12) [] := L2.FunD.bindsN F12 fun _ _ _ _ _ _ us hl => match us, hl with | [_, _, _, _], _ => rfl
  obtain ⟨fd, F⟩ := T.c.def_ 13 (d := d13) rfl
  have sc := sc13
  refine ⟨fd, F, fn_body F sc fun A outer s H E cdv bx => ?_⟩
  exact (ss_cons (s_for (passes_of rfl) bx.calm (i_seq rfl (e_bin v_add op_addA (e_lst (a_cons (e_call bx Fn8 rfl (T.glo 24 rfl) F8.kp b8 (a_cons (e_var (i := 0)) (a_cons e_int a_nil))) a_nil)) (e_cut rfl (e_var (i := 0)) (o_some e_int) (o_some e_int)))) (g_name (i := 1) sc.nd rfl (by first | exact Or.inl rfl | exact Or.inr rfl)) (ss_cons (s_set (i := 2) sc.nd rfl (by first | exact Or.inl rfl | exact Or.inr rfl) (e_call bx Fn9 rfl (T.glo 25 rfl) F9.kp b9 (a_cons (e_var (i := 1)) a_nil)))
    (ss_cons (s_set (i := 3) sc.nd rfl (by first | exact Or.inl rfl | exact Or.inr rfl) (e_bin v_add op_addA e_int (e_call bx Fn10 rfl (T.glo 26 rfl) F10.kp b10 (a_cons (e_var (i := 2)) (a_cons e_int a_nil)))))
    (ss_cons (s_set (i := 4) sc.nd rfl (by first | exact Or.inl rfl | exact Or.inr rfl) (e_ix rfl (e_lst (a_cons e_int (a_cons e_int (a_cons e_int (a_cons e_int (a_cons e_int a_nil)))))) (e_var (i := 3))))
    (ss_one (s_for (passes_of rfl) bx.calm (i_rng1 rfl (T.free 27 rfl) (a_cons (e_var (i := 4)) a_nil)) (g_name (i := 5) sc.nd rfl (by first | exact Or.inl rfl | exact Or.inr rfl)) (ss_one (s_for (passes_of rfl) bx.calm (i_rng1 rfl (T.free 27 rfl) (a_cons (e_var (i := 4)) a_nil)) (g_name (i := 6) sc.nd rfl (by first | exact Or.inl rfl | exact Or.inr rfl)) (ss_cons (s_if (t_not (t_val (e_call bx Fn11 rfl (T.glo 28 rfl) F11.kp b11 (a_cons (e_var (i := 3)) (a_cons (e_var (i := 5)) (a_cons (e_var (i := 6)) a_nil)))))) (ss_one (s_ret e_bool)) ss_nil)
    (ss_one (s_if (t_not (t_val (e_call bx Fn12 rfl (T.glo 29 rfl) F12.kp b12 (a_cons (e_var (i := 3)) (a_cons (e_var (i := 5)) (a_cons (e_var (i := 6)) (a_cons (e_call bx Fn10 rfl (T.glo 26 rfl) F10.kp b10 (a_cons (e_var (i := 2)) (a_cons (e_var (i := 4)) a_nil))) a_nil))))))) (ss_one (s_ret e_bool)) ss_nil)))))))))))
    (ss_one (s_ret e_bool)))
theorem okAll (T : Fx fa fn (GGL P w K mg base)) : ∀ n i, i < 14 → Okd (GGL P w K mg base) n n i
  | 0, i, hi => by
    obtain ⟨fd, F⟩ := T.c.def_ (d := dN i) i (by
      match i, hi with
      | 0, _ => rfl
      | 1, _ => rfl
      | 2, _ => rfl
      | 3, _ => rfl
      | 4, _ => rfl
      | 5, _ => rfl
      | 6, _ => rfl
      | 7, _ => rfl
      | 8, _ => rfl
      | 9, _ => rfl
      | 10, _ => rfl
      | 11, _ => rfl
      | 12, _ => rfl
      | 13, _ => rfl
      | j + 14, hi => exact absurd hi (by omega))
    exact ⟨fd, F, fun _ _ _ => rfl, fun _ _ _ _ _ _ _ _ _ _ _ _ _ _ _ ⟨_, _, _, _, _, z⟩ => z.elim⟩
  | n + 1, i, hi => by
    have IH := okAll T n
    match i, hi with
    | 0, _ => exact ok0 T IH
    | 1, _ => exact ok1 T IH
    | 2, _ => exact ok2 T IH
    | 3, _ => exact ok3 T IH
    | 4, _ => exact ok4 T IH
    | 5, _ => exact ok5 T IH
    | 6, _ => exact ok6 T IH
    | 7, _ => exact ok7 T IH
    | 8, _ => exact ok8 T IH
    | 9, _ => exact ok9 T IH
    | 10, _ => exact ok10 T IH
    | 11, _ => exact ok11 T IH
    | 12, _ => exact ok12 T IH
    | 13, _ => exact ok13 T IH
    | j + 14, hi => exact absurd hi (by omega)
end
end Lk02

set_option maxHeartbeats 0
namespace Lk02
open PySem PySem.W PySem.Calls PyProof.Rows SB
/-! ### the head -/
abbrev R : OpenRow := OpenLaw.row PySem.Challenge.rw_sparebits_k02_whole_reckoning
abbrev qv : Program := view R.prog [23]
abbrev hk : Hook := hookS 5 fa fn
def ob (s : SharedT) : Bool × List He.FnW := obsSG 5 fa fn (HandSHeadRun.getT s)
theorem ob_eq (s : SharedT) : ob s = hk.obs s.abs := obsSG_eq (HandSHeadRun.getT_eq s)
def nm0 : List PySem.Str := ["BitsError", "NoWide", "NoWord", "NoValue", "MOST_WIDE", "SIZES", "OPERATIONS", "is_number", "is_from", "need_wide", "size_of", "is_operation", "is_value", "outcome", "reckoned", "_law_cell", "_law_pen", "_law_draw", "_law_two_right", "_law_three_right"]
def nms : List PySem.Str := nm0
theorem topRun (w : World) : HandSHeadRun.RunEq R qv hk ob 200000 nms w := by
  intro os
  kernel_rfl
theorem entry (hp : ∀ ns : List Int, ns.length ≤ 63 → ∃ st, run 60 13 [scriptD ns] [] = .ok (.d (.bool true)) st) : PySem.Challenge.rw_sparebits_k02_whole_reckoning.Holds := by
  w_on; o_law
  refine HandSHeadRun.head_any (r := R) (q := qv) (H := hk) (ob := ob) (M := 200000) (loose := nms) (d := HandSHeadRun.topDef R.prog 23) (kwd := []) ob_eq
    (by kernel_rfl) (fun s => by kernel_rfl) topRun (by kernel_rfl) (by kernel_rfl) (by kernel_rfl) (by rfl) (by first | assumption | decide +kernel) (by decide +kernel) ⟨rfl, rfl, rfl, rfl, rfl, by decide +kernel⟩ ?hw ?hc
  case hw => w_witness2
  case hc =>
    refine law_end (l := PySem.Challenge.rw_sparebits_k02_whole_reckoning) (k := 60) (x := "_law_script") rfl (by kernel_rfl) ⟨rfl, by decide, by decide⟩ ?F
    intro w mg f0 h Y G hmg0
    obtain ⟨K, KX, c⟩ := Y
    have hmg : mg ("law" : PySem.Str) = some (.ref f0) := by
      have e : (HandSHeadRun.topDef R.prog 23).name = ("law" : PySem.Str) := by kernel_rfl
      rw [← e]
      exact hmg0
    obtain ⟨fd, F⟩ := c.def_ (d := d13) 13 rfl
    have b := L2.FunD.bindsA (ps := ["_law_script"]) F fun _ _ _ _ _ _ us hl => match us, hl with | [_], _ => rfl
    refine ⟨K, fun c => He.ga K (clN c), fd, run 60 13, KX, fun s v => b s [v] rfl, hp, fun base hK hN => ?_⟩
    have T : Fx fa fn (GGL R.prog w K mg base) := Fx.of c hK hN
    have ef : f0 = He.ga K "law" := Value.ref.inj (Option.some.inj (hmg.symm.trans (T.glo 30 rfl)))
    obtain ⟨fd2, F2, Fn⟩ := okAll T 60 13 (by decide)
    have e2 : fd = fd2 := funD_inj F F2
    rw [ef, e2]
    exact Fn
end Lk02

namespace Lk02
open PySem PySem.Spec PyProof.Rows L2 SB
theorem r0 (n : Nat) (x : PyData) (st : Sto) : run (n + 1) 0 [.d x] st = .ok (.d (.bool (isTy .int x && !isTy .bool x))) st := by
  rw [c0]
  simp [B0]
  cases isTy .int x <;> simp
theorem r1 (n : Nat) (a l h : Int) (st : Sto) : run (n + 2) 1 [.d (.int a), .d (.int l), .d (.int h)] st = .ok (.d (.bool (decide (l ≤ a) && decide (a ≤ h)))) st := by
  rw [c1]
  simp [B1, r0, isTy, leM]
  by_cases h : l ≤ a <;> simp [h]
theorem r2 (n : Nat) (w : Nat) (st : Sto) (h1 : 1 ≤ w) (h2 : w ≤ 4) : run (n + 3) 2 [I w] st = .ok (.d .none) st := by
  have h3 : (1 : Int) ≤ w := by omega
  have h4 : (w : Int) ≤ 4 := by omega
  rw [c2]
  simp only [B2, sIf_eq, mNot_eq, mB_eq, mCall_eq, mCons_eq, mNil_eq, mK_eq, mV_eq, bind_ok, List.getElem?_cons_zero, r1, h3, h4, decide_true, Bool.and_self, asB_eq, Bool.not_true, bindS_ok, sNop_eq, fin_nx]
/-- the values -/
def sz (w : Nat) : Int := 2 ^ w
theorem wc {w : Nat} (h1 : 1 ≤ w) (h2 : w ≤ 4) : w = 1 ∨ w = 2 ∨ w = 3 ∨ w = 4 := by omega
theorem r3 (n : Nat) (a : Nat) (st : Sto) (h1 : 1 ≤ a) (h2 : a ≤ 4) : run (n + 1) 3 [I a] st = .ok (I (sz a)) st := by
  rcases wc h1 h2 with rfl | rfl | rfl | rfl <;> rfl
inductive Op where
  | add | sub | mul | div | and | or | xor | less | same
def Op.nm : Op → Str
  | .add => "add" | .sub => "sub" | .mul => "mul" | .div => "div" | .and => "and" | .or => "or" | .xor => "xor" | .less => "less" | .same => "same"
/-- what comes of two values -/
def oc (w : Nat) : Op → Int → Int → PyData
  | .add, a, b => .int ((a + b) % sz w)
  | .sub, a, b => .int ((a - b) % sz w)
  | .mul, a, b => .int (a * b % sz w)
  | .div, a, b => if b = 0 then .none else .int (a / b)
  | .and, a, b => .int (Builtin.bitAnd a b)
  | .or, a, b => .int (Builtin.bitOr a b)
  | .xor, a, b => .int (Builtin.bitXor a b)
  | .less, a, b => .int (if a < b then 1 else 0)
  | .same, a, b => .int (if a = b then 1 else 0)
theorem r4 (n : Nat) (op : Op) (st : Sto) : run (n + 1) 4 [S op.nm] st = .ok (.d (.bool true)) st := by
  cases op <;> kernel_rfl
theorem sz_pos {w : Nat} (h1 : 1 ≤ w) (h2 : w ≤ 4) : 2 ≤ sz w ∧ sz w ≤ 16 := by
  rcases wc h1 h2 with rfl | rfl | rfl | rfl <;> decide
theorem r5 (n w : Nat) (a : Int) (st : Sto) (h1 : 1 ≤ w) (h2 : w ≤ 4) (h3 : 0 ≤ a) (h4 : a < sz w) : run (n + 3) 5 [I w, I a] st = .ok (.d (.bool true)) st := by
  rw [c5]
  simp [B5, r3, r1, h1, h2, subM]
  omega
theorem r6 (n w : Nat) (op : Op) (a b : Int) (st : Sto) (h1 : 1 ≤ w) (h2 : w ≤ 4) (h3 : 0 ≤ a) (h4 : a < sz w) (h5 : 0 ≤ b) (h6 : b < sz w) : run (n + 2) 6 [I w, S op.nm, I a, I b] st = .ok (.d (oc w op a b)) st := by
  have hs := sz_pos h1 h2
  cases op with
  | add => rcases wc h1 h2 with rfl | rfl | rfl | rfl <;> kernel_rfl
  | sub => rcases wc h1 h2 with rfl | rfl | rfl | rfl <;> kernel_rfl
  | mul =>
    have e1 : eqM (S Op.mul.nm) (.d (.str "div")) st = .ok (.d (.bool false)) st := by kernel_rfl
    have e2 : eqM (S Op.mul.nm) (.d (.str "add")) st = .ok (.d (.bool false)) st := by kernel_rfl
    have e3 : eqM (S Op.mul.nm) (.d (.str "sub")) st = .ok (.d (.bool false)) st := by kernel_rfl
    have e4 : eqM (S Op.mul.nm) (.d (.str "mul")) st = .ok (.d (.bool true)) st := by kernel_rfl
    rw [c6]
    simp only [B6, sSeq_eq, sIf_eq, mB_eq, mBin_eq, mV_eq, mK_eq, bind_ok, List.getElem?_cons_succ, List.getElem?_cons_zero, e1, e2, e3, e4, asB_eq, bindS_ok, sRet_eq, sNop_eq, then_nx]
    simp [r3, h1, h2, mulM, modM, oc]
    rw [if_pos (by omega)]
    simp
    rw [if_pos (by omega)]
    simp
  | div =>
    have e1 : eqM (S Op.div.nm) (.d (.str "div")) st = .ok (.d (.bool true)) st := by kernel_rfl
    rw [c6]
    simp only [B6, sSeq_eq, sIf_eq, mB_eq, mBin_eq, mV_eq, mK_eq, bind_ok, List.getElem?_cons_succ, List.getElem?_cons_zero, e1, asB_eq, bindS_ok, sRet_eq, mIf_eq]
    by_cases q : b = 0
    · simp [oc, eqM, eqD, eqOk, PyData.canLay0, PyData.depth, PyData.eqv, q]
    · have q2 : (b == 0) = false := by simp [q]
      simp [oc, eqM, eqD, eqOk, PyData.canLay0, PyData.depth, PyData.eqv, q, q2, fdivM]
      rw [if_pos (by omega)]
      simp
  | and => rcases wc h1 h2 with rfl | rfl | rfl | rfl <;> kernel_rfl
  | or => rcases wc h1 h2 with rfl | rfl | rfl | rfl <;> kernel_rfl
  | xor => rcases wc h1 h2 with rfl | rfl | rfl | rfl <;> kernel_rfl
  | less =>
    have e : oc w .less a b = .int (if decide (a < b) = true then 1 else 0) := by simp [oc]
    rw [e]
    rcases wc h1 h2 with rfl | rfl | rfl | rfl <;> kernel_rfl
  | same =>
    have e : run (n + 2) 6 [I w, S Op.same.nm, I a, I b] st = fin (sRet (mCall intM (mCons (mBin eqM (mV 2) (mV 3)) mNil)) [some (I w), some (S Op.same.nm), some (I a), some (I b)] st) := by kernel_rfl
    rw [e]
    simp [oc, eqM, eqD, eqOk, PyData.canLay0, PyData.depth, PyData.eqv, intM]
theorem r7 (n w : Nat) (op : Op) (a b : Int) (st : Sto) (h1 : 1 ≤ w) (h2 : w ≤ 4) (h3 : 0 ≤ a) (h4 : a < sz w) (h5 : 0 ≤ b) (h6 : b < sz w) : run (n + 5) 7 [I w, S op.nm, I a, I b] st = .ok (.d (oc w op a b)) st := by
  rw [c7]
  simp [B7, r2, r4, r5, r6, h1, h2, h3, h4, h5, h6]
def opOf (x : Str) : Option Op :=
  if x = Op.add.nm then some .add else if x = Op.sub.nm then some .sub else if x = Op.mul.nm then some .mul else if x = Op.div.nm then some .div else if x = Op.and.nm then some .and
  else if x = Op.or.nm then some .or else if x = Op.xor.nm then some .xor else if x = Op.less.nm then some .less else if x = Op.same.nm then some .same else none
theorem opOf_nm {x : Str} {op : Op} (h : opOf x = some op) : x = op.nm := by
  unfold opOf at h
  repeat (split at h; (cases h; assumption))
  cases h
/-- reckoned told at once -/
def fast : Nat → OpN
  | 7, [.d (.int (.ofNat w)), .d (.str x), .d (.int (.ofNat a)), .d (.int (.ofNat b))], st => (match opOf x with
    | some op => (match Nat.ble 1 w && Nat.ble w 4 && Nat.blt a (2 ^ w) && Nat.blt b (2 ^ w) with
      | true => .ok (.d (oc w op a b)) st
      | false => .bad)
    | none => .bad)
  | _, _, _ => .bad
theorem fast_le (n i : Nat) : LeN (fast i) (run (n + 5) i) := by
  intro as st
  unfold fast
  split
  · rename_i w x a b
    split
    · rename_i op e
      have ex := opOf_nm e
      subst ex
      split
      · rename_i q
        simp only [Bool.and_eq_true] at q
        obtain ⟨⟨⟨q1, q2⟩, q3⟩, q4⟩ := q
        have q1 := Nat.le_of_ble_eq_true q1
        have q2 := Nat.le_of_ble_eq_true q2
        have q3 : a < 2 ^ w := Nat.le_of_ble_eq_true q3
        have q4 : b < 2 ^ w := Nat.le_of_ble_eq_true q4
        refine .inr (r7 n w op a b st q1 q2 (Int.natCast_nonneg _) ?_ (Int.natCast_nonneg _) ?_).symm
        · unfold sz; exact_mod_cast q3
        · unfold sz; exact_mod_cast q4
      · exact .inl rfl
    · exact .inl rfl
  · exact .inl rfl
def prs (n m : Nat) : List (Nat × Nat) := (List.range n).flatMap fun a => (List.range m).map fun b => (a, b)
theorem prs_mem {n m a b : Nat} (h1 : a < n) (h2 : b < m) : (a, b) ∈ prs n m := by
  unfold prs
  simp [h1, h2]
def env2 (w a b : Nat) : En := [some (I w), some (I a), some (I b), none, none, none, none]
theorem two1 (st : Sto) : (prs 2 2).map (fun p => B11 fast (env2 1 p.1 p.2) st) = (prs 2 2).map fun _ => .rt (.d (.bool true)) st := by kernel_rfl
theorem two2 (st : Sto) : (prs 4 4).map (fun p => B11 fast (env2 2 p.1 p.2) st) = (prs 4 4).map fun _ => .rt (.d (.bool true)) st := by kernel_rfl
theorem two3 (st : Sto) : (prs 8 8).map (fun p => B11 fast (env2 3 p.1 p.2) st) = (prs 8 8).map fun _ => .rt (.d (.bool true)) st := by kernel_rfl
theorem two4 (st : Sto) : (prs 16 16).map (fun p => B11 fast (env2 4 p.1 p.2) st) = (prs 16 16).map fun _ => .rt (.d (.bool true)) st := by kernel_rfl
theorem two_all {w a b : Nat} (st : Sto) (h1 : 1 ≤ w) (h2 : w ≤ 4) (h3 : a < 2 ^ w) (h4 : b < 2 ^ w) : B11 fast (env2 w a b) st = .rt (.d (.bool true)) st := by
  rcases wc h1 h2 with rfl | rfl | rfl | rfl
  · exact List.map_inj_left.mp (two1 st) (a, b) (prs_mem h3 h4)
  · exact List.map_inj_left.mp (two2 st) (a, b) (prs_mem h3 h4)
  · exact List.map_inj_left.mp (two3 st) (a, b) (prs_mem h3 h4)
  · exact List.map_inj_left.mp (two4 st) (a, b) (prs_mem h3 h4)
theorem r11 (n : Nat) {w a b : Nat} (st : Sto) (h1 : 1 ≤ w) (h2 : w ≤ 4) (h3 : a < 2 ^ w) (h4 : b < 2 ^ w) : run (n + 6) 11 [I w, I a, I b] st = .ok (.d (.bool true)) st := by
  rw [c11]
  have z := mo11 (fast_le n) (env2 w a b) st
  rw [two_all st h1 h2 h3 h4] at z
  rcases z with z | z
  · cases z
  · exact (congrArg fin z).symm
/-- among values, no division -/
def on (w : Nat) : Op → Nat → Nat → Nat
  | .add, a, b => (a + b) % 2 ^ w
  | .mul, a, b => a * b % 2 ^ w
  | .and, a, b => a &&& b
  | .or, a, b => a ||| b
  | .xor, a, b => a ^^^ b
  | _, _, _ => 0
def asc : Op → Bool
  | .add => true | .mul => true | .and => true | .or => true | .xor => true
  | _ => false
theorem bits_on : ∀ a b : Fin 16, Builtin.bitAnd (a.val : Int) b.val = ((a.val &&& b.val : Nat) : Int) ∧ Builtin.bitOr (a.val : Int) b.val = ((a.val ||| b.val : Nat) : Int) ∧ Builtin.bitXor (a.val : Int) b.val = ((a.val ^^^ b.val : Nat) : Int) := by decide +kernel
theorem pow16 {w : Nat} (h2 : w ≤ 4) : 2 ^ w ≤ 16 := Nat.pow_le_pow_right (by decide) h2
theorem oc_on {w a b : Nat} {op : Op} (h : asc op = true) (h2 : w ≤ 4) (h3 : a < 2 ^ w) (h4 : b < 2 ^ w) : oc w op a b = .int (on w op a b) := by
  have hp := pow16 h2
  have q := bits_on ⟨a, by omega⟩ ⟨b, by omega⟩
  cases op with
  | add => simp [oc, on, sz]
  | mul => simp [oc, on, sz]
  | and => exact congrArg PyData.int q.1
  | or => exact congrArg PyData.int q.2.1
  | xor => exact congrArg PyData.int q.2.2
  | _ => cases h
theorem on_lt {w a b : Nat} {op : Op} (h : asc op = true) (h3 : a < 2 ^ w) (h4 : b < 2 ^ w) : on w op a b < 2 ^ w := by
  have hp : 0 < 2 ^ w := Nat.two_pow_pos w
  cases op with
  | add => exact Nat.mod_lt _ hp
  | mul => exact Nat.mod_lt _ hp
  | and => exact Nat.and_lt_two_pow _ h4
  | or => exact Nat.or_lt_two_pow h3 h4
  | xor => exact Nat.xor_lt_two_pow h3 h4
  | _ => cases h
theorem on_assoc {w a b c : Nat} {op : Op} (h : asc op = true) : on w op (on w op a b) c = on w op a (on w op b c) := by
  cases op with
  | add => simp [on, Nat.add_assoc]
  | mul => simp [on, Nat.mul_assoc]
  | and => exact Nat.and_assoc _ _ _
  | or => exact Nat.or_assoc _ _ _
  | xor => exact Nat.xor_assoc _ _ _
  | _ => cases h
theorem r7n (n : Nat) {w a b : Nat} {op : Op} (st : Sto) (h : asc op = true) (h1 : 1 ≤ w) (h2 : w ≤ 4) (h3 : a < 2 ^ w) (h4 : b < 2 ^ w) : run (n + 5) 7 [I w, S op.nm, I a, I b] st = .ok (I (on w op a b)) st := by
  have e1 : (a : Int) < sz w := by unfold sz; exact_mod_cast h3
  have e2 : (b : Int) < sz w := by unfold sz; exact_mod_cast h4
  rw [r7 n w op a b st h1 h2 (Int.natCast_nonneg _) e1 (Int.natCast_nonneg _) e2, oc_on h h2 h3 h4]
def t12 (F : Nat → OpN) : Sm := (sSeq (sSet 5 (mCall (F 7) (mCons (mV 0) (mCons (mV 4) (mCons (mCall (F 7) (mCons (mV 0) (mCons (mV 4) (mCons (mV 1) (mCons (mV 2) mNil))))) (mCons (mV 3) mNil))))))
    (sIf (mB (mBin neM (mV 5) (mCall (F 7) (mCons (mV 0) (mCons (mV 4) (mCons (mV 1) (mCons (mCall (F 7) (mCons (mV 0) (mCons (mV 4) (mCons (mV 2) (mCons (mV 3) mNil))))) mNil))))))) (sRet (mK (.bool false))) sNop))
theorem turn12 (n : Nat) {w a b c : Nat} {op : Op} {x5 x6 x7 : Option PV} (st : Sto) (h : asc op = true) (h1 : 1 ≤ w) (h2 : w ≤ 4) (h3 : a < 2 ^ w) (h4 : b < 2 ^ w) (h5 : c < 2 ^ w) :
    t12 (run (n + 5)) [some (I w), some (I a), some (I b), some (I c), some (S op.nm), x5, x6, x7] st = .nx [some (I w), some (I a), some (I b), some (I c), some (S op.nm), some (I (on w op (on w op a b) c)), x6, x7] st := by
  have e1 := fun st => r7n n st h h1 h2 h3 h4
  have e2 := fun st => r7n n st h h1 h2 (on_lt h h3 h4) h5
  have e3 := fun st => r7n n st h h1 h2 h4 h5
  have e4 := fun st => r7n n st h h1 h2 h3 (on_lt h h4 h5)
  simp [t12, e1, e2, e3, e4, neM_int, on_assoc h]
theorem r12 (n : Nat) {w a b c : Nat} (st : Sto) (h1 : 1 ≤ w) (h2 : w ≤ 4) (h3 : a < 2 ^ w) (h4 : b < 2 ^ w) (h5 : c < 2 ^ w) : run (n + 6) 12 [I w, I a, I b, I c] st = .ok (.d (.bool true)) st := by
  have t := fun op x5 x6 x7 st h => turn12 n (op := op) (x5 := x5) (x6 := x6) (x7 := x7) st h h1 h2 h3 h4 h5
  have e1 : ∀ st, run (n + 5) 7 [I w, .d (.str "add"), I b, I c] st = _ := fun st => r7n n (op := .add) st rfl h1 h2 h4 h5
  have e2 : ∀ st, run (n + 5) 7 [I w, .d (.str "mul"), I a, I (on w .add b c)] st = _ := fun st => r7n n (op := .mul) st rfl h1 h2 h3 (on_lt rfl h4 h5)
  have e3 : ∀ st, run (n + 5) 7 [I w, .d (.str "mul"), I a, I b] st = _ := fun st => r7n n (op := .mul) st rfl h1 h2 h3 h4
  have e4 : ∀ st, run (n + 5) 7 [I w, .d (.str "mul"), I a, I c] st = _ := fun st => r7n n (op := .mul) st rfl h1 h2 h3 h5
  have e5 : ∀ st, run (n + 5) 7 [I w, .d (.str "add"), I (on w .mul a b), I (on w .mul a c)] st = _ := fun st => r7n n (op := .add) st rfl h1 h2 (on_lt rfl h3 h4) (on_lt rfl h3 h5)
  have dist : on w .mul a (on w .add b c) = on w .add (on w .mul a b) (on w .mul a c) := by simp [on, Nat.mul_add]
  have loop : forL (tName 4) (t12 (run (n + 5))) [S Op.add.nm, S Op.mul.nm, S Op.and.nm, S Op.or.nm, S Op.xor.nm] [some (I w), some (I a), some (I b), some (I c), none, none, none, none] st =
      .nx [some (I w), some (I a), some (I b), some (I c), some (S Op.xor.nm), some (I (on w .xor (on w .xor a b) c)), none, none] st := by
    simp only [forL_cons, forL_nil, tName_eq, List.set_cons_succ, List.set_cons_zero, t _ _ _ _ _ (show asc .add = true from rfl), t _ _ _ _ _ (show asc .mul = true from rfl), t _ _ _ _ _ (show asc .and = true from rfl), t _ _ _ _ _ (show asc .or = true from rfl), t _ _ _ _ _ (show asc .xor = true from rfl)]
  rw [c12]
  have z : ∀ C : Sm, (sSeq (sFor (itM (mTup (mCons (mK (.str "add")) (mCons (mK (.str "mul")) (mCons (mK (.str "and")) (mCons (mK (.str "or")) (mCons (mK (.str "xor")) mNil))))))) (tName 4) (t12 (run (n + 5)))) C) [some (I w), some (I a), some (I b), some (I c), none, none, none, none] st =
      C [some (I w), some (I a), some (I b), some (I c), some (S Op.xor.nm), some (I (on w .xor (on w .xor a b) c)), none, none] st := fun C => by
    have e : (sFor (itM (mTup (mCons (mK (.str "add")) (mCons (mK (.str "mul")) (mCons (mK (.str "and")) (mCons (mK (.str "or")) (mCons (mK (.str "xor")) mNil))))))) (tName 4) (t12 (run (n + 5)))) [some (I w), some (I a), some (I b), some (I c), none, none, none, none] st = forL (tName 4) (t12 (run (n + 5))) [S Op.add.nm, S Op.mul.nm, S Op.and.nm, S Op.or.nm, S Op.xor.nm] [some (I w), some (I a), some (I b), some (I c), none, none, none, none] st := by kernel_rfl
    rw [sSeq_eq, e, loop]
    rfl
  unfold B12
  refine (congrArg fin (z _)).trans ?_
  simp [e1, e2, e3, e4, e5, lstM, ixM, lstOf, eqM_int, dist, sizeLine_eq, atI, ixN]
end Lk02

namespace Lk02
open PySem PySem.Spec PyProof.Rows L2 SB
theorem r8 (n : Nat) (ns : List Int) (st : Sto) (h : ns.length ≤ 63) : run (n + 1) 8 [scriptD ns, I 0] st = .ok (I (ns.headD 0)) st := (c8 _ _ _ _).trans (cell_run ns st h)
theorem r9 (n : Nat) (c : Int) (st : Sto) : ∃ k : Int, run (n + 1) 9 [I c] st = .ok (.ref st.length) (st ++ [.lst [I c, I k]]) := by
  obtain ⟨k, e⟩ := pen_run c st
  exact ⟨k, (c9 _ _ _).trans e⟩
theorem r10 (n i : Nat) (m : Int) (st : Sto) (h : Pen st i) (h1 : 0 < m) (h2 : m < 1073741824) : ∃ (d : Int) (st' : Sto), run (n + 1) 10 [.ref i, I m] st = .ok (I d) st' ∧ 0 ≤ d ∧ d < m ∧ ∃ a k : Int, st' = st.set i (.lst [I a, I k]) := by
  obtain ⟨d, st', e, r⟩ := draw_run i m st h h1 h2
  exact ⟨d, st', (c10 _ _ _ _).trans e, r⟩
/-- what stands between two turns of the law's inner loops -/
def Mid (i w s : Nat) (c : PV) (en : En) (st : Sto) : Prop := ∃ a x5 x6 : Option PV, en = [a, some c, some (.ref i), some (I w), some (I s), x5, x6] ∧ Pen st i
def inB (F : Nat → OpN) : Sm := (sSeq (sIf (mNot (mB (mCall (F 11) (mCons (mV 3) (mCons (mV 5) (mCons (mV 6) mNil)))))) (sRet (mK (.bool false))) sNop)
    (sIf (mNot (mB (mCall (F 12) (mCons (mV 3) (mCons (mV 5) (mCons (mV 6) (mCons (mCall (F 10) (mCons (mV 2) (mCons (mV 4) mNil))) mNil))))))) (sRet (mK (.bool false))) sNop))
theorem in_run (n i w s : Nat) {x y : Nat} {a b : Option PV} (st : Sto) (h1 : 1 ≤ w) (h2 : w ≤ 4) (hs : s = 2 ^ w) (h3 : x < s) (h4 : y < s) (hp : Pen st i) :
    ∃ st', inB (run (n + 6)) [a, b, some (.ref i), some (I w), some (I s), some (I x), some (I y)] st = .nx [a, b, some (.ref i), some (I w), some (I s), some (I x), some (I y)] st' ∧ Pen st' i := by
  have hp16 := pow16 h2
  rw [← hs] at hp16
  obtain ⟨d, st', e, d0, d1, a', k', es⟩ := r10 (n + 5) i s st hp (by omega) (by omega)
  obtain ⟨c, rfl⟩ := Int.eq_ofNat_of_zero_le d0
  have h5 : c < s := by omega
  rw [hs] at h3 h4 h5
  have e11 := r11 n (w := w) (a := x) (b := y) st h1 h2 h3 h4
  have e12 := r12 n (w := w) (a := x) (b := y) (c := c) st' h1 h2 h3 h4 h5
  refine ⟨st', ?_, by rw [es]; exact hp.set _ _⟩
  simp only [inB, sSeq_eq, sIf_eq, mNot_eq, mB_eq, mCall_eq, mCons_eq, mNil_eq, mV_eq, mK_eq, List.getElem?_cons_zero, List.getElem?_cons_succ, bind_ok, e11, asB_eq, Bool.not_true, bindS_ok, sNop_eq, then_nx, e, e12]
def outB (F : Nat → OpN) : Sm := (sSeq (sSet 2 (mCall (F 9) (mCons (mV 1) mNil)))
    (sSeq (sSet 3 (mBin addM (mK (.int 1)) (mCall (F 10) (mCons (mV 2) (mCons (mK (.int 4)) mNil)))))
    (sSeq (sSet 4 (mBin ixM (mLst (mCons (mK (.int 1)) (mCons (mK (.int 2)) (mCons (mK (.int 4)) (mCons (mK (.int 8)) (mCons (mK (.int 16)) mNil)))))) (mV 3)))
    (sFor (rng1M (mCons (mV 4) mNil)) (tName 5) (sFor (rng1M (mCons (mV 4) mNil)) (tName 6) (inB F))))))
theorem loops_run (n i w s : Nat) {c : PV} {en : En} (st : Sto) (h1 : 1 ≤ w) (h2 : w ≤ 4) (hs : s = 2 ^ w) (hp : Mid i w s c en st) :
    ∃ en' st', sFor (rng1M (mCons (mV 4) mNil)) (tName 5) (sFor (rng1M (mCons (mV 4) mNil)) (tName 6) (inB (run (n + 6)))) en st = .nx en' st' ∧ Mid i w s c en' st' := by
  have hp16 := pow16 h2
  rw [← hs] at hp16
  have hr : ∀ en st, Mid i w s c en st → rng1M (mCons (mV 4) mNil) en st = .ok ((rngL 0 s).map PV.d) st := fun en st ⟨_, _, _, e, _⟩ => rng1_run (by rw [e]; rfl) (by omega)
  rw [sFor_eq, hr en st hp, bindS_ok]
  refine forL_all (Mid i w s c) _ en st hp fun p hq en1 st1 m1 => ?_
  obtain ⟨x, hx, rfl⟩ := rng_mem hq
  obtain ⟨a1, y5, y6, rfl, p1⟩ := m1
  have m2 : Mid i w s c [a1, some c, some (.ref i), some (I w), some (I s), some (I x), y6] st1 := ⟨a1, _, _, rfl, p1⟩
  obtain ⟨en3, st3, e3, b3⟩ := forL_all (t := tName 6) (B := inB (run (n + 6))) (fun en st => ∃ y6, en = [a1, some c, some (.ref i), some (I w), some (I s), some (I x), y6] ∧ Pen st i) ((rngL 0 s).map PV.d)
    [a1, some c, some (.ref i), some (I w), some (I s), some (I x), y6] st1 ⟨y6, rfl, p1⟩ (by
      rintro q hq en2 st2 ⟨z6, rfl, p2⟩
      obtain ⟨y, hy, rfl⟩ := rng_mem hq
      obtain ⟨st', e, p3⟩ := in_run n i w s (x := x) (y := y) (a := a1) (b := some c) st2 h1 h2 hs hx hy p2
      exact ⟨_, _, _, rfl, .inl e, ⟨_, rfl, p3⟩⟩)
  obtain ⟨z6, rfl, p3⟩ := b3
  refine ⟨_, [a1, some c, some (.ref i), some (I w), some (I s), some (I x), z6], st3, rfl, .inl ?_, ⟨a1, _, _, rfl, p3⟩⟩
  show sFor (rng1M (mCons (mV 4) mNil)) (tName 6) (inB (run (n + 6))) [a1, some c, some (.ref i), some (I w), some (I s), some (I x), y6] st1 = _
  rw [sFor_eq, hr _ _ m2, bindS_ok]
  exact e3
theorem datas_map (ds : List PyData) : datas (ds.map PV.d) = some ds := by
  induction ds with
  | nil => rfl
  | cons d ds ih => simp [ih]
theorem lst_run {t : Am} {ds : List PyData} {en : List (Option PV)} {st st1 : Sto} (e : t en st = .ok (ds.map PV.d) st1) (h : ds.length ≤ sizeLine) : mLst t en st = .ok (.d (.list ds)) st1 := by
  rw [mLst_eq, e]
  show lstM _ st1 = _
  unfold lstM
  rw [datas_map]
  exact if_pos h
theorem seq_set {i : Nat} {e : Em} {t : Sm} {en : En} {st st1 : Sto} {p : PV} {r : SR} (h : e en st = .ok p st1) (k : t (en.set i (some p)) st1 = r) : sSeq (sSet i e) t en st = r := by
  rw [sSeq_eq, sSet_eq, h, bindS_ok, then_nx]
  exact k
theorem out_run (n : Nat) (c : Int) {a x2 x3 x4 x5 x6 : Option PV} (st : Sto) : ∃ en' st', outB (run (n + 6)) [a, some (I c), x2, x3, x4, x5, x6] st = .nx en' st' ∧ ∃ b y2 y3 y4 y5 y6 : Option PV, en' = [b, some (I c), y2, y3, y4, y5, y6] := by
  obtain ⟨k, e9⟩ := r9 (n + 5) c st
  obtain ⟨d, st', e, d0, d1, a', k', es⟩ := r10 (n + 5) st.length 4 (st ++ [.lst [I c, I k]]) Pen.new (by omega) (by omega)
  obtain ⟨w, ew, h1, h2⟩ : ∃ w : Nat, 1 + d = (w : Int) ∧ 1 ≤ w ∧ w ≤ 4 := ⟨(1 + d).toNat, by omega, by omega, by omega⟩
  have hp : Pen st' st.length := by rw [es]; exact Pen.new.set _ _
  have e4 : ∀ st, ixM (.d (.list [.int 1, .int 2, .int 4, .int 8, .int 16])) (I (w : Int)) st = .ok (I ((2 ^ w : Nat) : Int)) st := fun st => by
    have : w = 1 ∨ w = 2 ∨ w = 3 ∨ w = 4 := by omega
    rcases this with rfl | rfl | rfl | rfl <;> rfl
  obtain ⟨en2, st2, e2, a2, y5, y6, rfl, _⟩ := loops_run n st.length w (2 ^ w) (c := I c) (en := [a, some (I c), some (.ref st.length), some (I (w : Int)), some (I ((2 ^ w : Nat) : Int)), x5, x6]) st' h1 h2 rfl ⟨a, x5, x6, rfl, hp⟩
  have l5 : ∀ en st, mLst (mCons (mK (.int 1)) (mCons (mK (.int 2)) (mCons (mK (.int 4)) (mCons (mK (.int 8)) (mCons (mK (.int 16)) mNil))))) en st = .ok (.d (.list [.int 1, .int 2, .int 4, .int 8, .int 16])) st := fun en st => lst_run (ds := [.int 1, .int 2, .int 4, .int 8, .int 16]) rfl (by rw [sizeLine_eq]; decide)
  refine ⟨[a2, some (I c), some (.ref st.length), some (I (w : Int)), some (I ((2 ^ w : Nat) : Int)), y5, y6], st2, ?_, _, _, _, _, _, _, rfl⟩
  unfold outB
  refine seq_set (p := .ref st.length) (st1 := st ++ [.lst [I c, I k]]) ?_ (seq_set (p := I (w : Int)) (st1 := st') ?_ (seq_set (p := I ((2 ^ w : Nat) : Int)) (st1 := st') ?_ ?_))
  · exact e9
  · rw [← ew]
    rw [mBin_eq, mK_eq, bind_ok, mCall_eq, mCons_eq]
    show (((Res.ok (PV.ref st.length) _).bind _).bind _).bind _ = _
    rw [bind_ok, mCons_eq, mK_eq, bind_ok, mNil_eq, bind_ok, bind_ok, bind_ok, e, bind_ok]
    rfl
  · rw [mBin_eq, l5, bind_ok]
    show Res.bind (.ok (I (w : Int)) st') _ = _
    rw [bind_ok]
    exact e4 _
  · exact e2
theorem law_pure (ns : List Int) (h : ns.length ≤ 63) : ∃ st, run 60 13 [scriptD ns] [] = .ok (.d (.bool true)) st := by
  have e8 : run 59 8 [scriptD ns, I 0] [] = .ok (I (ns.headD 0)) [] := r8 58 ns [] h
  obtain ⟨en', st', e, _⟩ := forL_all (t := tName 1) (B := outB (run 59)) (fun en _ => ∃ a b y2 y3 y4 y5 y6 : Option PV, en = [a, b, y2, y3, y4, y5, y6]) (((cells ns 4).map PyData.int).map PV.d) [some (scriptD ns), none, none, none, none, none, none] [] ⟨_, _, _, _, _, _, _, rfl⟩ (by
    rintro p hp en st ⟨a, b, y2, y3, y4, y5, y6, rfl⟩
    simp only [List.mem_map] at hp
    obtain ⟨_, ⟨c, _, rfl⟩, rfl⟩ := hp
    obtain ⟨en', st', e, b', z2, z3, z4, z5, z6, rfl⟩ := out_run 53 c (a := a) (x2 := y2) (x3 := y3) (x4 := y4) (x5 := y5) (x6 := y6) st
    exact ⟨_, _, _, rfl, .inl e, ⟨_, _, _, _, _, _, _, rfl⟩⟩)
  refine ⟨st', (c13 59 _ _).trans ?_⟩
  have l1 : 1 ≤ sizeLine := by rw [sizeLine_eq]; decide
  have hc := cut_run ns 4 [] (by decide)
  have z : B13 (run 59) = sSeq (sFor (itM (mBin addM (mLst (mCons (mCall (run 59 8) (mCons (mV 0) (mCons (mK (.int 0)) mNil))) mNil)) (mCut (mV 0) (oPart (some (mK (.int 1)))) (oPart (some (mK (.int 4))))))) (tName 1) (outB (run 59))) (sRet (mK (.bool true))) := rfl
  rw [z]
  simp only [sSeq_eq, sFor_eq, itM_eq, mBin_eq, mLst_eq, mCut_eq, oSome_eq, mCall_eq, mCons_eq, mNil_eq, mV_eq, mK_eq, List.getElem?_cons_zero, bind_ok, e8, lstM, datas_d, datas_nil, Option.map_some, List.length_cons, List.length_nil, Nat.zero_add, l1, if_true]
  rw [show (some (4 : Int)) = some ((4 : Nat) : Int) from rfl, hc]
  simp only [bind_ok, cells_run ns 4 [] (by decide) h, bindS_ok, e, then_nx, sRet_eq, mK_eq, fin_rt]
end Lk02

theorem PySem.Challenge.cw_sparebits_k02_whole_reckoning_holds : PySem.Challenge.rw_sparebits_k02_whole_reckoning.Holds := by
  exact Lk02.entry Lk02.law_pure
